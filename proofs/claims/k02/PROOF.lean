import PyProof.Rows.All
import Wide.All
import OpenK.AllK
import Wide.FinOn
import HandS.ForMost
import HandS.ForExc
import HandS.IsInst
import HandS.More
import HandS.TupLen
import HandS.Text
import KE.KDictCopyH
import PySem.Challenge.RW_seatplan_k02_free_runs
set_option Elab.async false
set_option linter.all false
set_option maxRecDepth 100000
set_option maxHeartbeats 8000000
/-! SPa: the functional layer: data D, cells, the evaluator's combinators (plain functions). -/
namespace SP
open PySem L2

/-- data without addresses -/
inductive D where
  | non | bl (b : Bool) | int (i : Int) | str (s : Str)
  | tup (xs : List D) | lst (xs : List D)
  | dk (kvs : List (Key × D)) | dt (kvs : List (List Key × D))
  | scr (ns : List Int)
instance : Inhabited D := ⟨.non⟩
/-- what a name holds: data that never changes, or a cell -/
inductive Sv where | im (d : D) | rf (n : Nat)
instance : Inhabited Sv := ⟨.im .non⟩
inductive Cell where
  | lst (xs : List D) | dk (kvs : List (Key × D)) | dt (kvs : List (List Key × D))
  | fz (d : D) | ob (fs : List (Str × Sv))
abbrev Mu := List Cell
abbrev Rho := List (Option Sv)
inductive Xn where
  | seat | hall | name | size | known | unknown | noseat | taken | noroom | room | nothing | line
  deriving DecidableEq
inductive R (α : Type) where
  | ok (a : α) (μ : Mu) | ex (c : Xn) (μ : Mu) | no
def R.bind {α β : Type} (r : R α) (k : α → Mu → R β) : R β := match r with
  | .ok a μ => k a μ
  | .ex c μ => .ex c μ
  | .no => .no
abbrev Ev := Rho → Mu → R Sv
abbrev EvA := Rho → Mu → R (List Sv)
abbrev EvT := Rho → Mu → R Bool
abbrev EvF := Rho → Mu → R Cell
inductive O where
  | nx (ρ : Rho) (μ : Mu) | rt (v : Sv) (μ : Mu) | bk (ρ : Rho) (μ : Mu) | ct (ρ : Rho) (μ : Mu)
  | ex (c : Xn) (ρ : Rho) (μ : Mu) | no
abbrev EvS := Rho → Mu → O

/-- the longest list or text that is served -/
def maxN : Nat := 1000000

def look (μ : Mu) : Sv → Option D
  | .im d => some d
  | .rf n => match μ[n]? with
    | some (.lst xs) => some (.lst xs)
    | some (.dk k) => some (.dk k)
    | some (.dt k) => some (.dt k)
    | some (.fz d) => some d
    | _ => none
def frz (μ : Mu) : Sv → Option (D × Mu)
  | .im d => some (d, μ)
  | .rf n => match μ[n]? with
    | some (.lst xs) => some (.lst xs, μ.set n (.fz (.lst xs)))
    | some (.dk k) => some (.dk k, μ.set n (.fz (.dk k)))
    | some (.dt k) => some (.dt k, μ.set n (.fz (.dt k)))
    | some (.fz d) => some (d, μ)
    | _ => none

/-! ### expressions -/
def dVar (i : Nat) : Ev := fun ρ μ => match ρ[i]? with
  | some (some v) => .ok v μ
  | _ => .no
def dC (d : D) : Ev := fun _ μ => .ok (.im d) μ
/-- the value, frozen -/
def dV (f : Ev) : Ev := fun ρ μ => (f ρ μ).bind fun v μ1 => match frz μ1 v with
  | some (d, μ2) => .ok (.im d) μ2
  | none => .no
def dOp1 (p : Sv → Mu → R Sv) (fa : Ev) : Ev := fun ρ μ => (fa ρ μ).bind p
def dOp2 (p : Sv → Sv → Mu → R Sv) (fa fb : Ev) : Ev := fun ρ μ => (fa ρ μ).bind fun a μ1 => (fb ρ μ1).bind fun b μ2 => p a b μ2
def dTest (f : Ev) : EvT := fun ρ μ => (f ρ μ).bind fun v μ1 => match v with
  | .im (.bl b) => .ok b μ1
  | _ => .no
def dAndT (f g : EvT) : EvT := fun ρ μ => (f ρ μ).bind fun b μ1 => if b then g ρ μ1 else .ok false μ1
def dOrT (f g : EvT) : EvT := fun ρ μ => (f ρ μ).bind fun b μ1 => if b then .ok true μ1 else g ρ μ1
def dNotT (f : EvT) : EvT := fun ρ μ => (f ρ μ).bind fun b μ1 => .ok (!b) μ1
def dAnd (f g : Ev) : Ev := fun ρ μ => (f ρ μ).bind fun v μ1 => match v with
  | .im (.bl true) => g ρ μ1
  | .im (.bl false) => .ok (.im (.bl false)) μ1
  | _ => .no
def dOr (f g : Ev) : Ev := fun ρ μ => (f ρ μ).bind fun v μ1 => match v with
  | .im (.bl false) => g ρ μ1
  | .im (.bl true) => .ok (.im (.bl true)) μ1
  | _ => .no
def dIfE (c : EvT) (f g : Ev) : Ev := fun ρ μ => (c ρ μ).bind fun b μ1 => if b then f ρ μ1 else g ρ μ1
def dANil : EvA := fun _ μ => .ok [] μ
def dACons (f : Ev) (g : EvA) : EvA := fun ρ μ => (f ρ μ).bind fun v μ1 => (g ρ μ1).bind fun vs μ2 => .ok (v :: vs) μ2
/-- data of a list of values: all frozen already -/
def datas : List Sv → Option (List D)
  | [] => some []
  | .im d :: r => (datas r).map (d :: ·)
  | _ => none
def dTup (g : EvA) : Ev := fun ρ μ => (g ρ μ).bind fun vs μ1 => match datas vs with
  | some ds => if ds.length ≤ maxN then .ok (.im (.tup ds)) μ1 else .no
  | none => .no
/-- a new list, a new dict: what they hold -/
def dLst (g : EvA) : EvF := fun ρ μ => (g ρ μ).bind fun vs μ1 => match datas vs with
  | some ds => if ds.length ≤ maxN then .ok (.lst ds) μ1 else .no
  | none => .no
def dDk : EvF := fun _ μ => .ok (.dk []) μ
def dDt : EvF := fun _ μ => .ok (.dt []) μ
def Cell.dat : Cell → Option D
  | .lst xs => some (.lst xs)
  | .dk k => some (.dk k)
  | .dt k => some (.dt k)
  | _ => none
/-- a new object as data; as a cell -/
def dI (f : EvF) : Ev := fun ρ μ => (f ρ μ).bind fun c μ1 => match c.dat with
  | some d => .ok (.im d) μ1
  | none => .no
def dN (f : EvF) : Ev := fun ρ μ => (f ρ μ).bind fun c μ1 => .ok (.rf μ1.length) (μ1 ++ [c])
def dOpF (p : Sv → Mu → R Cell) (fa : Ev) : EvF := fun ρ μ => (fa ρ μ).bind p
/-- a call: the callee's own function -/
def dCall (F : List Sv → Mu → R Sv) (g : EvA) : Ev := fun ρ μ => (g ρ μ).bind fun vs μ1 => F vs μ1
/-! ### primitives -/
def p1 (g : D → Option D) : Sv → Mu → R Sv := fun a μ => match look μ a with
  | some d => match g d with
    | some r => .ok (.im r) μ
    | none => .no
  | none => .no
def p2 (g : D → D → Option D) : Sv → Sv → Mu → R Sv := fun a b μ => match look μ a, look μ b with
  | some d, some e => match g d e with
    | some r => .ok (.im r) μ
    | none => .no
  | _, _ => .no
def gAdd : D → D → Option D
  | .int i, .int j => some (.int (i + j))
  | .str a, .str b => if a.length + b.length ≤ maxN then some (.str (a ++ b)) else none
  | .lst xs, .lst ys => if xs.length + ys.length ≤ maxN then some (.lst (xs ++ ys)) else none
  | _, _ => none
def gSub : D → D → Option D
  | .int i, .int j => some (.int (i - j))
  | _, _ => none
def small64 (i : Int) : Bool := Nat.ble i.natAbs 18446744073709551615
def gMul : D → D → Option D
  | .int i, .int j => if small64 i || small64 j then some (.int (i * j)) else none
  | _, _ => none
def gMod : D → D → Option D
  | .int i, .int j => if 0 < j then some (.int (i % j)) else none
  | _, _ => none
def gDiv : D → D → Option D
  | .int i, .int j => if 0 < j ∧ j < 1073741824 then some (.int (i / j)) else none
  | _, _ => none
def gInt (f : Int → Int → Bool) : D → D → Option D
  | .int i, .int j => some (.bl (f i j))
  | _, _ => none
def asInts : List D → Option (List Int)
  | [] => some []
  | .int i :: r => (asInts r).map (i :: ·)
  | _ => none
def gIsN : D → D → Option D
  | .non, .non => some (.bl true)
  | .bl _, .non => some (.bl false)
  | .int _, .non => some (.bl false)
  | .str _, .non => some (.bl false)
  | .tup _, .non => some (.bl false)
  | .lst _, .non => some (.bl false)
  | .dk _, .non => some (.bl false)
  | .dt _, .non => some (.bl false)
  | _, _ => none
def gNotN (a b : D) : Option D := match gIsN a b with
  | some (.bl x) => some (.bl (!x))
  | _ => none
def gIx : D → D → Option D
  | .lst xs, .int i => atI xs i
  | .tup xs, .int i => atI xs i
  | .scr ns, .int i => (atI ns i).map .int
  | .str s, .int i => (atI s.cps.toList i).map fun c => .str ⟨#[c]⟩
  | _, _ => none
def gLen : D → Option D
  | .lst xs => some (.int xs.length)
  | .tup xs => some (.int xs.length)
  | .scr ns => some (.int ns.length)
  | .str s => some (.int s.length)
  | .dk k => some (.int k.length)
  | .dt k => some (.int k.length)
  | _ => none
mutual
def D.py : D → PyData
  | .non => .none
  | .bl b => .bool b
  | .int i => .int i
  | .str s => .str s
  | .tup xs => .tuple (D.pys xs)
  | .lst xs => .list (D.pys xs)
  | .dk _ => .dict []
  | .dt _ => .dict []
  | .scr _ => .dict []
def D.pys : List D → List PyData
  | [] => []
  | d :: r => d.py :: D.pys r
end
mutual
/-- may be compared by == (depth below n) -/
def D.eqok : Nat → D → Bool
  | _, .non => true
  | _, .bl _ => true
  | _, .int _ => true
  | _, .str _ => true
  | 0, _ => false
  | n + 1, .tup xs => D.eqoks n xs
  | n + 1, .lst xs => D.eqoks n xs
  | _ + 1, .dk _ => false
  | _ + 1, .dt _ => false
  | _ + 1, .scr _ => false
def D.eqoks : Nat → List D → Bool
  | _, [] => true
  | n, d :: r => D.eqok n d && D.eqoks n r
end
def gEq (a b : D) : Option D := if D.eqok 9 a && D.eqok 9 b then some (.bl (PyData.eqv a.py b.py)) else none
def gNe (a b : D) : Option D := if D.eqok 9 a && D.eqok 9 b then some (.bl (!PyData.eqv a.py b.py)) else none
/-! ### what built-ins give -/
def fList : Sv → Mu → R Cell := fun a μ => match look μ a with
  | some (.lst xs) => .ok (.lst xs) μ
  | some (.tup xs) => .ok (.lst xs) μ
  | some (.dk kvs) => .ok (.lst (kvs.map fun kv => match kv.1 with | .inl i => .int i | .inr s => .str s)) μ
  | _ => .no
def gMax2 : D → D → Option D
  | .int i, .int j => some (.int (if j > i then j else i))
  | _, _ => none
def gMin2 : D → D → Option D
  | .int i, .int j => some (.int (if j < i then j else i))
  | _, _ => none
def gAbs : D → Option D
  | .int i => some (.int (if i < 0 then -i else i))
  | _ => none
def leastI : Int → List Int → Int
  | a, [] => a
  | a, b :: r => leastI (if b < a then b else a) r
def mostI : Int → List Int → Int
  | a, [] => a
  | a, b :: r => mostI (if b > a then b else a) r
def gMin1 : D → Option D
  | .lst xs => match asInts xs with
    | some (a :: r) => some (.int (leastI a r))
    | _ => none
  | _ => none
def gMax1 : D → Option D
  | .lst xs => match asInts xs with
    | some (a :: r) => some (.int (mostI a r))
    | _ => none
  | _ => none
def gSum : D → Option D
  | .lst xs => (asInts xs).map fun ns => .int ns.sum
  | _ => none
def D.tyN : D → String
  | .non => "NoneType" | .bl _ => "bool" | .int _ => "int" | .str _ => "str" | .tup _ => "tuple" | .lst _ => "list" | .dk _ => "dict" | .dt _ => "dict" | .scr _ => "script"
/-- isinstance, of the classes that the laws name -/
def isTy (T : String) (d : D) : Bool := d.tyN == T || (d.tyN == "bool" && T == "int")
def gIsi (T : String) (d : D) : Option D := match d with
  | .scr _ => none
  | _ => some (.bl (isTy T d))
def gLtT : D → D → Option D
  | .int i, .int j => some (.bl (decide (i < j)))
  | .tup xs, .tup ys => match asInts xs, asInts ys with
    | some a, some b => some (.bl (HT.lexLt a b))
    | _, _ => none
  | _, _ => none
/-- a op b op' c -/
def dChain (p p' : Sv → Sv → Mu → R Sv) (fa fb fc : Ev) : Ev := fun ρ μ => (fa ρ μ).bind fun a μ1 => (fb ρ μ1).bind fun b μ2 => (p a b μ2).bind fun k μ3 => match k with
  | .im (.bl true) => (fc ρ μ3).bind fun c μ4 => p' b c μ4
  | .im (.bl false) => .ok (.im (.bl false)) μ3
  | _ => .no
/-! ### statements -/
def sNext : EvS := fun ρ μ => .nx ρ μ
def sSeq (f g : EvS) : EvS := fun ρ μ => match f ρ μ with
  | .nx ρ1 μ1 => g ρ1 μ1
  | o => o
def sE (f : Ev) (k : Sv → Rho → Mu → O) : EvS := fun ρ μ => match f ρ μ with
  | .ok v μ1 => k v ρ μ1
  | .ex c μ1 => .ex c ρ μ1
  | .no => .no
def sAsg (i : Nat) (f : Ev) : EvS := sE f fun v ρ μ => .nx (ρ.set i (some v)) μ
def sDrop (f : Ev) : EvS := sE f fun _ ρ μ => .nx ρ μ
def sRet (f : Ev) : EvS := sE f fun v _ μ => .rt v μ
def sRetN : EvS := fun _ μ => .rt (.im .non) μ
def sIf (c : EvT) (f g : EvS) : EvS := fun ρ μ => match c ρ μ with
  | .ok b μ1 => if b then f ρ μ1 else g ρ μ1
  | .ex x μ1 => .ex x ρ μ1
  | .no => .no
def sBreak : EvS := fun ρ μ => .bk ρ μ
def sCont : EvS := fun ρ μ => .ct ρ μ
def sRaise (c : Xn) : EvS := fun ρ μ => .ex c ρ μ
def sNever : EvS := fun _ _ => .no
def loopL (i : Nat) (body : EvS) : List D → EvS
  | [], ρ, μ => .nx ρ μ
  | d :: r, ρ, μ => match body (ρ.set i (some (.im d))) μ with
    | .nx ρ1 μ1 => loopL i body r ρ1 μ1
    | .ct ρ1 μ1 => loopL i body r ρ1 μ1
    | .bk ρ1 μ1 => .nx ρ1 μ1
    | o => o
/-- the items that a for walks, frozen -/
def sForL (i : Nat) (f : Ev) (body : EvS) : EvS := sE (dV f) fun v ρ μ => match v with
  | .im (.lst xs) => loopL i body xs ρ μ
  | _ => .no
def sForS (i : Nat) (f : Ev) (body : EvS) : EvS := sE f fun v ρ μ => match v with
  | .im (.str s) => loopL i body (s.cps.toList.map fun c => .str ⟨#[c]⟩) ρ μ
  | _ => .no
def rangeD (lo : Int) (n : Nat) : List D := (List.range n).map fun (k : Nat) => D.int (lo + (k : Int))
def in62 (i : Int) : Bool := Nat.ble i.natAbs 4611686018427387903
def sForR1 (i : Nat) (f : Ev) (body : EvS) : EvS := sE f fun v ρ μ => match v with
  | .im (.int n) => if in62 n then loopL i body (rangeD 0 n.toNat) ρ μ else .no
  | _ => .no
def sForR2 (i : Nat) (f g : Ev) (body : EvS) : EvS := sE f fun v ρ μ => match v with
  | .im (.int a) => sE g (fun w ρ μ => match w with
      | .im (.int b) => if in62 a && in62 b then loopL i body (rangeD a (b - a).toNat) ρ μ else .no
      | _ => .no) ρ μ
  | _ => .no
def sWhile (c : EvT) (body : EvS) : Nat → EvS
  | 0, _, _ => .no
  | n + 1, ρ, μ => match c ρ μ with
    | .ok true μ1 => (match body ρ μ1 with
      | .nx ρ2 μ2 => sWhile c body n ρ2 μ2
      | .ct ρ2 μ2 => sWhile c body n ρ2 μ2
      | .bk ρ2 μ2 => .nx ρ2 μ2
      | o => o)
    | .ok false μ1 => .nx ρ μ1
    | .ex x μ1 => .ex x ρ μ1
    | .no => .no
/-- x.append(e), x a cell -/
def sApp (fx fe : Ev) : EvS := sE fx fun v ρ μ => match v with
  | .rf n => match μ[n]? with
    | some (.lst _) => sE fe (fun w ρ μ => match w with
      | .im d => match μ[n]? with
        | some (.lst xs) => if xs.length < maxN then .nx ρ (μ.set n (.lst (xs ++ [d]))) else .no
        | _ => .no
      | _ => .no) ρ μ
    | _ => .no
  | _ => .no
/-! ### dicts -/
def valD {κ : Type} [DecidableEq κ] (kvs : List (κ × D)) (k : κ) : Option D := (kvs.find? fun kv => decide (kv.1 = k)).map (·.2)
def putD {κ : Type} [DecidableEq κ] (kvs : List (κ × D)) (k : κ) (v : D) : List (κ × D) :=
  if (kvs.any fun kv => decide (kv.1 = k)) = true then kvs.map (fun kv => if kv.1 = k then (kv.1, v) else kv) else kvs ++ [(k, v)]
def dropD {κ : Type} [DecidableEq κ] (kvs : List (κ × D)) (k : κ) : List (κ × D) := kvs.filter fun kv => decide (kv.1 ≠ k)
def keyOf : D → Option Key
  | .int i => some (.inl i)
  | .str s => some (.inr s)
  | _ => none
def keysOf : List D → Option (List Key)
  | [] => some []
  | d :: r => match keyOf d, keysOf r with
    | some k, some ks => some (k :: ks)
    | _, _ => none
/-- what a dict holds at a key -/
def dAt : D → D → Option (Option D)
  | .dk kvs, k => (keyOf k).map fun k => valD kvs k
  | .dt kvs, .tup xs => (keysOf xs).map fun k => valD kvs k
  | _, _ => none
def gDGet (d k : D) : Option D := match dAt d k with
  | some (some v) => some v
  | _ => none
def gIn (k d : D) : Option D := (dAt d k).map fun o => .bl o.isSome
def gNotIn (k d : D) : Option D := (dAt d k).map fun o => .bl (!o.isSome)
/-- one sign in a text -/
def gInS : D → D → Option D
  | .str c, .str z => match c.cps.toList with
    | [c] => some (.bl (decide (c ∈ z.cps.toList)))
    | _ => none
  | _, _ => none
def gNotInS (k d : D) : Option D := match gInS k d with
  | some (.bl b) => some (.bl (!b))
  | _ => none
def isDict : D → Bool
  | .dk _ => true
  | .dt _ => true
  | _ => false
/-- d.get(k), d.get(k, x) -/
def dGet1 (fd fk : Ev) : Ev := fun ρ μ => (fd ρ μ).bind fun x μ1 => match look μ1 x with
  | some d0 => if isDict d0 then (fk ρ μ1).bind fun y μ2 => match look μ2 x, look μ2 y with
      | some d, some k => match dAt d k with
        | some o => .ok (.im (o.getD .non)) μ2
        | none => .no
      | _, _ => .no
    else .no
  | none => .no
def dGet2 (fd fk fz : Ev) : Ev := fun ρ μ => (fd ρ μ).bind fun x μ1 => match look μ1 x with
  | some d0 => if isDict d0 then (fk ρ μ1).bind fun y μ2 => (fz ρ μ2).bind fun z μ3 => match look μ3 x, look μ3 y, z with
      | some d, some k, .im e => match dAt d k with
        | some o => .ok (.im (o.getD e)) μ3
        | none => .no
      | _, _, _ => .no
    else .no
  | none => .no
def putCell (n : Nat) (k v : D) (ρ : Rho) (μ : Mu) : O := match μ[n]? with
  | some (.dk kvs) => match keyOf k with
    | some k => if kvs.length < maxN then .nx ρ (μ.set n (.dk (putD kvs k v))) else .no
    | none => .no
  | some (.dt kvs) => match k with
    | .tup xs => match keysOf xs with
      | some k => if kvs.length < maxN then .nx ρ (μ.set n (.dt (putD kvs k v))) else .no
      | none => .no
    | _ => .no
  | _ => .no
/-- d[k] = v -/
def sDPut (fd fk fv : Ev) : EvS := sE fv fun v ρ μ => match v with
  | .im dv => sE fd (fun x ρ μ => match x with
    | .rf n => sE fk (fun y ρ μ => match look μ y with
      | some k => putCell n k dv ρ μ
      | none => .no) ρ μ
    | _ => .no) ρ μ
  | _ => .no
/-! ### texts -/
def gCount : D → D → Option D
  | .str a, .str b => some (.int (Txt.count a b))
  | _, _ => none
def gFind : D → D → Option D
  | .str a, .str b => some (.int (Txt.find a b))
  | _, _ => none
/-- a method of a text, one argument -/
def dOpM (g : D → D → Option D) (fa fb : Ev) : Ev := fun ρ μ => (fa ρ μ).bind fun a μ1 => match a with
  | .im (.str z) => (fb ρ μ1).bind fun b μ2 => match b with
    | .im (.str w) => match g (.str z) (.str w) with
      | some r => .ok (.im r) μ2
      | none => .no
    | _ => .no
  | _ => .no
def gSl (d : D) (lo hi : Option Int) : Option D := match d with
  | .str z => some (.str (cutS z lo hi))
  | .lst xs => some (.lst ((xs.drop (HT.sIx xs.length 0 lo)).take (HT.sIx xs.length xs.length hi - HT.sIx xs.length 0 lo)))
  | _ => none
/-- a[lo:hi] -/
def dPart (o : Option Ev) : Rho → Mu → R (Option Int) := fun ρ μ => match o with
  | none => .ok none μ
  | some f => (f ρ μ).bind fun v μ1 => match v with
    | .im (.int i) => .ok (some i) μ1
    | _ => .no
def dSl (fa : Ev) (lo hi : Option Ev) : Ev := fun ρ μ => (fa ρ μ).bind fun a μ1 => (dPart lo ρ μ1).bind fun l μ2 => (dPart hi ρ μ2).bind fun h μ3 => match look μ3 a with
  | some d => match gSl d l h with
    | some r => .ok (.im r) μ3
    | none => .no
  | none => .no
def gPow : D → D → Option D
  | .int i, .int j => if 0 ≤ j ∧ j ≤ 1000000 ∧ i.natAbs < 2 ^ 64 then some (.int (i ^ j.toNat)) else none
  | _, _ => none
def gNeg : D → Option D
  | .int i => some (.int (-i))
  | _ => none
def dNotE (f : Ev) : Ev := fun ρ μ => (f ρ μ).bind fun v μ1 => match v with
  | .im (.bl b) => .ok (.im (.bl (!b))) μ1
  | _ => .no
def gStr : D → Option D
  | .int i => if i.natAbs.log2 < 1920 ∧ (toString i : Str).length ≤ maxN then some (.str (toString i)) else none
  | _ => none
def gInt1 : D → Option D
  | .int i => some (.int i)
  | .bl b => some (.int (if b then 1 else 0))
  | .str a => match PySem.intText? a with
    | some n => if a.length ≤ 640 then some (.int n) else none
    | none => none
  | _ => none
/-! ### comprehensions -/
/-- nothing may be raised here -/
def R.quiet {α : Type} : R α → R α
  | .ok a μ => .ok a μ
  | _ => .no
def lcL (i : Nat) (t : EvT) (e : Ev) : List D → Rho → Mu → R (List D)
  | [], _, μ => .ok [] μ
  | d :: r, ρ, μ => (t (ρ.set i (some (.im d))) μ).quiet.bind fun b μ1 =>
    if b then (e (ρ.set i (some (.im d))) μ1).quiet.bind fun v μ2 => match v with
      | .im x => (lcL i t e r ρ μ2).bind fun ys μ3 => .ok (x :: ys) μ3
      | _ => .no
    else lcL i t e r ρ μ1
def dYes : EvT := fun _ μ => .ok true μ
def lcEnd (r : R (List D)) : R Cell := r.bind fun ys μ1 => .ok (.lst ys) μ1
def dLcL (i : Nat) (f : Ev) (t : EvT) (e : Ev) : EvF := fun ρ μ => (dV f ρ μ).bind fun v μ1 => match v with
  | .im (.lst xs) => if xs.length ≤ maxN then lcEnd (lcL i t e xs (ρ.set i none) μ1) else .no
  | _ => .no
def dLcR1 (i : Nat) (f : Ev) (t : EvT) (e : Ev) : EvF := fun ρ μ => (f ρ μ).bind fun v μ1 => match v with
  | .im (.int n) => if in62 n && decide (n.toNat ≤ maxN) then lcEnd (lcL i t e (rangeD 0 n.toNat) (ρ.set i none) μ1) else .no
  | _ => .no
/-! ### defs -/
/-- a reference to a cell below n -/
def Sv.low (n : Nat) : Sv → Bool
  | .im _ => true
  | .rf m => decide (m < n)
def Cell.low (n : Nat) : Cell → Bool
  | .ob fs => fs.all fun p => p.2.low n
  | _ => true
/-- a def whose answer is data: its own cells go -/
def dFn (m : Nat) (b : EvS) (vs : List Sv) (μ : Mu) : R Sv := match b (vs.map some ++ List.replicate (m - vs.length) none) μ with
  | .rt v μ1 => (match frz μ1 v with
    | some (d, μ2) => if (μ2.take μ.length).all (Cell.low μ.length) && decide (μ.length ≤ μ2.length) then .ok (.im d) (μ2.take μ.length) else .no
    | none => .no)
  | .nx _ μ1 => if (μ1.take μ.length).all (Cell.low μ.length) && decide (μ.length ≤ μ1.length) then .ok (.im .non) (μ1.take μ.length) else .no
  | .ex c _ μ1 => if (μ1.take μ.length).all (Cell.low μ.length) && decide (μ.length ≤ μ1.length) then .ex c (μ1.take μ.length) else .no
  | _ => .no
/-- a def whose answer and cells stay as they are -/
def dFnR (m : Nat) (b : EvS) (vs : List Sv) (μ : Mu) : R Sv := match b (vs.map some ++ List.replicate (m - vs.length) none) μ with
  | .rt v μ1 => .ok v μ1
  | .nx _ μ1 => .ok (.im .non) μ1
  | .ex c _ μ1 => .ex c μ1
  | _ => .no
end SP

/-! SPb: what the layer's values stand for, and the states. -/
namespace SP
open PySem L2

theorem maxN_le : maxN ≤ sizeLine := by rw [sizeLine_eq]; decide
def goodS (s : Str) : Prop := s.length ≤ maxN ∧ s.cps.all (· < 0x110000) = true
def goodK : Key → Prop
  | .inl _ => True
  | .inr s => goodS s

mutual
inductive Rep (K : PySem.W.Frag) (G : Hp) : V → D → Prop
  | non : Rep K G .non .non
  | bl (b : Bool) : Rep K G (.bl b) (.bl b)
  | int (i : Int) : Rep K G (.int i) (.int i)
  | str (s : Str) (h : goodS s) : Rep K G (.str s) (.str s)
  | tup {a : Addr} {vs : List V} {ds : List D} (h : G a = some (.tup vs)) (n : ds.length ≤ maxN) (r : Reps K G vs ds) : Rep K G (.ref a) (.tup ds)
  | lst {a : Addr} {vs : List V} {ds : List D} (h : G a = some (.lst vs)) (n : ds.length ≤ maxN) (r : Reps K G vs ds) : Rep K G (.ref a) (.lst ds)
  | dk {a : Addr} {vs : List (Key × V)} {ds : List (Key × D)} (h : G a = some (.dK vs)) (n : ds.length ≤ maxN) (r : RepK K G vs ds) : Rep K G (.ref a) (.dk ds)
  | dt {a : Addr} {vs : List (List Key × V)} {ds : List (List Key × D)} (h : G a = some (.dT vs)) (n : ds.length ≤ maxN) (r : RepT K G vs ds) : Rep K G (.ref a) (.dt ds)
  | scr {a : Addr} {ns : List Int} (h : SqL K G a (ns.map V.int)) (n : ns.length ≤ maxN) : Rep K G (.ref a) (.scr ns)
inductive Reps (K : PySem.W.Frag) (G : Hp) : List V → List D → Prop
  | nil : Reps K G [] []
  | cons {v : V} {vs : List V} {d : D} {ds : List D} (h : Rep K G v d) (r : Reps K G vs ds) : Reps K G (v :: vs) (d :: ds)
inductive RepK (K : PySem.W.Frag) (G : Hp) : List (Key × V) → List (Key × D) → Prop
  | nil : RepK K G [] []
  | cons {k : Key} {v : V} {vs : List (Key × V)} {d : D} {ds : List (Key × D)} (g : goodK k) (h : Rep K G v d) (r : RepK K G vs ds) : RepK K G ((k, v) :: vs) ((k, d) :: ds)
inductive RepT (K : PySem.W.Frag) (G : Hp) : List (List Key × V) → List (List Key × D) → Prop
  | nil : RepT K G [] []
  | cons {k : List Key} {v : V} {vs : List (List Key × V)} {d : D} {ds : List (List Key × D)} (h : Rep K G v d) (r : RepT K G vs ds) : RepT K G ((k, v) :: vs) ((k, d) :: ds)
end

section
variable {K : PySem.W.Frag} {G G' : Hp}
mutual
theorem Rep.mono (e : Same G G') : ∀ {v : V} {d : D}, Rep K G v d → Rep K G' v d
  | _, _, .non => .non
  | _, _, .bl b => .bl b
  | _, _, .int i => .int i
  | _, _, .str s h => .str s h
  | _, _, .tup h n r => .tup (e _ _ h) n (Reps.mono e r)
  | _, _, .lst h n r => .lst (e _ _ h) n (Reps.mono e r)
  | _, _, .dk h n r => .dk (e _ _ h) n (RepK.mono e r)
  | _, _, .dt h n r => .dt (e _ _ h) n (RepT.mono e r)
  | _, _, .scr h n => .scr (e.seq h) n
theorem Reps.mono (e : Same G G') : ∀ {v : List V} {d : List D}, Reps K G v d → Reps K G' v d
  | _, _, .nil => .nil
  | _, _, .cons h r => .cons (Rep.mono e h) (Reps.mono e r)
theorem RepK.mono (e : Same G G') : ∀ {v : List (Key × V)} {d : List (Key × D)}, RepK K G v d → RepK K G' v d
  | _, _, .nil => .nil
  | _, _, .cons g h r => .cons g (Rep.mono e h) (RepK.mono e r)
theorem RepT.mono (e : Same G G') : ∀ {v : List (List Key × V)} {d : List (List Key × D)}, RepT K G v d → RepT K G' v d
  | _, _, .nil => .nil
  | _, _, .cons h r => .cons (Rep.mono e h) (RepT.mono e r)
end
theorem Reps.length : ∀ {v : List V} {d : List D}, Reps K G v d → v.length = d.length
  | _, _, .nil => rfl
  | _, _, .cons _ r => by simp [Reps.length r]
theorem Reps.append : ∀ {v w : List V} {d e : List D}, Reps K G v d → Reps K G w e → Reps K G (v ++ w) (d ++ e)
  | _, _, _, _, .nil, s => s
  | _, _, _, _, .cons h r, s => .cons h (Reps.append r s)
theorem Reps.get : ∀ {v : List V} {d : List D} {i : Nat} {x : D}, Reps K G v d → d[i]? = some x → ∃ u, v[i]? = some u ∧ Rep K G u x
  | _, _, _, _, .nil, e => by simp at e
  | _, _, 0, _, .cons h _, e => by simp at e; subst e; exact ⟨_, rfl, h⟩
  | _, _, i + 1, _, .cons _ r, e => by
    obtain ⟨u, h1, h2⟩ := Reps.get (i := i) r (by simpa using e)
    exact ⟨u, by simpa using h1, h2⟩
theorem Reps.get' : ∀ {v : List V} {d : List D} {i : Nat} {u : V}, Reps K G v d → v[i]? = some u → ∃ x, d[i]? = some x ∧ Rep K G u x
  | _, _, _, _, .nil, e => by simp at e
  | _, _, 0, _, .cons h _, e => by simp at e; subst e; exact ⟨_, rfl, h⟩
  | _, _, i + 1, _, .cons _ r, e => by
    obtain ⟨x, h1, h2⟩ := Reps.get' (i := i) r (by simpa using e)
    exact ⟨x, by simpa using h1, h2⟩
theorem Reps.take : ∀ {v : List V} {d : List D} (n : Nat), Reps K G v d → Reps K G (v.take n) (d.take n)
  | _, _, 0, _ => by simp; exact .nil
  | _, _, _ + 1, .nil => .nil
  | _, _, n + 1, .cons h r => .cons h (Reps.take n r)
theorem Reps.drop : ∀ {v : List V} {d : List D} (n : Nat), Reps K G v d → Reps K G (v.drop n) (d.drop n)
  | _, _, 0, r => by simpa using r
  | _, _, _ + 1, .nil => .nil
  | _, _, n + 1, .cons _ r => Reps.drop n r
theorem RepK.length : ∀ {v : List (Key × V)} {d : List (Key × D)}, RepK K G v d → v.length = d.length
  | _, _, .nil => rfl
  | _, _, .cons _ _ r => by simp [RepK.length r]
theorem RepT.length : ∀ {v : List (List Key × V)} {d : List (List Key × D)}, RepT K G v d → v.length = d.length
  | _, _, .nil => rfl
  | _, _, .cons _ r => by simp [RepT.length r]
end

/-- what the layer knows of the program at hand: the written part, the class of plans, the classes of errors -/
structure Gm where
  K : PySem.W.Frag
  C : Addr
  xv : Xn → Value

def RepS (K : PySem.W.Frag) (G : Hp) (cs : List Addr) (v : V) : Sv → Prop
  | .im d => Rep K G v d
  | .rf n => ∃ a, cs[n]? = some a ∧ v = .ref a
inductive RepF (K : PySem.W.Frag) (G : Hp) (cs : List Addr) : List (Str × V) → List (Str × Sv) → Prop
  | nil : RepF K G cs [] []
  | cons {k : Str} {v : V} {vs : List (Str × V)} {d : Sv} {ds : List (Str × Sv)} (h : RepS K G cs v d) (r : RepF K G cs vs ds) : RepF K G cs ((k, v) :: vs) ((k, d) :: ds)
inductive RepA (K : PySem.W.Frag) (G : Hp) (cs : List Addr) : List V → List Sv → Prop
  | nil : RepA K G cs [] []
  | cons {v : V} {vs : List V} {d : Sv} {ds : List Sv} (h : RepS K G cs v d) (r : RepA K G cs vs ds) : RepA K G cs (v :: vs) (d :: ds)
def RepC (Γ : Gm) (G : Hp) (cs : List Addr) (H : Hp) (a : Addr) : Cell → Prop
  | .lst xs => G a = none ∧ xs.length ≤ maxN ∧ ∃ vs, H a = some (.lst vs) ∧ Reps Γ.K G vs xs
  | .dk xs => G a = none ∧ xs.length ≤ maxN ∧ ∃ vs, H a = some (.dK vs) ∧ RepK Γ.K G vs xs
  | .dt xs => G a = none ∧ xs.length ≤ maxN ∧ ∃ vs, H a = some (.dT vs) ∧ RepT Γ.K G vs xs
  | .fz d => Rep Γ.K G (.ref a) d ∧ ∃ o, G a = some o
  | .ob fs => G a = none ∧ ∃ dx vs, H a = some (.ins Γ.C dx vs) ∧ RepF Γ.K G cs vs fs
structure RelM (Γ : Gm) (G : Hp) (cs : List Addr) (μ : Mu) (H : Hp) : Prop where
  sub : Same G H
  len : cs.length = μ.length
  nd : cs.Nodup
  cell : ∀ (n : Nat) a c, cs[n]? = some a → μ[n]? = some c → RepC Γ G cs H a c
/-- the slots -/
def RelS (K : PySem.W.Frag) (G : Hp) (cs : List Addr) (ρ : Rho) (σ : L2.St) : Prop :=
  ∀ (i : Nat) sv, ρ[i]? = some (some sv) → ∃ v, σ[i]? = some (some v) ∧ RepS K G cs v sv
structure Rel (Γ : Gm) (G : Hp) (cs : List Addr) (ρ : Rho) (μ : Mu) (σ : L2.St) (H : Hp) : Prop where
  m : RelM Γ G cs μ H
  s : RelS Γ.K G cs ρ σ
  l : σ.length = ρ.length
structure Grow (G : Hp) (cs : List Addr) (H G' : Hp) (cs' : List Addr) (H' : Hp) : Prop where
  ex : Same G G'
  pre : cs <+: cs'
  fr : ∀ a o, H a = some o → a ∉ cs → H' a = some o
  n1 : ∀ a, H a ≠ none → a ∉ cs → a ∉ cs'
  n2 : ∀ a, H a ≠ none → a ∉ cs → G a = none → G' a = none

section
variable {Γ : Gm} {K : PySem.W.Frag} {G G' G1 G2 H H' H1 H2 : Hp} {cs cs' cs1 cs2 : List Addr} {μ μ' : Mu} {ρ : Rho} {σ : L2.St}
theorem Grow.refl : Grow G cs H G cs H := ⟨.refl _, List.prefix_refl _, fun _ _ h _ => h, fun _ _ h => h, fun _ _ _ h => h⟩
theorem Grow.trans (a : Grow G cs H G1 cs1 H1) (b : Grow G1 cs1 H1 G2 cs2 H2) : Grow G cs H G2 cs2 H2 := by
  have st : ∀ x, H x ≠ none → x ∉ cs → H1 x ≠ none := fun x h1 h2 => by
    cases e : H x with
    | none => exact absurd e h1
    | some o => rw [a.fr x o e h2]; exact fun z => nomatch z
  refine ⟨a.ex.trans b.ex, a.pre.trans b.pre, fun x o h n => b.fr x o (a.fr x o h n) (a.n1 x (by rw [h]; exact fun z => nomatch z) n), fun x h n => b.n1 x (st x h n) (a.n1 x h n), fun x h n g => b.n2 x (st x h n) (a.n1 x h n) (a.n2 x h n g)⟩
theorem pre_get {cs cs' : List Addr} (p : cs <+: cs') {n : Nat} {a : Addr} (h : cs[n]? = some a) : cs'[n]? = some a := by
  obtain ⟨t, rfl⟩ := p
  have hl := (List.getElem?_eq_some_iff.mp h).1
  rw [List.getElem?_append_left hl]; exact h
theorem RepS.mono (e : Same G G') (p : cs <+: cs') {v : V} {s : Sv} (h : RepS K G cs v s) : RepS K G' cs' v s := by
  cases s with
  | im d => exact Rep.mono e h
  | rf n => obtain ⟨a, h1, h2⟩ := h; exact ⟨a, pre_get p h1, h2⟩
theorem RepA.mono (e : Same G G') (p : cs <+: cs') : ∀ {v : List V} {s : List Sv}, RepA K G cs v s → RepA K G' cs' v s
  | _, _, .nil => .nil
  | _, _, .cons h r => .cons (RepS.mono e p h) (RepA.mono e p r)
theorem RepF.mono (e : Same G G') (p : cs <+: cs') : ∀ {v : List (Str × V)} {s : List (Str × Sv)}, RepF K G cs v s → RepF K G' cs' v s
  | _, _, .nil => .nil
  | _, _, .cons h r => .cons (RepS.mono e p h) (RepF.mono e p r)
theorem RelS.mono (e : Same G G') (p : cs <+: cs') (h : RelS K G cs ρ σ) : RelS K G' cs' ρ σ := fun i sv q => by
  obtain ⟨v, h1, h2⟩ := h i sv q
  exact ⟨v, h1, h2.mono e p⟩
theorem Rel.grow (h : Rel Γ G cs ρ μ σ H) (g : Grow G cs H G' cs' H') (m : RelM Γ G' cs' μ' H') : Rel Γ G' cs' ρ μ' σ H' := ⟨m, h.s.mono g.ex g.pre, h.l⟩
theorem RelM.cell_some (h : RelM Γ G cs μ H) {n : Nat} {a : Addr} (e : cs[n]? = some a) : ∃ o, H a = some o := by
  have hl := (List.getElem?_eq_some_iff.mp e).1
  obtain ⟨c, hc⟩ : ∃ c, μ[n]? = some c := ⟨_, List.getElem?_eq_getElem (h.len ▸ hl)⟩
  have r := h.cell n a c e hc
  cases c with
  | lst xs => obtain ⟨_, _, vs, q, _⟩ := r; exact ⟨_, q⟩
  | dk xs => obtain ⟨_, _, vs, q, _⟩ := r; exact ⟨_, q⟩
  | dt xs => obtain ⟨_, _, vs, q, _⟩ := r; exact ⟨_, q⟩
  | fz d => obtain ⟨_, o, q⟩ := r; exact ⟨_, h.sub _ _ q⟩
  | ob fs => obtain ⟨_, dx, vs, q, _⟩ := r; exact ⟨_, q⟩
theorem RelM.fresh (h : RelM Γ G cs μ H) {p : Addr} (hp : H p = none) : p ∉ cs := fun hm => by
  obtain ⟨n, e⟩ := List.getElem?_of_mem hm
  obtain ⟨o, q⟩ := h.cell_some e
  rw [hp] at q; cases q
theorem RelM.freshG (h : RelM Γ G cs μ H) {p : Addr} (hp : H p = none) : G p = none := h.sub.free hp
theorem RepC.new {p a : Addr} {o : HO} {c : Cell} (hp : H p = none) (gp : G p = none) (h : RepC Γ G cs H a c) (hh : a ≠ p) : RepC Γ (upd G p o) cs (upd H p o) a c := by
  have e : Same G (upd G p o) := fun b u q => by rw [upd_ne (ne_of_none q gp)]; exact q
  cases c with
  | lst xs => obtain ⟨g, n, vs, q, r⟩ := h; exact ⟨by rw [upd_ne hh]; exact g, n, vs, by rw [upd_ne hh]; exact q, r.mono e⟩
  | dk xs => obtain ⟨g, n, vs, q, r⟩ := h; exact ⟨by rw [upd_ne hh]; exact g, n, vs, by rw [upd_ne hh]; exact q, r.mono e⟩
  | dt xs => obtain ⟨g, n, vs, q, r⟩ := h; exact ⟨by rw [upd_ne hh]; exact g, n, vs, by rw [upd_ne hh]; exact q, r.mono e⟩
  | fz d => obtain ⟨r, o', q⟩ := h; exact ⟨r.mono e, o', e _ _ q⟩
  | ob fs => obtain ⟨g, dx, vs, q, r⟩ := h; exact ⟨by rw [upd_ne hh]; exact g, dx, vs, by rw [upd_ne hh]; exact q, r.mono e (List.prefix_refl _)⟩
/-- a new object that is data -/
theorem RelM.imm (h : RelM Γ G cs μ H) {p : Addr} (hp : H p = none) (o : HO) : Grow G cs H (upd G p o) cs (upd H p o) ∧ RelM Γ (upd G p o) cs μ (upd H p o) := by
  have gp := h.freshG hp
  have np := h.fresh hp
  refine ⟨⟨fun b u q => by rw [upd_ne (ne_of_none q gp)]; exact q, List.prefix_refl _, fun a u q _ => by rw [upd_ne (ne_of_none q hp)]; exact q, fun _ _ z => z, fun a q _ g => ?_⟩, ⟨fun b u q => ?_, h.len, h.nd, fun n a c e1 e2 => ?_⟩⟩
  · have : a ≠ p := fun z => q (by rw [z]; exact hp)
    rw [upd_ne this]; exact g
  · by_cases hb : b = p
    · subst hb; rw [upd_same] at q ⊢; exact q
    · rw [upd_ne hb] at q ⊢; exact h.sub _ _ q
  · have : a ≠ p := fun z => np (by rw [← z]; exact List.mem_of_getElem? e1)
    exact (h.cell n a c e1 e2).new hp gp this
/-- a new object that is a cell -/
theorem RelM.push (h : RelM Γ G cs μ H) {p : Addr} (hp : H p = none) (o : HO) (c : Cell) (hc : RepC Γ G (cs ++ [p]) (upd H p o) p c) : Grow G cs H G (cs ++ [p]) (upd H p o) ∧ RelM Γ G (cs ++ [p]) (μ ++ [c]) (upd H p o) := by
  have gp := h.freshG hp
  have np := h.fresh hp
  refine ⟨⟨.refl _, List.prefix_append _ _, fun a u q _ => by rw [upd_ne (ne_of_none q hp)]; exact q, fun a q n z => ?_, fun a _ _ g => g⟩, ⟨fun b u q => ?_, by simp [h.len], ?_, fun n a c' e1 e2 => ?_⟩⟩
  · rcases List.mem_append.mp z with z | z
    · exact n z
    · have : a = p := by simpa using z
      exact q (by rw [this]; exact hp)
  · rw [upd_ne (ne_of_none q gp)]; exact h.sub _ _ q
  · rw [List.nodup_append]
    refine ⟨h.nd, by simp, fun a ha b hb z => np ?_⟩
    have e : b = p := by simpa using hb
    rw [← e, ← z]
    exact ha
  · by_cases hn : n < cs.length
    · rw [List.getElem?_append_left hn] at e1
      rw [List.getElem?_append_left (h.len ▸ hn)] at e2
      have na : a ≠ p := fun z => np (by rw [← z]; exact List.mem_of_getElem? e1)
      have r := h.cell n a c' e1 e2
      cases c' with
      | lst xs => obtain ⟨g, k, vs, q, r⟩ := r; exact ⟨g, k, vs, by rw [upd_ne na]; exact q, r⟩
      | dk xs => obtain ⟨g, k, vs, q, r⟩ := r; exact ⟨g, k, vs, by rw [upd_ne na]; exact q, r⟩
      | dt xs => obtain ⟨g, k, vs, q, r⟩ := r; exact ⟨g, k, vs, by rw [upd_ne na]; exact q, r⟩
      | fz d => exact r
      | ob fs => obtain ⟨g, dx, vs, q, r⟩ := r; exact ⟨g, dx, vs, by rw [upd_ne na]; exact q, r.mono (.refl _) (List.prefix_append _ _)⟩
    · have e3 : n = cs.length := by
        have := (List.getElem?_eq_some_iff.mp e1).1
        simp at this; omega
      subst e3
      rw [List.getElem?_append_right (Nat.le_refl _)] at e1
      rw [h.len, List.getElem?_append_right (Nat.le_refl _)] at e2
      simp at e1 e2
      subst e1; subst e2
      exact hc
/-- a cell is changed -/
theorem RelM.put (h : RelM Γ G cs μ H) {n : Nat} {a : Addr} (e : cs[n]? = some a) (o : HO) (c : Cell) (g : G a = none) (hc : RepC Γ G cs (upd H a o) a c) : Grow G cs H G cs (upd H a o) ∧ RelM Γ G cs (μ.set n c) (upd H a o) := by
  have hm := List.mem_of_getElem? e
  refine ⟨⟨.refl _, List.prefix_refl _, fun b u q nb => ?_, fun _ _ z => z, fun _ _ _ z => z⟩, ⟨fun b u q => ?_, by simp [h.len], h.nd, fun m b c' e1 e2 => ?_⟩⟩
  · rw [upd_ne (fun z => nb (by rw [z]; exact hm))]; exact q
  · rw [upd_ne (ne_of_none q g)]; exact h.sub _ _ q
  · by_cases hmn : m = n
    · subst hmn
      rw [e] at e1; cases e1
      have hl := (List.getElem?_eq_some_iff.mp e).1
      rw [List.getElem?_set_self (h.len ▸ hl)] at e2
      cases e2
      exact hc
    · rw [List.getElem?_set_ne (Ne.symm hmn)] at e2
      have nb : b ≠ a := fun z => hmn (by
        subst z
        have l1 := (List.getElem?_eq_some_iff.mp e1)
        have l2 := (List.getElem?_eq_some_iff.mp e)
        exact (List.getElem_inj h.nd).mp (l1.2.trans l2.2.symm))
      have r := h.cell m b c' e1 e2
      cases c' with
      | lst xs => obtain ⟨g, k, vs, q, r⟩ := r; exact ⟨g, k, vs, by rw [upd_ne nb]; exact q, r⟩
      | dk xs => obtain ⟨g, k, vs, q, r⟩ := r; exact ⟨g, k, vs, by rw [upd_ne nb]; exact q, r⟩
      | dt xs => obtain ⟨g, k, vs, q, r⟩ := r; exact ⟨g, k, vs, by rw [upd_ne nb]; exact q, r⟩
      | fz d => exact r
      | ob fs => obtain ⟨g, dx, vs, q, r⟩ := r; exact ⟨g, dx, vs, by rw [upd_ne nb]; exact q, r⟩
/-- a cell's content becomes data -/
theorem RelM.freeze (h : RelM Γ G cs μ H) {n : Nat} {a : Addr} {o : HO} {d : D} (e : cs[n]? = some a) (g : G a = none) (ho : H a = some o) (hd : Rep Γ.K (upd G a o) (.ref a) d) : Grow G cs H (upd G a o) cs H ∧ RelM Γ (upd G a o) cs (μ.set n (.fz d)) H := by
  have hm := List.mem_of_getElem? e
  have ex : Same G (upd G a o) := fun b u q => by rw [upd_ne (ne_of_none q g)]; exact q
  refine ⟨⟨ex, List.prefix_refl _, fun _ _ q _ => q, fun _ _ z => z, fun b q nb z => ?_⟩, ⟨fun b u q => ?_, by simp [h.len], h.nd, fun m b c' e1 e2 => ?_⟩⟩
  · rw [upd_ne (fun y => nb (by rw [y]; exact hm))]; exact z
  · by_cases hb : b = a
    · subst hb; rw [upd_same] at q; cases q; exact ho
    · rw [upd_ne hb] at q; exact h.sub _ _ q
  · by_cases hmn : m = n
    · subst hmn
      rw [e] at e1; cases e1
      have hl := (List.getElem?_eq_some_iff.mp e).1
      rw [List.getElem?_set_self (h.len ▸ hl)] at e2
      cases e2
      exact ⟨hd, o, upd_same⟩
    · rw [List.getElem?_set_ne (Ne.symm hmn)] at e2
      have nb : b ≠ a := fun z => hmn (by
        subst z
        have l1 := (List.getElem?_eq_some_iff.mp e1)
        have l2 := (List.getElem?_eq_some_iff.mp e)
        exact (List.getElem_inj h.nd).mp (l1.2.trans l2.2.symm))
      have r := h.cell m b c' e1 e2
      cases c' with
      | lst xs => obtain ⟨g, k, vs, q, r⟩ := r; exact ⟨by rw [upd_ne nb]; exact g, k, vs, q, r.mono ex⟩
      | dk xs => obtain ⟨g, k, vs, q, r⟩ := r; exact ⟨by rw [upd_ne nb]; exact g, k, vs, q, r.mono ex⟩
      | dt xs => obtain ⟨g, k, vs, q, r⟩ := r; exact ⟨by rw [upd_ne nb]; exact g, k, vs, q, r.mono ex⟩
      | fz d => obtain ⟨r, o', q⟩ := r; exact ⟨r.mono ex, o', ex _ _ q⟩
      | ob fs => obtain ⟨g, dx, vs, q, r⟩ := r; exact ⟨by rw [upd_ne nb]; exact g, dx, vs, q, r.mono ex (List.prefix_refl _)⟩

/-! ### look, frz -/
theorem look_ok (h : RelM Γ G cs μ H) {v : V} {s : Sv} {d : D} (r : RepS Γ.K G cs v s) (e : look μ s = some d) : Rep Γ.K H v d := by
  cases s with
  | im d' => simp only [look] at e; cases e; exact Rep.mono h.sub r
  | rf n =>
    obtain ⟨a, ha, rfl⟩ := r
    simp only [look] at e
    split at e <;> first | (cases e; done) | skip
    · rename_i xs hx; cases e; obtain ⟨_, k, vs, q, r⟩ := h.cell n a _ ha hx; exact .lst q k (r.mono h.sub)
    · rename_i xs hx; cases e; obtain ⟨_, k, vs, q, r⟩ := h.cell n a _ ha hx; exact .dk q k (r.mono h.sub)
    · rename_i xs hx; cases e; obtain ⟨_, k, vs, q, r⟩ := h.cell n a _ ha hx; exact .dt q k (r.mono h.sub)
    · rename_i xs hx; cases e; obtain ⟨r, _⟩ := h.cell n a _ ha hx; exact r.mono h.sub
theorem frz_ok (h : RelM Γ G cs μ H) {v : V} {s : Sv} {d : D} (r : RepS Γ.K G cs v s) (e : frz μ s = some (d, μ')) : ∃ G', Grow G cs H G' cs H ∧ RelM Γ G' cs μ' H ∧ Rep Γ.K G' v d := by
  cases s with
  | im d' => simp only [frz] at e; cases e; exact ⟨G, .refl, h, r⟩
  | rf n =>
    obtain ⟨a, ha, rfl⟩ := r
    simp only [frz] at e
    split at e <;> first | (cases e; done) | skip
    · rename_i xs hx; cases e; obtain ⟨g, k, vs, q, r⟩ := h.cell n a _ ha hx
      have ex : Same G (upd G a (.lst vs)) := fun b u z => by rw [upd_ne (ne_of_none z g)]; exact z
      have hd : Rep Γ.K (upd G a (.lst vs)) (.ref a) (.lst xs) := .lst upd_same k (r.mono ex)
      obtain ⟨g1, g2⟩ := h.freeze ha g q hd
      exact ⟨_, g1, g2, hd⟩
    · rename_i xs hx; cases e; obtain ⟨g, k, vs, q, r⟩ := h.cell n a _ ha hx
      have ex : Same G (upd G a (.dK vs)) := fun b u z => by rw [upd_ne (ne_of_none z g)]; exact z
      have hd : Rep Γ.K (upd G a (.dK vs)) (.ref a) (.dk xs) := .dk upd_same k (r.mono ex)
      obtain ⟨g1, g2⟩ := h.freeze ha g q hd
      exact ⟨_, g1, g2, hd⟩
    · rename_i xs hx; cases e; obtain ⟨g, k, vs, q, r⟩ := h.cell n a _ ha hx
      have ex : Same G (upd G a (.dT vs)) := fun b u z => by rw [upd_ne (ne_of_none z g)]; exact z
      have hd : Rep Γ.K (upd G a (.dT vs)) (.ref a) (.dt xs) := .dt upd_same k (r.mono ex)
      obtain ⟨g1, g2⟩ := h.freeze ha g q hd
      exact ⟨_, g1, g2, hd⟩
    · rename_i xs hx; cases e; obtain ⟨r, _⟩ := h.cell n a _ ha hx; exact ⟨G, .refl, h, r⟩
end
end SP

/-! SPc: the readings that an evaluator's function induces, and how they are put together. -/
namespace SP
open PySem L2

/-- as data, its own object in the state, what it holds in the ground -/
inductive RepL (K : PySem.W.Frag) (G H : Hp) : V → D → Prop
  | non : RepL K G H .non .non
  | bl (b : Bool) : RepL K G H (.bl b) (.bl b)
  | int (i : Int) : RepL K G H (.int i) (.int i)
  | str (s : Str) (h : goodS s) : RepL K G H (.str s) (.str s)
  | tup {a : Addr} {vs : List V} {ds : List D} (h : H a = some (.tup vs)) (n : ds.length ≤ maxN) (r : Reps K G vs ds) : RepL K G H (.ref a) (.tup ds)
  | lst {a : Addr} {vs : List V} {ds : List D} (h : H a = some (.lst vs)) (n : ds.length ≤ maxN) (r : Reps K G vs ds) : RepL K G H (.ref a) (.lst ds)
  | dk {a : Addr} {vs : List (Key × V)} {ds : List (Key × D)} (h : H a = some (.dK vs)) (n : ds.length ≤ maxN) (r : RepK K G vs ds) : RepL K G H (.ref a) (.dk ds)
  | dt {a : Addr} {vs : List (List Key × V)} {ds : List (List Key × D)} (h : H a = some (.dT vs)) (n : ds.length ≤ maxN) (r : RepT K G vs ds) : RepL K G H (.ref a) (.dt ds)
  | scr {a : Addr} {ns : List Int} (h : SqL K H a (ns.map V.int)) (n : ns.length ≤ maxN) : RepL K G H (.ref a) (.scr ns)

def Post {α β : Type} (Γ : Gm) (rep : Hp → List Addr → β → α → Prop) (E : Xn → Option Addr → Hp → Prop) (G : Hp) (cs : List Addr) (H : Hp) (r : R α) (Q : β → Hp → Prop) : Prop := match r with
  | .ok a μ' => ∀ (G' : Hp) (cs' : List Addr) (H' : Hp) (v : β), Grow G cs H G' cs' H' → RelM Γ G' cs' μ' H' → rep G' cs' v a → Q v H'
  | .ex c μ' => ∀ (G' : Hp) (cs' : List Addr) (H' : Hp) (d : Option Addr), Grow G cs H G' cs' H' → RelM Γ G' cs' μ' H' → E c d H'
  | .no => False
def PostS (Γ : Gm) (W : WX) (D : Ends) (G : Hp) (cs : List Addr) (H : Hp) (o : O) : Prop := match o with
  | .nx ρ' μ' => ∀ (G' : Hp) (cs' : List Addr) (H' : Hp) (σ' : L2.St), Grow G cs H G' cs' H' → Rel Γ G' cs' ρ' μ' σ' H' → D.nx σ' H'
  | .bk ρ' μ' => ∀ (G' : Hp) (cs' : List Addr) (H' : Hp) (σ' : L2.St), Grow G cs H G' cs' H' → Rel Γ G' cs' ρ' μ' σ' H' → D.bk σ' H'
  | .ct ρ' μ' => ∀ (G' : Hp) (cs' : List Addr) (H' : Hp) (σ' : L2.St), Grow G cs H G' cs' H' → Rel Γ G' cs' ρ' μ' σ' H' → D.ct σ' H'
  | .rt v μ' => ∀ (G' : Hp) (cs' : List Addr) (H' : Hp) (u : V), Grow G cs H G' cs' H' → RelM Γ G' cs' μ' H' → RepS Γ.K G' cs' u v → D.rt u H'
  | .ex c ρ' μ' => ∀ (G' : Hp) (cs' : List Addr) (H' : Hp) (σ' : L2.St) (d : Option Addr), Grow G cs H G' cs' H' → Rel Γ G' cs' ρ' μ' σ' H' → W (Γ.xv c) d σ' H'
  | .no => False
/-- a new object, in no cell and not yet data -/
def PostF (Γ : Gm) (E : Xn → Option Addr → Hp → Prop) (G : Hp) (cs : List Addr) (H : Hp) (r : R Cell) (Q : VK) : Prop := match r with
  | .ok c μ' => ∀ (G' : Hp) (cs' : List Addr) (H' : Hp) (p : Addr), Grow G cs H G' cs' H' → RelM Γ G' cs' μ' H' → H p = none → p ∉ cs' → RepC Γ G' cs' H' p c → Q (.ref p) H'
  | .ex c μ' => ∀ (G' : Hp) (cs' : List Addr) (H' : Hp) (d : Option Addr), Grow G cs H G' cs' H' → RelM Γ G' cs' μ' H' → E c d H'
  | .no => False
def wX (Γ : Gm) (W : WX) (σ : L2.St) : Xn → Option Addr → Hp → Prop := fun c d H => W (Γ.xv c) d σ H
def wE (Γ : Gm) (W : WX) (f : Ev) : TE := fun σ H Q => ∃ G cs ρ μ, Rel Γ G cs ρ μ σ H ∧ Post Γ (RepS Γ.K) (wX Γ W σ) G cs H (f ρ μ) Q
def wF (Γ : Gm) (W : WX) (f : EvF) : TE := fun σ H Q => ∃ G cs ρ μ, Rel Γ G cs ρ μ σ H ∧ PostF Γ (wX Γ W σ) G cs H (f ρ μ) Q
def wA (Γ : Gm) (W : WX) (f : EvA) : TA := fun σ H Q => ∃ G cs ρ μ, Rel Γ G cs ρ μ σ H ∧ Post Γ (RepA Γ.K) (wX Γ W σ) G cs H (f ρ μ) Q
def wT (Γ : Gm) (W : WX) (f : EvT) : TT := fun σ H Q => ∃ G cs ρ μ, Rel Γ G cs ρ μ σ H ∧ Post Γ (fun _ _ b c => b = c) (wX Γ W σ) G cs H (f ρ μ) Q
def wS (Γ : Gm) (W : WX) (f : EvS) : TS := fun D σ H => ∃ G cs ρ μ, Rel Γ G cs ρ μ σ H ∧ PostS Γ W D G cs H (f ρ μ)

section
variable {Γ : Gm} {W : WX} {α β γ δ : Type} {rep : Hp → List Addr → β → α → Prop} {rep2 : Hp → List Addr → δ → γ → Prop} {E : Xn → Option Addr → Hp → Prop} {G G' H H' : Hp} {cs cs' : List Addr} {Q : β → Hp → Prop}
theorem look_L {μ : Mu} (h : RelM Γ G cs μ H) {v : V} {s : Sv} {d : D} (r : RepS Γ.K G cs v s) (e : look μ s = some d) : RepL Γ.K G H v d := by
  cases s with
  | im d' =>
    have r : Rep Γ.K G v d := by
      simp only [look] at e
      cases e
      exact r
    cases r with
    | non => exact .non
    | bl b => exact .bl b
    | int i => exact .int i
    | str s h => exact .str s h
    | tup q n z => exact .tup (h.sub _ _ q) n z
    | lst q n z => exact .lst (h.sub _ _ q) n z
    | dk q n z => exact .dk (h.sub _ _ q) n z
    | dt q n z => exact .dt (h.sub _ _ q) n z
    | scr q n => exact .scr (h.sub.seq q) n
  | rf n =>
    obtain ⟨a, ha, rfl⟩ := r
    simp only [look] at e
    split at e <;> first | (cases e; done) | skip
    · rename_i xs hx; cases e; obtain ⟨_, k, vs, q, r⟩ := h.cell n a _ ha hx; exact .lst q k r
    · rename_i xs hx; cases e; obtain ⟨_, k, vs, q, r⟩ := h.cell n a _ ha hx; exact .dk q k r
    · rename_i xs hx; cases e; obtain ⟨_, k, vs, q, r⟩ := h.cell n a _ ha hx; exact .dt q k r
    · rename_i xs hx; cases e; obtain ⟨r, _⟩ := h.cell n a _ ha hx
      cases r with
      | tup q n z => exact .tup (h.sub _ _ q) n z
      | lst q n z => exact .lst (h.sub _ _ q) n z
      | dk q n z => exact .dk (h.sub _ _ q) n z
      | dt q n z => exact .dt (h.sub _ _ q) n z
      | scr q n => exact .scr (h.sub.seq q) n
theorem RepL.toRep (e : Same G H) {v : V} {d : D} (h : RepL Γ.K G H v d) : Rep Γ.K H v d := by
  cases h with
  | non => exact .non
  | bl b => exact .bl b
  | int i => exact .int i
  | str s h => exact .str s h
  | tup q n r => exact .tup q n (r.mono e)
  | lst q n r => exact .lst q n (r.mono e)
  | dk q n r => exact .dk q n (r.mono e)
  | dt q n r => exact .dt q n (r.mono e)
  | scr q n => exact .scr q n
theorem Post.mono {r : R α} (h : Post Γ rep E G cs H r Q) (g : Grow G cs H G' cs' H') : Post Γ rep E G' cs' H' r Q := by
  cases r with
  | ok a μ => exact fun G2 cs2 H2 v g2 m q => h G2 cs2 H2 v (g.trans g2) m q
  | ex c μ => exact fun G2 cs2 H2 d g2 m => h G2 cs2 H2 d (g.trans g2) m
  | no => exact h
theorem PostS.mono {D : Ends} {o : O} (h : PostS Γ W D G cs H o) (g : Grow G cs H G' cs' H') : PostS Γ W D G' cs' H' o := by
  cases o with
  | nx ρ μ => exact fun G2 cs2 H2 v g2 m => h G2 cs2 H2 v (g.trans g2) m
  | bk ρ μ => exact fun G2 cs2 H2 v g2 m => h G2 cs2 H2 v (g.trans g2) m
  | ct ρ μ => exact fun G2 cs2 H2 v g2 m => h G2 cs2 H2 v (g.trans g2) m
  | rt v μ => exact fun G2 cs2 H2 v g2 m q => h G2 cs2 H2 v (g.trans g2) m q
  | ex c ρ μ => exact fun G2 cs2 H2 σ d g2 m => h G2 cs2 H2 σ d (g.trans g2) m
  | no => exact h
theorem Grow.was (g : Grow G cs H G' cs' H') {μ : Mu} (m : RelM Γ G' cs' μ H') {p : Addr} (h : H' p = none) : H p = none := by
  cases e : H p with
  | none => rfl
  | some o =>
    by_cases hm : p ∈ cs
    · obtain ⟨t, rfl⟩ := g.pre
      exact absurd (List.mem_append_left _ hm) (m.fresh h)
    · rw [g.fr p o e hm] at h; cases h
theorem PostF.mono {r : R Cell} {Q : VK} {μ : Mu} (h : PostF Γ E G cs H r Q) (g : Grow G cs H G' cs' H') (m : RelM Γ G' cs' μ H') : PostF Γ E G' cs' H' r Q := by
  cases r with
  | ok a μ => exact fun G2 cs2 H2 p g2 m2 hp q r => h G2 cs2 H2 p (g.trans g2) m2 (g.was m hp) q r
  | ex c μ => exact fun G2 cs2 H2 d g2 m => h G2 cs2 H2 d (g.trans g2) m
  | no => exact h
theorem PostF.bind {r : R α} {k : α → Mu → R Cell} {Q2 : VK} {rep : Hp → List Addr → β → α → Prop} (h : PostF Γ E G cs H (r.bind k) Q2) :
    Post Γ rep E G cs H r fun v H1 => ∃ G1 cs1 a μ1, Grow G cs H G1 cs1 H1 ∧ RelM Γ G1 cs1 μ1 H1 ∧ rep G1 cs1 v a ∧ PostF Γ E G1 cs1 H1 (k a μ1) Q2 := by
  cases r with
  | ok a μ => exact fun G1 cs1 H1 v g m q => ⟨G1, cs1, a, μ, g, m, q, PostF.mono (show PostF Γ E G cs H (k a μ) Q2 from h) g m⟩
  | ex c μ => exact h
  | no => exact h
theorem PostF.imp {r : R Cell} {Q Q2 : VK} (h : PostF Γ E G cs H r Q) (i : ∀ v H, Q v H → Q2 v H) : PostF Γ E G cs H r Q2 := by
  cases r with
  | ok a μ => exact fun G1 cs1 H1 v g m a b q => i _ _ (h G1 cs1 H1 v g m a b q)
  | ex c μ => exact h
  | no => exact h
/-- what the first part gives is handed on -/
theorem Post.bind {r : R α} {k : α → Mu → R γ} {Q2 : δ → Hp → Prop} {rep : Hp → List Addr → β → α → Prop} (h : Post Γ rep2 E G cs H (r.bind k) Q2) :
    Post Γ rep E G cs H r fun v H1 => ∃ G1 cs1 a μ1, Grow G cs H G1 cs1 H1 ∧ RelM Γ G1 cs1 μ1 H1 ∧ rep G1 cs1 v a ∧ Post Γ rep2 E G1 cs1 H1 (k a μ1) Q2 := by
  cases r with
  | ok a μ => exact fun G1 cs1 H1 v g m q => ⟨G1, cs1, a, μ, g, m, q, Post.mono (show Post Γ rep2 E G cs H (k a μ) Q2 from h) g⟩
  | ex c μ => exact h
  | no => exact h
theorem Post.imp {r : R α} {Q2 : β → Hp → Prop} (h : Post Γ rep E G cs H r Q) (i : ∀ v H, Q v H → Q2 v H) : Post Γ rep E G cs H r Q2 := by
  cases r with
  | ok a μ => exact fun G1 cs1 H1 v g m q => i _ _ (h G1 cs1 H1 v g m q)
  | ex c μ => exact h
  | no => exact h
theorem Post.now {a : α} {μ : Mu} {v : β} (h : Post Γ rep E G cs H (.ok a μ) Q) (m : RelM Γ G cs μ H) (q : rep G cs v a) : Q v H := h G cs H v .refl m q
theorem Post.at {a : α} {μ : Mu} {v : β} (h : Post Γ rep E G cs H (.ok a μ) Q) (g : Grow G cs H G' cs' H') (m : RelM Γ G' cs' μ H') (q : rep G' cs' v a) : Q v H' := h G' cs' H' v g m q
end

section
variable {X : Cx} {Γ : Gm} {W : WX}
theorem pe_imp {e : Expr} {t t' : TE} (h : PE X e t) (i : ∀ σ H Q, t' σ H Q → t σ H Q) : PE X e t' := ⟨fun pins s σ H Q I w => h.run pins s σ H Q I (i σ H Q w)⟩
theorem pt_imp {e : Expr} {t t' : TT} (h : PT X e t) (i : ∀ σ H Q, t' σ H Q → t σ H Q) : PT X e t' := ⟨fun pins s σ H Q I w => h.run pins s σ H Q I (i σ H Q w)⟩
theorem pw_imp {e : Expr} {t t' : TT} (h : PW X e t) (i : ∀ σ H Q, t' σ H Q → t σ H Q) : PW X e t' := ⟨fun wh pins s σ H Q I w => h.run wh pins s σ H Q I (i σ H Q w)⟩
theorem pa_imp {e : List Expr} {t t' : TA} (h : PA X e t) (i : ∀ σ H Q, t' σ H Q → t σ H Q) : PA X e t' := ⟨fun pos pins s σ H Q I w => h.run pos pins s σ H Q I (i σ H Q w)⟩
theorem ps_imp {e : Stmt} {t t' : TS} (h : PS X e t) (i : ∀ D σ H, t' D σ H → t D σ H) : PS X e t' := ⟨fun pins s σ H Q I w => h.run pins s σ H Q I (i Q σ H w)⟩
theorem pss_imp {e : List Stmt} {t t' : TS} (h : PSs X e t) (i : ∀ D σ H, t' D σ H → t D σ H) : PSs X e t' := ⟨fun pins s σ H Q I w => h.run pins s σ H Q I (i Q σ H w)⟩
theorem op_or {f : Value → Value → Sem Value} {r1 r2 : R2} (h1 : OpR X f r1) (h2 : OpR X f r2) : OpR X f fun x y H Q => r1 x y H Q ∨ r2 x y H Q :=
  fun pins s σ H x y v u Q I rx ry h => h.elim (h1 pins s σ H x y v u Q I rx ry) (h2 pins s σ H x y v u Q I rx ry)
theorem cr_or {f : Value} {r1 r2 : List V → Hp → VK → Prop} (h1 : CallR X f r1) (h2 : CallR X f r2) : CallR X f fun x H Q => r1 x H Q ∨ r2 x H Q :=
  fun pins s σ H xs us Q I r h => h.elim (h1 pins s σ H xs us Q I r) (h2 pins s σ H xs us Q I r)
theorem mt_or {f : String} {r1 r2 : V → List V → Hp → VK → Prop} (h1 : MtR X f r1) (h2 : MtR X f r2) : MtR X f fun x xs H Q => r1 x xs H Q ∨ r2 x xs H Q :=
  fun pins s σ H x xs v us Q I rx r h => h.elim (h1 pins s σ H x xs v us Q I rx r) (h2 pins s σ H x xs v us Q I rx r)

/-! ### expressions -/
theorem d_var (i : Nat) {x : Str} {pos : Pos} (hN : X.N[i]? = some x := by rfl) (hv : Vis X.env.scope x := by first | exact Or.inl rfl | exact Or.inr (Or.inl rfl) | exact Or.inr (Or.inr rfl)) (hd : (x == ("__debug__" : Str)) = false := by decide)
    (hcd : (x == ("__classdict__" : Str)) = false := by decide) : PE X (.Name x pos) (wE Γ W (dVar i)) := by
  refine pe_imp (pe_var hN hv hd hcd) fun σ H Q h => ?_
  obtain ⟨G, cs, ρ, μ, r, p⟩ := h
  unfold dVar at p
  split at p
  · rename_i v hv
    obtain ⟨u, h1, h2⟩ := r.s i v hv
    exact ⟨u, h1, p.now r.m h2⟩
  · exact p.elim
theorem d_c {e : Expr} {v : V} {d : D} (h : PE X e (tC v)) (r : ∀ K G, Rep K G v d) : PE X e (wE Γ W (dC d)) := by
  refine pe_imp h fun σ H Q h => ?_
  obtain ⟨G, cs, ρ, μ, q, p⟩ := h
  exact p.now q.m (r _ _)
theorem d_int {i j pos} : PE X (.Constant (.int i) j pos) (wE Γ W (dC (.int i))) := d_c pe_int fun _ _ => .int i
theorem d_bl {b j pos} : PE X (.Constant (.bool b) j pos) (wE Γ W (dC (.bl b))) := d_c pe_bl fun _ _ => .bl b
theorem d_non {j pos} : PE X (.Constant .none j pos) (wE Γ W (dC .non)) := d_c pe_non fun _ _ => .non
theorem d_str {x j pos} (h : goodS x := by constructor <;> decide +kernel) : PE X (.Constant (.str x) j pos) (wE Γ W (dC (.str x))) := d_c pe_str fun _ _ => .str x h
theorem d_globI {x : Str} {i : Int} {u : Value} {pos : Pos} (hg : Gl X x) (hm : X.mg x = some u) (r : RelV (.int i) u) (hd : (x == ("__debug__" : Str)) = false := by decide) : PE X (.Name x pos) (wE Γ W (dC (.int i))) := d_c (pe_glob hg hm r hd) fun _ _ => .int i
theorem d_globS {x : Str} {z : Str} {u : Value} {pos : Pos} (hg : Gl X x) (hm : X.mg x = some u) (r : RelV (.str z) u) (h : goodS z := by constructor <;> decide +kernel) (hd : (x == ("__debug__" : Str)) = false := by decide) : PE X (.Name x pos) (wE Γ W (dC (.str z))) := d_c (pe_glob hg hm r hd) fun _ _ => .str z h
/-- from a first part to what is made of it -/
theorem wE.of {te : TE} {f : Ev} {k : Sv → Mu → R Sv} {g : Ev} (hg : ∀ ρ μ, g ρ μ = (f ρ μ).bind k) {σ : L2.St} {H : Hp} {Q : VK} (h : wE Γ W g σ H Q) {Q1 : VK}
    (i : ∀ G cs μ v H1 a, RelM Γ G cs μ H1 → RepS Γ.K G cs v a → Post Γ (RepS Γ.K) (wX Γ W σ) G cs H1 (k a μ) Q → Q1 v H1) : wE Γ W f σ H Q1 := by
  obtain ⟨G, cs, ρ, μ, r, p⟩ := h
  rw [hg] at p
  exact ⟨G, cs, ρ, μ, r, (Post.bind (rep := RepS Γ.K) p).imp fun v H1 ⟨G1, cs1, a, μ1, g1, m1, q1, p1⟩ => i G1 cs1 μ1 v H1 a m1 q1 p1⟩
theorem d_frz {e : Expr} {f : Ev} (h : PE X e (wE Γ W f)) : PE X e (wE Γ W (dV f)) := by
  refine pe_imp h fun σ H Q h => ?_
  refine wE.of (Γ := Γ) (te := wE Γ W f) (fun _ _ => rfl) h fun G cs μ v H1 a m q p => ?_
  split at p
  · rename_i d μ2 e
    obtain ⟨G', g, m', r'⟩ := frz_ok m q e
    exact p.at g m' r'
  · exact p.elim
theorem RelM.adoptI {G H : Hp} {cs : List Addr} {μ : Mu} (m : RelM Γ G cs μ H) {p : Addr} {o : HO} (np : p ∉ cs) (gp : G p = none) (ho : H p = some o) : RelM Γ (upd G p o) cs μ H := by
  have ex : Same G (upd G p o) := fun b u q => by rw [upd_ne (ne_of_none q gp)]; exact q
  refine ⟨fun b u q => ?_, m.len, m.nd, fun n a c e1 e2 => ?_⟩
  · by_cases hb : b = p
    · subst hb; rw [upd_same] at q; cases q; exact ho
    · rw [upd_ne hb] at q; exact m.sub _ _ q
  · have nb : a ≠ p := fun z => np (by rw [← z]; exact List.mem_of_getElem? e1)
    have r := m.cell n a c e1 e2
    cases c with
    | lst xs => obtain ⟨g, k, vs, q, r⟩ := r; exact ⟨by rw [upd_ne nb]; exact g, k, vs, q, r.mono ex⟩
    | dk xs => obtain ⟨g, k, vs, q, r⟩ := r; exact ⟨by rw [upd_ne nb]; exact g, k, vs, q, r.mono ex⟩
    | dt xs => obtain ⟨g, k, vs, q, r⟩ := r; exact ⟨by rw [upd_ne nb]; exact g, k, vs, q, r.mono ex⟩
    | fz d => obtain ⟨r, o', q⟩ := r; exact ⟨r.mono ex, o', ex _ _ q⟩
    | ob fs => obtain ⟨g, dx, vs, q, r⟩ := r; exact ⟨by rw [upd_ne nb]; exact g, dx, vs, q, r.mono ex (List.prefix_refl _)⟩
theorem RepC.ext {G H : Hp} {cs : List Addr} {a p : Addr} {c : Cell} (r : RepC Γ G cs H a c) : RepC Γ G (cs ++ [p]) H a c := by
  cases c with
  | ob fs => obtain ⟨g, dx, vs, q, r⟩ := r; exact ⟨g, dx, vs, q, r.mono (.refl _) (List.prefix_append _ _)⟩
  | lst xs => exact r
  | dk xs => exact r
  | dt xs => exact r
  | fz d => exact r
theorem RelM.adoptN {G H : Hp} {cs : List Addr} {μ : Mu} (m : RelM Γ G cs μ H) {p : Addr} {c : Cell} (np : p ∉ cs) (hc : RepC Γ G cs H p c) : RelM Γ G (cs ++ [p]) (μ ++ [c]) H := by
  refine ⟨m.sub, by simp [m.len], ?_, fun n a c' e1 e2 => ?_⟩
  · rw [List.nodup_append]
    refine ⟨m.nd, by simp, fun a ha b hb z => np ?_⟩
    have e : b = p := by simpa using hb
    rw [← e, ← z]
    exact ha
  · by_cases hn : n < cs.length
    · rw [List.getElem?_append_left hn] at e1
      rw [List.getElem?_append_left (m.len ▸ hn)] at e2
      exact (m.cell n a c' e1 e2).ext
    · have e3 : n = cs.length := by
        have := (List.getElem?_eq_some_iff.mp e1).1
        simp at this; omega
      subst e3
      rw [List.getElem?_append_right (Nat.le_refl _)] at e1
      rw [m.len, List.getElem?_append_right (Nat.le_refl _)] at e2
      simp at e1 e2
      subst e1; subst e2
      exact hc.ext
theorem wI_of {f : EvF} {σ : L2.St} {H : Hp} {Q : VK} (h : wE Γ W (dI f) σ H Q) : wF Γ W f σ H Q := by
  obtain ⟨G, cs, ρ, μ, rl, po⟩ := h
  refine ⟨G, cs, ρ, μ, rl, ?_⟩
  unfold dI at po
  cases q : f ρ μ with
  | ok c μ1 =>
    rw [q] at po
    have po : Post Γ (RepS Γ.K) (wX Γ W σ) G cs H (match c.dat with | some d => .ok (.im d) μ1 | none => .no) Q := po
    intro G' cs' H' p g m hp np rc
    have key : ∀ {d : D} {o : HO}, c.dat = some d → G' p = none → H' p = some o → Rep Γ.K (upd G' p o) (.ref p) d → Q (.ref p) H' := fun {d o} e1 gp ho rd => by
      rw [e1] at po
      have ex : Same G' (upd G' p o) := fun b u q => by rw [upd_ne (ne_of_none q gp)]; exact q
      refine po.at (v := V.ref p) ⟨g.ex.trans ex, g.pre, g.fr, g.n1, fun a h1 h2 h3 => ?_⟩ (m.adoptI np gp ho) rd
      rw [upd_ne (fun z => h1 (by rw [z]; exact hp))]
      exact g.n2 a h1 h2 h3
    have mono : ∀ {o : HO}, G' p = none → Same G' (upd G' p o) := fun {o} gp b u q => by rw [upd_ne (ne_of_none q gp)]; exact q
    cases c with
    | lst xs => obtain ⟨gp, n, vs, ho, r⟩ := rc; exact key rfl gp ho (.lst upd_same n (r.mono (mono gp)))
    | dk xs => obtain ⟨gp, n, vs, ho, r⟩ := rc; exact key rfl gp ho (.dk upd_same n (r.mono (mono gp)))
    | dt xs => obtain ⟨gp, n, vs, ho, r⟩ := rc; exact key rfl gp ho (.dt upd_same n (r.mono (mono gp)))
    | fz d => exact po.elim
    | ob fs => exact po.elim
  | ex c μ1 => rw [q] at po; exact po
  | no => rw [q] at po; exact po
theorem d_imm {e : Expr} {f : EvF} (h : PE X e (wF Γ W f)) : PE X e (wE Γ W (dI f)) := pe_imp h fun _ _ _ => wI_of
theorem wN_of {f : EvF} {σ : L2.St} {H : Hp} {Q : VK} (h : wE Γ W (dN f) σ H Q) : wF Γ W f σ H Q := by
  obtain ⟨G, cs, ρ, μ, rl, po⟩ := h
  refine ⟨G, cs, ρ, μ, rl, ?_⟩
  unfold dN at po
  cases q : f ρ μ with
  | ok c μ1 =>
    rw [q] at po
    have po : Post Γ (RepS Γ.K) (wX Γ W σ) G cs H (.ok (.rf μ1.length) (μ1 ++ [c])) Q := po
    intro G' cs' H' p g m hp np rc
    refine po.at (v := V.ref p) ⟨g.ex, g.pre.trans (List.prefix_append _ _), g.fr, fun a h1 h2 h3 => ?_, g.n2⟩ (m.adoptN np rc) ⟨p, by rw [← m.len]; simp, rfl⟩
    rcases List.mem_append.mp h3 with z | z
    · exact g.n1 a h1 h2 z
    · have : a = p := by simpa using z
      exact h1 (by rw [this]; exact hp)
  | ex c μ1 => rw [q] at po; exact po
  | no => rw [q] at po; exact po
theorem d_new {e : Expr} {f : EvF} (h : PE X e (wF Γ W f)) : PE X e (wE Γ W (dN f)) := pe_imp h fun _ _ _ => wN_of
/-- a one-place primitive that makes a new object -/
def PrF (Γ : Gm) (p : Sv → Mu → R Cell) (r : V → Hp → VK → Prop) : Prop := ∀ (E : Xn → Option Addr → Hp → Prop) G cs μ H x sa Q, RelM Γ G cs μ H → RepS Γ.K G cs x sa → PostF Γ E G cs H (p sa μ) Q → r x H Q
theorem wF.of {f : Ev} {k : Sv → Mu → R Cell} {g : EvF} (hg : ∀ ρ μ, g ρ μ = (f ρ μ).bind k) {σ : L2.St} {H : Hp} {Q : VK} (h : wF Γ W g σ H Q) {Q1 : VK}
    (i : ∀ G cs μ v H1 a, RelM Γ G cs μ H1 → RepS Γ.K G cs v a → PostF Γ (wX Γ W σ) G cs H1 (k a μ) Q → Q1 v H1) : wE Γ W f σ H Q1 := by
  obtain ⟨G, cs, ρ, μ, r, p⟩ := h
  rw [hg] at p
  exact ⟨G, cs, ρ, μ, r, (PostF.bind (rep := RepS Γ.K) p).imp fun v H1 ⟨G1, cs1, a, μ1, g1, m1, q1, p1⟩ => i G1 cs1 μ1 v H1 a m1 q1 p1⟩
theorem d_op1 {op : UnaryOp} {r : V → Hp → VK → Prop} {a : Expr} {pos : Pos} {fa : Ev} {p : Sv → Mu → R Sv} (ho : UnR X (unaryOp op) r) (ha : PE X a (wE Γ W fa))
    (hr : ∀ E G cs μ H x sa Q, RelM Γ G cs μ H → RepS Γ.K G cs x sa → Post Γ (RepS Γ.K) E G cs H (p sa μ) Q → r x H Q) : PE X (.UnaryOp op a pos) (wE Γ W (dOp1 p fa)) := by
  refine pe_imp (pe_un ho ha) fun σ H Q h => ?_
  exact wE.of (te := wE Γ W fa) (fun _ _ => rfl) h fun G cs μ v H1 a m q p => hr _ G cs μ H1 v a Q m q p
/-- what a two-place primitive is worth at a value rule -/
def Pr2 (Γ : Gm) (p : Sv → Sv → Mu → R Sv) (r : R2) : Prop := ∀ (E : Xn → Option Addr → Hp → Prop) G cs μ H x y sa sb Q, RelM Γ G cs μ H → RepS Γ.K G cs x sa → RepS Γ.K G cs y sb → Post Γ (RepS Γ.K) E G cs H (p sa sb μ) Q → r x y H Q
def Pr1 (Γ : Gm) (p : Sv → Mu → R Sv) (r : V → Hp → VK → Prop) : Prop := ∀ (E : Xn → Option Addr → Hp → Prop) G cs μ H x sa Q, RelM Γ G cs μ H → RepS Γ.K G cs x sa → Post Γ (RepS Γ.K) E G cs H (p sa μ) Q → r x H Q
theorem wE.two {fa fb : Ev} {p : Sv → Sv → Mu → R Sv} {r : R2} (hr : Pr2 Γ p r) {σ : L2.St} {H : Hp} {Q : VK} (h : wE Γ W (dOp2 p fa fb) σ H Q) : tOp r (wE Γ W fa) (wE Γ W fb) σ H Q := by
  obtain ⟨G, cs, ρ, μ, rl, po⟩ := h
  have q := (Post.bind (rep := RepS Γ.K) (show Post Γ (RepS Γ.K) (wX Γ W σ) G cs H ((fa ρ μ).bind _) Q from po))
  refine ⟨G, cs, ρ, μ, rl, q.imp fun x H1 ⟨G1, cs1, a, μ1, g1, m1, q1, p1⟩ => ?_⟩
  refine ⟨G1, cs1, ρ, μ1, rl.grow g1 m1, (Post.bind (rep := RepS Γ.K) p1).imp fun y H2 ⟨G2, cs2, b, μ2, g2, m2, q2, p2⟩ => ?_⟩
  exact hr _ G2 cs2 μ2 H2 x y a b Q m2 (q1.mono g2.ex g2.pre) q2 p2
theorem d_bin {op : Operator} {r : R2} {a b : Expr} {pos : Pos} {fa fb : Ev} {p : Sv → Sv → Mu → R Sv} (ho : OpR X (binaryOp op) r) (hr : Pr2 Γ p r) (ha : PE X a (wE Γ W fa)) (hb : PE X b (wE Γ W fb)) :
    PE X (.BinOp a op b pos) (wE Γ W (dOp2 p fa fb)) := pe_imp (pe_op ho ha hb) fun σ H Q h => wE.two hr h
theorem d_cmpr {op : CmpOp} {r : R2} {a b : Expr} {pos : Pos} {fa fb : Ev} {p : Sv → Sv → Mu → R Sv} (ho : OpR X (compareOp op) r) (hr : Pr2 Γ p r) (ha : PE X a (wE Γ W fa)) (hb : PE X b (wE Γ W fb)) (hm : behindInMarks op b = false) :
    PE X (.Compare a [op] [b] pos) (wE Γ W (dOp2 p fa fb)) := pe_imp (pe_cmpR ho ha hb hm) fun σ H Q h => wE.two hr h
/-- an expression as a test -/
theorem wT.of {f : Ev} {σ : L2.St} {H : Hp} {Q : Bool → Hp → Prop} (h : wT Γ W (dTest f) σ H Q) : wE Γ W f σ H fun x H1 => ∃ c, x = .bl c ∧ Q c H1 := by
  obtain ⟨G, cs, ρ, μ, rl, po⟩ := h
  have q := Post.bind (rep := RepS Γ.K) (show Post Γ (fun _ _ b c => b = c) (wX Γ W σ) G cs H ((f ρ μ).bind _) Q from po)
  refine ⟨G, cs, ρ, μ, rl, q.imp fun x H1 ⟨G1, cs1, a, μ1, g1, m1, q1, p1⟩ => ?_⟩
  split at p1
  · have q1 : Rep Γ.K G1 x (.bl _) := q1
    cases q1
    exact ⟨_, rfl, p1.now m1 rfl⟩
  · exact p1.elim
theorem d_tcmp {op : CmpOp} {a b : Expr} {pos : Pos} {r : R2} {p : Sv → Sv → Mu → R Sv} {fa fb : Ev} (ho : OpR X (compareOp op) r) (hr : Pr2 Γ p r) (ha : PE X a (wE Γ W fa)) (hb : PE X b (wE Γ W fb)) (hm : behindInMarks op b = false) :
    PT X (.Compare a [op] [b] pos) (wT Γ W (dTest (dOp2 p fa fb))) := by
  refine pt_imp (pt_cmpR ho ha hb hm) fun σ H Q h => ?_
  have q := wT.of h
  exact wE.two hr q
theorem d_test {e : Expr} {f : Ev} (h : PE X e (wE Γ W f)) (he : ∀ whole, isTrue e X.env whole = (do let v ← whole; standAt e.pos; holding [v] (truthy v)) := by intro _; rfl) : PT X e (wT Γ W (dTest f)) :=
  pt_imp (pt_val h he) fun σ H Q h => wT.of h
theorem wT.bind {f : EvT} {k : Bool → EvT} {σ : L2.St} {H : Hp} {Q : Bool → Hp → Prop} (h : wT Γ W (fun ρ μ => (f ρ μ).bind fun b μ1 => k b ρ μ1) σ H Q) : wT Γ W f σ H fun b H1 => wT Γ W (k b) σ H1 Q := by
  obtain ⟨G, cs, ρ, μ, rl, po⟩ := h
  refine ⟨G, cs, ρ, μ, rl, (Post.bind (rep := fun _ _ b c => b = c) po).imp fun b H1 ⟨G1, cs1, a, μ1, g1, m1, q1, p1⟩ => ?_⟩
  subst q1
  exact ⟨G1, cs1, ρ, μ1, rl.grow g1 m1, p1⟩
theorem wT.pure {b : Bool} {σ : L2.St} {H : Hp} {Q : Bool → Hp → Prop} (h : wT Γ W (fun _ μ => .ok b μ) σ H Q) : Q b H := by
  obtain ⟨G, cs, ρ, μ, rl, po⟩ := h
  exact po.now rl.m rfl
theorem wT.and {f g : EvT} {σ : L2.St} {H : Hp} {Q : Bool → Hp → Prop} (h : wT Γ W (dAndT f g) σ H Q) : tAnd (wT Γ W f) (wT Γ W g) σ H Q := by
  have q := wT.bind (k := fun b => if b then g else fun _ μ => .ok false μ) (f := f) (Γ := Γ) (W := W) (σ := σ) (H := H) (Q := Q) (by
    obtain ⟨G, cs, ρ, μ, rl, po⟩ := h
    refine ⟨G, cs, ρ, μ, rl, ?_⟩
    have e : dAndT f g ρ μ = (f ρ μ).bind fun b μ1 => (if b = true then g else fun _ μ => .ok false μ) ρ μ1 := by
      unfold dAndT
      cases f ρ μ with
      | ok b μ1 => cases b <;> rfl
      | ex c μ1 => rfl
      | no => rfl
    rw [e] at po; exact po)
  obtain ⟨G, cs, ρ, μ, rl, po⟩ := q
  refine ⟨G, cs, ρ, μ, rl, po.imp fun b H1 w => ?_⟩
  cases b with
  | true => exact w
  | false => exact wT.pure w
theorem wT.or {f g : EvT} {σ : L2.St} {H : Hp} {Q : Bool → Hp → Prop} (h : wT Γ W (dOrT f g) σ H Q) : tOr (wT Γ W f) (wT Γ W g) σ H Q := by
  have q := wT.bind (k := fun b => if b then (fun _ μ => .ok true μ) else g) (f := f) (Γ := Γ) (W := W) (σ := σ) (H := H) (Q := Q) (by
    obtain ⟨G, cs, ρ, μ, rl, po⟩ := h
    refine ⟨G, cs, ρ, μ, rl, ?_⟩
    have e : dOrT f g ρ μ = (f ρ μ).bind fun b μ1 => (if b = true then (fun _ μ => .ok true μ) else g) ρ μ1 := by
      unfold dOrT
      cases f ρ μ with
      | ok b μ1 => cases b <;> rfl
      | ex c μ1 => rfl
      | no => rfl
    rw [e] at po; exact po)
  obtain ⟨G, cs, ρ, μ, rl, po⟩ := q
  refine ⟨G, cs, ρ, μ, rl, po.imp fun b H1 w => ?_⟩
  cases b with
  | true => exact wT.pure w
  | false => exact w
theorem d_and {a b : Expr} {rest : List Expr} {pos : Pos} {f g : EvT} (ha : PT X a (wT Γ W f)) (hb : PW X (.BoolOp .And (b :: rest) pos) (wT Γ W g)) : PW X (.BoolOp .And (a :: b :: rest) pos) (wT Γ W (dAndT f g)) := pw_imp (pw_and ha hb) fun σ H Q h => wT.and h
theorem d_and1 {b : Expr} {pos : Pos} {g : EvT} (hb : PT X b (wT Γ W g)) : PW X (.BoolOp .And [b] pos) (wT Γ W g) := pw_and1 hb
theorem d_or {a b : Expr} {rest : List Expr} {pos : Pos} {f g : EvT} (ha : PT X a (wT Γ W f)) (hb : PW X (.BoolOp .Or (b :: rest) pos) (wT Γ W g)) : PW X (.BoolOp .Or (a :: b :: rest) pos) (wT Γ W (dOrT f g)) := pw_imp (pw_or ha hb) fun σ H Q h => wT.or h
theorem d_or1 {b : Expr} {pos : Pos} {g : EvT} (hb : PT X b (wT Γ W g)) : PW X (.BoolOp .Or [b] pos) (wT Γ W g) := pw_or1 hb
theorem d_not {a : Expr} {pos : Pos} {f : EvT} (ha : PT X a (wT Γ W f)) : PT X (.UnaryOp .Not a pos) (wT Γ W (dNotT f)) := by
  refine pt_imp (pt_not ha) fun σ H Q h => ?_
  have q := wT.bind (k := fun b _ μ => .ok (!b) μ) h
  obtain ⟨G, cs, ρ, μ, rl, po⟩ := q
  exact ⟨G, cs, ρ, μ, rl, po.imp fun b H1 w => wT.pure w⟩
end
end SP

/-! SPd: primitives and their value rules. -/
namespace SP
open PySem L2

section
variable {Γ : Gm} {X : Cx} {W : WX}
theorem pr2_pure {g : D → D → Option D} {r : R2} (h : ∀ (G H : Hp) (x y : V) (d e q : D) (Q : VK), Same G H → RepL Γ.K G H x d → RepL Γ.K G H y e → g d e = some q → (∀ v, Rep Γ.K G v q → Q v H) → r x y H Q) : Pr2 Γ (p2 g) r := by
  intro E G cs μ H x y sa sb Q m ra rb p
  unfold p2 at p
  split at p
  · rename_i d e h1 h2
    split at p
    · rename_i q hq
      exact h G H x y d e q Q m.sub (look_L m ra h1) (look_L m rb h2) hq fun v rv => p.now m rv
    · exact p.elim
  · exact p.elim
theorem pr1_pure {g : D → Option D} {r : V → Hp → VK → Prop} (h : ∀ (G H : Hp) (x : V) (d q : D) (Q : VK), Same G H → RepL Γ.K G H x d → g d = some q → (∀ v, Rep Γ.K G v q → Q v H) → r x H Q) : Pr1 Γ (p1 g) r := by
  intro E G cs μ H x sa Q m ra p
  unfold p1 at p
  split at p
  · rename_i d h1
    split at p
    · rename_i q hq
      exact h G H x d q Q m.sub (look_L m ra h1) hq fun v rv => p.now m rv
    · exact p.elim
  · exact p.elim
theorem pr2_I {p : Int → Int → V} {g : D → D → Option D} {C : Int → Int → Prop} (h : ∀ d e q, g d e = some q → ∃ i j, d = .int i ∧ e = .int j ∧ C i j ∧ ∀ K G, Rep K G (p i j) q) : Pr2 Γ (p2 g) (rI C p) := by
  refine pr2_pure fun G H x y d e q Q s rx ry hq k => ?_
  obtain ⟨i, j, rfl, rfl, c, rq⟩ := h d e q hq
  cases rx; cases ry
  exact ⟨i, j, rfl, rfl, c, k _ (rq _ _)⟩
theorem pr2_I0 {p : Int → Int → V} {g : D → D → Option D} (h : ∀ d e q, g d e = some q → ∃ i j, d = .int i ∧ e = .int j ∧ ∀ K G, Rep K G (p i j) q) : Pr2 Γ (p2 g) (rI0 p) := by
  refine pr2_pure fun G H x y d e q Q s rx ry hq k => ?_
  obtain ⟨i, j, rfl, rfl, rq⟩ := h d e q hq
  cases rx; cases ry
  exact ⟨i, j, rfl, rfl, k _ (rq _ _)⟩

/-! ### sums, products, rests -/
def rPlus : R2 := fun x y H Q => rI0 (fun i j => .int (i + j)) x y H Q ∨ ((∃ i j, x = .str i ∧ y = .str j ∧ i.length + j.length ≤ sizeLine ∧ Q (.str (i ++ j)) H) ∨ rCat x y H Q)
theorem op_plus : OpR X (binaryOp .Add) rPlus := op_or op_add (op_or op_add_str op_cat)
theorem goodS_app {a b : Str} (ha : goodS a) (hb : goodS b) (h : a.length + b.length ≤ maxN) : goodS (a ++ b) := by
  have e : (a ++ b).cps = a.cps ++ b.cps := rfl
  refine ⟨?_, ?_⟩
  · show (a ++ b).cps.size ≤ maxN
    rw [e, Array.size_append]; exact h
  · rw [e, Array.all_append, ha.2, hb.2]; rfl
theorem pr_add : Pr2 Γ (p2 gAdd) rPlus := by
  intro E G cs μ H x y sa sb Q m ra rb p
  unfold p2 at p
  split at p
  · rename_i d e h1 h2
    split at p
    · rename_i q hq
      have r1 := look_L m ra h1
      have r2 := look_L m rb h2
      unfold gAdd at hq
      split at hq
      · cases hq; cases r1; cases r2
        exact .inl ⟨_, _, rfl, rfl, p.now m (.int _)⟩
      · split at hq
        · rename_i a b hl
          cases hq
          cases r1 with
          | str _ ga => cases r2 with
            | str _ gb => exact .inr (.inl ⟨_, _, rfl, rfl, Nat.le_trans hl maxN_le, p.now m (.str _ (goodS_app ga gb hl))⟩)
        · cases hq
      · split at hq
        · rename_i a b hl
          cases hq
          cases r1 with
          | lst ha na sa => cases r2 with
            | lst hb nb sb =>
              refine .inr (.inr ⟨_, _, _, _, rfl, rfl, ha, hb, by rw [sa.length, sb.length]; exact Nat.le_trans hl maxN_le, fun l hl' => ?_⟩)
              obtain ⟨g, m'⟩ := m.imm hl' (.lst (_ ++ _))
              exact p.at g m' (.lst upd_same (by rw [List.length_append]; exact hl) ((sa.append sb).mono g.ex))
        · cases hq
      · cases hq
    · exact p.elim
  · exact p.elim
theorem d_add {a b : Expr} {pos : Pos} {fa fb : Ev} (ha : PE X a (wE Γ W fa)) (hb : PE X b (wE Γ W fb)) : PE X (.BinOp a .Add b pos) (wE Γ W (dOp2 (p2 gAdd) fa fb)) := d_bin op_plus pr_add ha hb
theorem pr_sub : Pr2 Γ (p2 gSub) (rI0 fun i j => .int (i - j)) := pr2_I0 fun d e q h => by
  unfold gSub at h; split at h
  · cases h; exact ⟨_, _, rfl, rfl, fun _ _ => .int _⟩
  · cases h
theorem d_sub {a b : Expr} {pos : Pos} {fa fb : Ev} (ha : PE X a (wE Γ W fa)) (hb : PE X b (wE Γ W fb)) : PE X (.BinOp a .Sub b pos) (wE Γ W (dOp2 (p2 gSub) fa fb)) := d_bin op_sub pr_sub ha hb
theorem pr_mul : Pr2 Γ (p2 gMul) (rI CMul fun i j => .int (i * j)) := pr2_I fun d e q h => by
  unfold gMul at h; split at h
  · rename_i i j
    split at h
    · rename_i c
      cases h
      refine ⟨_, _, rfl, rfl, ?_, fun _ _ => .int _⟩
      unfold small64 at c
      have e : (2 : Int) ^ 64 = 18446744073709551616 := by decide
      show (-(2 ^ 64) < _ ∧ _ < 2 ^ 64) ∨ (-(2 ^ 64) < _ ∧ _ < 2 ^ 64)
      simp only [e]
      rcases Bool.or_eq_true .. ▸ c with c | c
      · have := Nat.le_of_ble_eq_true c
        left; omega
      · have := Nat.le_of_ble_eq_true c
        right; omega
    · cases h
  · cases h
theorem d_mul {a b : Expr} {pos : Pos} {fa fb : Ev} (ha : PE X a (wE Γ W fa)) (hb : PE X b (wE Γ W fb)) : PE X (.BinOp a .Mult b pos) (wE Γ W (dOp2 (p2 gMul) fa fb)) := d_bin op_mul pr_mul ha hb
theorem pr_mod : Pr2 Γ (p2 gMod) (rI (fun _ j => 0 < j) fun i j => .int (i % j)) := pr2_I fun d e q h => by
  unfold gMod at h; split at h
  · split at h
    · rename_i c; cases h; exact ⟨_, _, rfl, rfl, c, fun _ _ => .int _⟩
    · cases h
  · cases h
theorem d_mod {a b : Expr} {pos : Pos} {fa fb : Ev} (ha : PE X a (wE Γ W fa)) (hb : PE X b (wE Γ W fb)) : PE X (.BinOp a .Mod b pos) (wE Γ W (dOp2 (p2 gMod) fa fb)) := d_bin op_mod pr_mod ha hb
theorem pr_div : Pr2 Γ (p2 gDiv) (rI CDiv fun i j => .int (i / j)) := pr2_I fun d e q h => by
  unfold gDiv at h; split at h
  · split at h
    · rename_i c; cases h; exact ⟨_, _, rfl, rfl, c, fun _ _ => .int _⟩
    · cases h
  · cases h
theorem d_div {a b : Expr} {pos : Pos} {fa fb : Ev} (ha : PE X a (wE Γ W fa)) (hb : PE X b (wE Γ W fb)) : PE X (.BinOp a .FloorDiv b pos) (wE Γ W (dOp2 (p2 gDiv) fa fb)) := d_bin op_fdiv pr_div ha hb

/-! ### comparisons of whole numbers -/
theorem pr_cmp (f : Int → Int → Bool) : Pr2 Γ (p2 (gInt f)) (rI0 fun i j => .bl (f i j)) := pr2_I0 fun d e q h => by
  unfold gInt at h; split at h
  · cases h; exact ⟨_, _, rfl, rfl, fun _ _ => .bl _⟩
  · cases h
def gLt : D → D → Option D := gInt fun i j => decide (i < j)
def gLe : D → D → Option D := gInt fun i j => decide (i ≤ j)
def gGt : D → D → Option D := gInt fun i j => decide (j < i)
def gGe : D → D → Option D := gInt fun i j => decide (j ≤ i)

/-! ### is None -/
theorem pr_isN : Pr2 Γ (p2 gIsN) (fun x y H Q => y = .non ∧ Q (.bl (decide (x = .non))) H) := pr2_pure fun G H x y d e q Q s rx ry hq k => by
  unfold gIsN at hq
  split at hq <;> first | (cases hq; done) | (cases hq; cases rx <;> cases ry <;> exact ⟨rfl, k _ (.bl _)⟩)
theorem pr_notN : Pr2 Γ (p2 gNotN) (fun x y H Q => y = .non ∧ Q (.bl (!decide (x = .non))) H) := pr2_pure fun G H x y d e q Q s rx ry hq k => by
  unfold gNotN at hq
  split at hq
  · rename_i b hb
    cases hq
    unfold gIsN at hb
    split at hb <;> first | (cases hb; done) | (cases hb; cases rx <;> cases ry <;> exact ⟨rfl, k _ (.bl _)⟩)
  · cases hq

/-! ### == of data -/
mutual
theorem eqok_py : ∀ (n : Nat) (d : D), D.eqok n d = true → d.py.depth ≤ n ∧ (∀ K G v, Rep K G v d → d.py.canLay0 = true ∧ Dp K G v d.py)
  | n, .non, _ => ⟨by simp [D.py, PyData.depth], fun _ _ _ r => by cases r; exact ⟨rfl, .non⟩⟩
  | n, .bl b, _ => ⟨by simp [D.py, PyData.depth], fun _ _ _ r => by cases r; exact ⟨rfl, .bl _⟩⟩
  | n, .int i, _ => ⟨by simp [D.py, PyData.depth], fun _ _ _ r => by cases r; exact ⟨rfl, .int _⟩⟩
  | n, .str s, _ => ⟨by simp [D.py, PyData.depth], fun _ _ _ r => by cases r with | str _ h => exact ⟨h.2, .str _⟩⟩
  | n + 1, .tup xs, h => by
    obtain ⟨h1, h2⟩ := eqoks_py n xs h
    refine ⟨by simp only [D.py, PyData.depth]; omega, fun K G v r => ?_⟩
    cases r with
    | tup q k r =>
      obtain ⟨c, p⟩ := h2 K G _ r
      exact ⟨c, .tup (.of q) p⟩
  | n + 1, .lst xs, h => by
    obtain ⟨h1, h2⟩ := eqoks_py n xs h
    refine ⟨by simp only [D.py, PyData.depth]; omega, fun K G v r => ?_⟩
    cases r with
    | lst q k r =>
      obtain ⟨c, p⟩ := h2 K G _ r
      exact ⟨c, .lst (.of q) p⟩
  | 0, .tup _, h => by simp [D.eqok] at h
  | 0, .lst _, h => by simp [D.eqok] at h
  | 0, .dk _, h => by simp [D.eqok] at h
  | 0, .dt _, h => by simp [D.eqok] at h
  | 0, .scr _, h => by simp [D.eqok] at h
  | _ + 1, .dk _, h => by simp [D.eqok] at h
  | _ + 1, .dt _, h => by simp [D.eqok] at h
  | _ + 1, .scr _, h => by simp [D.eqok] at h
theorem eqoks_py : ∀ (n : Nat) (d : List D), D.eqoks n d = true → PyData.depthAll (D.pys d) ≤ n ∧ (∀ K G v, Reps K G v d → PyData.canLayAll0 (D.pys d) = true ∧ DpAll K G v (D.pys d))
  | n, [], _ => ⟨by simp [D.pys, PyData.depthAll], fun _ _ _ r => by cases r; exact ⟨rfl, .nil⟩⟩
  | n, d :: r, h => by
    simp only [D.eqoks, Bool.and_eq_true] at h
    obtain ⟨a1, a2⟩ := eqok_py n d h.1
    obtain ⟨b1, b2⟩ := eqoks_py n r h.2
    refine ⟨by simp only [D.pys, PyData.depthAll]; omega, fun K G v q => ?_⟩
    cases q with
    | cons q qs =>
      obtain ⟨c1, p1⟩ := a2 K G _ q
      obtain ⟨c2, p2⟩ := b2 K G _ qs
      refine ⟨by simp only [D.pys, PyData.canLayAll0, c1, c2]; rfl, .cons p1 p2⟩
end
theorem eqok_shaped {n : Nat} {d : D} (h : D.eqok n d = true) (hn : n ≤ 64) {K : PySem.W.Frag} {G : Hp} {v : V} (r : Rep K G v d) : Dp K G v d.py ∧ SeqAt.shaped d.py = true := by
  obtain ⟨h1, h2⟩ := eqok_py n d h
  obtain ⟨c, p⟩ := h2 K G v r
  refine ⟨p, ?_⟩
  unfold SeqAt.shaped
  rw [c, decide_eq_true (Nat.le_trans h1 hn)]; rfl
theorem pr_eq (hK : X.K = Γ.K) : Pr2 Γ (p2 gEq) (rEqD X.K) := pr2_pure fun G H x y d e q Q s rx ry hq k => by
  unfold gEq at hq
  split at hq
  · rename_i c
    cases hq
    simp only [Bool.and_eq_true] at c
    obtain ⟨a1, a2⟩ := eqok_shaped c.1 (by decide) (rx.toRep s)
    obtain ⟨b1, b2⟩ := eqok_shaped c.2 (by decide) (ry.toRep s)
    rw [← hK] at a1 b1
    exact ⟨_, _, a1, b1, a2, b2, k _ (.bl _)⟩
  · cases hq
theorem pr_ne (hK : X.K = Γ.K) : Pr2 Γ (p2 gNe) (rNeD X.K) := pr2_pure fun G H x y d e q Q s rx ry hq k => by
  unfold gNe at hq
  split at hq
  · rename_i c
    cases hq
    simp only [Bool.and_eq_true] at c
    obtain ⟨a1, a2⟩ := eqok_shaped c.1 (by decide) (rx.toRep s)
    obtain ⟨b1, b2⟩ := eqok_shaped c.2 (by decide) (ry.toRep s)
    rw [← hK] at a1 b1
    exact ⟨_, _, a1, b1, a2, b2, k _ (.bl _)⟩
  · cases hq

/-! ### items -/
theorem goodS_one {c : Nat} (h : c < 0x110000) : goodS ⟨#[c]⟩ := ⟨by show 1 ≤ maxN; decide, by simp [h]⟩
theorem goodS_mem {s : Str} (h : goodS s) {c : Nat} (hc : c ∈ s.cps.toList) : c < 0x110000 := by
  have q := h.2
  rw [Array.all_eq_true_iff_forall_mem] at q
  simpa using q c (by simpa using hc)
theorem atI_mem {α : Type} {xs : List α} {i : Int} {v : α} (h : atI xs i = some v) : v ∈ xs := by
  obtain ⟨j, _, h2, _⟩ := atI_get h
  exact List.mem_of_getElem? h2
theorem Reps.atI {K : PySem.W.Frag} {G : Hp} {vs : List V} {ds : List D} (r : Reps K G vs ds) {i : Int} {d : D} (h : L2.atI ds i = some d) : ∃ v, L2.atI vs i = some v ∧ Rep K G v d := by
  unfold L2.atI at h ⊢
  rw [r.length]
  cases e : ixN ds.length i with
  | none => rw [e] at h; cases h
  | some j =>
    rw [e] at h
    obtain ⟨v, h1, h2⟩ := r.get (show ds[j]? = some d from h)
    exact ⟨v, h1, h2⟩
theorem pr_ix (hK : X.K = Γ.K) : Pr2 Γ (p2 gIx) (rIx X.K) := pr2_pure fun G H x y d e q Q s rx ry hq k => by
  unfold gIx at hq
  split at hq
  · cases rx with
    | lst h n r =>
      cases ry
      obtain ⟨v, h1, h2⟩ := r.atI hq
      exact .inl ⟨_, _, _, v, rfl, rfl, .of h, h1, k v h2⟩
  · cases rx with
    | tup h n r =>
      cases ry
      obtain ⟨v, h1, h2⟩ := r.atI hq
      exact .inr (.inl ⟨_, _, _, v, rfl, rfl, .of h, h1, k v h2⟩)
  · cases rx with
    | scr h n =>
      cases ry
      rename_i ns i a
      cases e : L2.atI ns i with
      | none => rw [e] at hq; cases hq
      | some z =>
        rw [e] at hq
        cases hq
        refine .inl ⟨_, _, _, .int z, rfl, rfl, by rw [hK]; exact h, ?_, k _ (.int z)⟩
        unfold L2.atI at e ⊢
        rw [List.length_map]
        cases e2 : ixN ns.length i with
        | none => rw [e2] at e; cases e
        | some j =>
          rw [e2] at e
          show (ns.map V.int)[j]? = _
          rw [List.getElem?_map, show ns[j]? = some z from e]; rfl
  · cases rx with
    | str _ g =>
      cases ry
      rename_i z i
      cases e : L2.atI z.cps.toList i with
      | none => rw [e] at hq; cases hq
      | some c =>
        rw [e] at hq
        cases hq
        exact .inr (.inr ⟨_, _, c, rfl, rfl, Nat.le_trans g.1 maxN_le, e, k _ (.str _ (goodS_one (goodS_mem g (atI_mem e))))⟩)
  · cases hq
theorem d_ix {a b : Expr} {pos : Pos} {fa fb : Ev} (ha : PE X a (wE Γ W fa)) (hb : PE X b (wE Γ W fb)) (hs : PlainIx b := by exact fun _ _ => rfl) (hK : X.K = Γ.K := by rfl) :
    PE X (.Subscript a b pos) (wE Γ W (dOp2 (p2 gIx) fa fb)) := pe_imp (pe_ix ix_seq ha hb hs) fun σ H Q h => wE.two (pr_ix hK) h

/-! ### argument lists, displays -/
theorem d_anil : PA X [] (wA Γ W dANil) := pa_imp pa_nil fun σ H Q h => by
  obtain ⟨G, cs, ρ, μ, rl, po⟩ := h
  exact po.now rl.m .nil
theorem d_acons {e : Expr} {es : List Expr} {f : Ev} {g : EvA} (he : PE X e (wE Γ W f)) (hs : PA X es (wA Γ W g)) (hn : ∀ env, starEach (e :: es) env = (false, eval e env) :: starEach es env := by intro _; rfl) : PA X (e :: es) (wA Γ W (dACons f g)) := by
  refine pa_imp (pa_cons he hs (hn _)) fun σ H Q h => ?_
  obtain ⟨G, cs, ρ, μ, rl, po⟩ := h
  refine ⟨G, cs, ρ, μ, rl, (Post.bind (rep := RepS Γ.K) po).imp fun x H1 ⟨G1, cs1, a, μ1, g1, m1, q1, p1⟩ => ?_⟩
  refine ⟨G1, cs1, ρ, μ1, rl.grow g1 m1, (Post.bind (rep := RepA Γ.K) p1).imp fun y H2 ⟨G2, cs2, b, μ2, g2, m2, q2, p2⟩ => ?_⟩
  exact p2.now m2 (.cons (q1.mono g2.ex g2.pre) q2)
theorem datas_ok {K : PySem.W.Frag} {G : Hp} {cs : List Addr} : ∀ {vs : List V} {ss : List Sv} {ds : List D}, RepA K G cs vs ss → datas ss = some ds → Reps K G vs ds
  | _, _, _, .nil, e => by cases e; exact .nil
  | _, _, _, .cons (d := .im d) (ds := r) h t, e => by
    simp only [datas] at e
    cases q : datas r with
    | none => rw [q] at e; cases e
    | some ds => rw [q] at e; cases e; exact .cons h (datas_ok t q)
  | _, _, _, .cons (d := .rf n) h t, e => by cases e
theorem wA.of {f : EvA} {k : List Sv → Mu → R Sv} {g : Ev} (hg : ∀ ρ μ, g ρ μ = (f ρ μ).bind k) {σ : L2.St} {H : Hp} {Q : VK} (h : wE Γ W g σ H Q) {Q1 : List V → Hp → Prop}
    (i : ∀ G cs μ v H1 a, RelM Γ G cs μ H1 → RepA Γ.K G cs v a → Post Γ (RepS Γ.K) (wX Γ W σ) G cs H1 (k a μ) Q → Q1 v H1) : wA Γ W f σ H Q1 := by
  obtain ⟨G, cs, ρ, μ, r, p⟩ := h
  rw [hg] at p
  exact ⟨G, cs, ρ, μ, r, (Post.bind (rep := RepA Γ.K) p).imp fun v H1 ⟨G1, cs1, a, μ1, g1, m1, q1, p1⟩ => i G1 cs1 μ1 v H1 a m1 q1 p1⟩
theorem d_tup {es : List Expr} {k : Nat} {pos : Pos} {g : EvA} (h : PE X (.Tuple es k pos) (tTup (wA Γ W g))) : PE X (.Tuple es k pos) (wE Γ W (dTup g)) := by
  refine pe_imp h fun σ H Q h => ?_
  refine wA.of (fun _ _ => rfl) h fun G cs μ v H1 a m q p => ?_
  split at p
  · rename_i ds hd
    split at p
    · rename_i hl
      have r := datas_ok q hd
      refine ⟨by rw [r.length]; exact Nat.le_trans hl maxN_le, fun l hl' => ?_⟩
      obtain ⟨g, m'⟩ := m.imm hl' (.tup v)
      exact p.at g m' (.tup upd_same hl (r.mono g.ex))
    · exact p.elim
  · exact p.elim
theorem wA.ofF {f : EvA} {k : List Sv → Mu → R Cell} {g : EvF} (hg : ∀ ρ μ, g ρ μ = (f ρ μ).bind k) {σ : L2.St} {H : Hp} {Q : VK} (h : wF Γ W g σ H Q) {Q1 : List V → Hp → Prop}
    (i : ∀ G cs μ v H1 a, RelM Γ G cs μ H1 → RepA Γ.K G cs v a → PostF Γ (wX Γ W σ) G cs H1 (k a μ) Q → Q1 v H1) : wA Γ W f σ H Q1 := by
  obtain ⟨G, cs, ρ, μ, r, p⟩ := h
  rw [hg] at p
  exact ⟨G, cs, ρ, μ, r, (PostF.bind (rep := RepA Γ.K) p).imp fun v H1 ⟨G1, cs1, a, μ1, g1, m1, q1, p1⟩ => i G1 cs1 μ1 v H1 a m1 q1 p1⟩
/-- a new object laid at l -/
theorem PostF.lay {E : Xn → Option Addr → Hp → Prop} {G H : Hp} {cs : List Addr} {μ : Mu} {Q : VK} {c : Cell} (p : PostF Γ E G cs H (.ok c μ) Q) (m : RelM Γ G cs μ H) {l : Addr} (hl : H l = none) (o : HO) (rc : G l = none → Same G G → RepC Γ G cs (upd H l o) l c) : Q (.ref l) (upd H l o) := by
  have gp := m.freshG hl
  have np := m.fresh hl
  refine p G cs (upd H l o) l ⟨.refl _, List.prefix_refl _, fun a u q _ => by rw [upd_ne (ne_of_none q hl)]; exact q, fun _ _ z => z, fun _ _ _ z => z⟩ ?_ hl np (rc gp (.refl _))
  refine ⟨fun b u q => by rw [upd_ne (ne_of_none q gp)]; exact m.sub _ _ q, m.len, m.nd, fun n a c' e1 e2 => ?_⟩
  have na : a ≠ l := fun z => np (by rw [← z]; exact List.mem_of_getElem? e1)
  have r := m.cell n a c' e1 e2
  cases c' with
  | lst xs => obtain ⟨g, k, vs, q, r⟩ := r; exact ⟨g, k, vs, by rw [upd_ne na]; exact q, r⟩
  | dk xs => obtain ⟨g, k, vs, q, r⟩ := r; exact ⟨g, k, vs, by rw [upd_ne na]; exact q, r⟩
  | dt xs => obtain ⟨g, k, vs, q, r⟩ := r; exact ⟨g, k, vs, by rw [upd_ne na]; exact q, r⟩
  | fz d => exact r
  | ob fs => obtain ⟨g, dx, vs, q, r⟩ := r; exact ⟨g, dx, vs, by rw [upd_ne na]; exact q, r⟩
theorem d_lst {es : List Expr} {pos : Pos} {g : EvA} (h : PE X (.List es pos) (tLst (wA Γ W g))) : PE X (.List es pos) (wF Γ W (dLst g)) := by
  refine pe_imp h fun σ H Q h => ?_
  refine wA.ofF (fun _ _ => rfl) h fun G cs μ v H1 a m q p => ?_
  split at p
  · rename_i ds hd
    split at p
    · rename_i hl
      have r := datas_ok q hd
      exact ⟨by rw [r.length]; exact Nat.le_trans hl maxN_le, fun l hl' => p.lay m hl' (.lst v) fun gp _ => ⟨gp, hl, v, upd_same, r⟩⟩
    · exact p.elim
  · exact p.elim
theorem d_dk {pos : Pos} : PE X (.Dict [] [] pos) (wF Γ W dDk) := pe_imp pe_dnewK fun σ H Q h l hl => by
  obtain ⟨G, cs, ρ, μ, rl, po⟩ := h
  exact PostF.lay po rl.m hl (.dK []) fun gp _ => ⟨gp, Nat.zero_le _, [], upd_same, .nil⟩
theorem d_dt {pos : Pos} : PE X (.Dict [] [] pos) (wF Γ W dDt) := pe_imp pe_dnewT fun σ H Q h l hl => by
  obtain ⟨G, cs, ρ, μ, rl, po⟩ := h
  exact PostF.lay po rl.m hl (.dT []) fun gp _ => ⟨gp, Nat.zero_le _, [], upd_same, .nil⟩
end
end SP

/-! SPe: statements, loops, comprehensions, calls, defs. -/
namespace SP
open PySem L2

abbrev W0 : WX := fun _ _ _ _ => False
section
variable {Γ : Gm} {X : Cx} {W : WX}
/-! ### statements -/
theorem wE.stm' {f : Ev} {k : Sv → Rho → Mu → O} {σ : L2.St} {H : Hp} {D : Ends} {G : Hp} {cs : List Addr} {ρ : Rho} {μ : Mu} (rl : Rel Γ G cs ρ μ σ H) (po : PostS Γ W D G cs H (sE f k ρ μ)) {Q1 : VK}
    (i : ∀ G' cs' μ' v H1 a, Grow G cs H G' cs' H1 → Rel Γ G' cs' ρ μ' σ H1 → RepS Γ.K G' cs' v a → PostS Γ W D G' cs' H1 (k a ρ μ') → Q1 v H1) : wE Γ W f σ H Q1 := by
  refine ⟨G, cs, ρ, μ, rl, ?_⟩
  unfold sE at po
  cases e : f ρ μ with
  | ok a μ1 =>
    rw [e] at po
    exact fun G' cs' H' v g m r => i G' cs' μ1 v H' a g (rl.grow g m) r (PostS.mono (show PostS Γ W D G cs H (k a ρ μ1) from po) g)
  | ex c μ1 =>
    rw [e] at po
    have po : PostS Γ W D G cs H (.ex c ρ μ1) := po
    exact fun G' cs' H' d g m => po G' cs' H' σ d g (rl.grow g m)
  | no => rw [e] at po; exact po
theorem wE.stm {f : Ev} {k : Sv → Rho → Mu → O} {σ : L2.St} {H : Hp} {D : Ends} (h : wS Γ W (sE f k) D σ H) {Q1 : VK}
    (i : ∀ G cs ρ μ v H1 a, Rel Γ G cs ρ μ σ H1 → RepS Γ.K G cs v a → PostS Γ W D G cs H1 (k a ρ μ) → Q1 v H1) : wE Γ W f σ H Q1 := by
  obtain ⟨G, cs, ρ, μ, rl, po⟩ := h
  exact wE.stm' rl po fun G' cs' μ' v H1 a _ r q p => i G' cs' ρ μ' v H1 a r q p
theorem PostS.nowN {D : Ends} {G H : Hp} {cs : List Addr} {ρ : Rho} {μ : Mu} {σ : L2.St} (h : PostS Γ W D G cs H (.nx ρ μ)) (r : Rel Γ G cs ρ μ σ H) : D.nx σ H := h G cs H σ .refl r
theorem Rel.set {G H : Hp} {cs : List Addr} {ρ : Rho} {μ : Mu} {σ : L2.St} (r : Rel Γ G cs ρ μ σ H) (i : Nat) {v : V} {s : Sv} (h : RepS Γ.K G cs v s) : Rel Γ G cs (ρ.set i (some s)) μ (σ.set i (some v)) H := by
  refine ⟨r.m, fun j sv e => ?_, by simp [r.l]⟩
  by_cases hj : j = i
  · subst hj
    by_cases hl : j < ρ.length
    · rw [List.getElem?_set_self hl] at e
      cases e
      exact ⟨v, by rw [List.getElem?_set_self (r.l ▸ hl)], h⟩
    · rw [List.getElem?_eq_none (by simpa using hl)] at e; cases e
  · rw [List.getElem?_set_ne (Ne.symm hj)] at e
    obtain ⟨u, h1, h2⟩ := r.s j sv e
    exact ⟨u, by rw [List.getElem?_set_ne (Ne.symm hj)]; exact h1, h2⟩
theorem Rel.set0 {G H : Hp} {cs : List Addr} {ρ : Rho} {μ : Mu} {σ : L2.St} (r : Rel Γ G cs ρ μ σ H) (i : Nat) : Rel Γ G cs (ρ.set i none) μ (σ.set i none) H := by
  refine ⟨r.m, fun j sv e => ?_, by simp [r.l]⟩
  by_cases hj : j = i
  · subst hj
    by_cases hl : j < ρ.length
    · rw [List.getElem?_set_self hl] at e; cases e
    · rw [List.getElem?_eq_none (by simpa using hl)] at e; cases e
  · rw [List.getElem?_set_ne (Ne.symm hj)] at e
    obtain ⟨u, h1, h2⟩ := r.s j sv e
    exact ⟨u, by rw [List.getElem?_set_ne (Ne.symm hj)]; exact h1, h2⟩
theorem s_asg {i : Nat} {x : Str} {e : Expr} {f : Ev} {pos pos' : Pos} (hN : X.N.Nodup) (hi : X.N[i]? = some x) (hx : Loc X.env.scope x) (he : PE X e (wE Γ W f)) (hs : swapsWith e (some (.Name x pos')) pos.line X.env = pure false := by rfl)
    (hf : X.fn x = true ∨ X.env.scope.names.lookup x = some .local := by first | exact .inl rfl | exact .inr rfl | assumption) : PS X (.Assign [.Name x pos'] e pos) (wS Γ W (sAsg i f)) :=
  ps_imp (ps_set (i := i) hN hi hx he hs hf) fun D σ H h => wE.stm h fun G cs ρ μ v H1 a rl r po => po.nowN (rl.set i r)
theorem s_drop {e : Expr} {f : Ev} {pos : Pos} (he : PE X e (wE Γ W f)) (hs : swapsWith e none pos.line X.env = pure false := by rfl) : PS X (.Expr e pos) (wS Γ W (sDrop f)) :=
  ps_imp (ps_expr he hs) fun D σ H h => wE.stm h fun G cs ρ μ v H1 a rl r po => po.nowN rl
theorem s_ret {e : Expr} {f : Ev} {pos : Pos} (he : PE X e (wE Γ W f)) : PS X (.Return (some e) pos) (wS Γ W (sRet f)) :=
  ps_imp (ps_ret he) fun D σ H h => wE.stm h fun G cs ρ μ v H1 a rl r po => po G cs H1 v .refl rl.m r
theorem s_pass {pos : Pos} : PS X (.Pass pos) (wS Γ W sNext) := ps_imp ps_pass fun D σ H h => by
  obtain ⟨G, cs, ρ, μ, rl, po⟩ := h
  exact po.nowN rl
theorem ss_nil : PSs X [] (wS Γ W sNext) := pss_imp pss_nil fun D σ H h => by
  obtain ⟨G, cs, ρ, μ, rl, po⟩ := h
  exact po.nowN rl
theorem ss_one {s : Stmt} {f : EvS} (h : PS X s (wS Γ W f)) : PSs X [s] (wS Γ W f) := pss_one h
theorem ss_cons {s : Stmt} {r : List Stmt} {f g : EvS} (h1 : PS X s (wS Γ W f)) (h2 : PSs X r (wS Γ W g)) : PSs X (s :: r) (wS Γ W (sSeq f g)) := by
  refine pss_imp (pss_cons h1 h2) fun D σ H h => ?_
  obtain ⟨G, cs, ρ, μ, rl, po⟩ := h
  refine ⟨G, cs, ρ, μ, rl, ?_⟩
  unfold sSeq at po
  cases e : f ρ μ with
  | nx ρ1 μ1 =>
    rw [e] at po
    exact fun G' cs' H' σ' g' r' => ⟨G', cs', ρ1, μ1, r', PostS.mono (show PostS Γ W D G cs H (g ρ1 μ1) from po) g'⟩
  | bk ρ1 μ1 => rw [e] at po; exact po
  | ct ρ1 μ1 => rw [e] at po; exact po
  | rt v μ1 => rw [e] at po; exact po
  | ex c ρ1 μ1 => rw [e] at po; exact po
  | no => rw [e] at po; exact po
theorem s_if {c : Expr} {a b : List Stmt} {pos : Pos} {t : EvT} {f g : EvS} (hc : PT X c (wT Γ W t)) (ha : PSs X a (wS Γ W f)) (hb : PSs X b (wS Γ W g)) : PS X (.If c a b pos) (wS Γ W (sIf t f g)) := by
  refine ps_imp (ps_if hc ha hb) fun D σ H h => ?_
  obtain ⟨G, cs, ρ, μ, rl, po⟩ := h
  refine ⟨G, cs, ρ, μ, rl, ?_⟩
  unfold sIf at po
  cases e : t ρ μ with
  | ok b μ1 =>
    rw [e] at po
    intro G' cs' H' v g' m q
    subst q
    have r' := rl.grow g' m
    cases v with
    | true =>
      show wS Γ W f D σ H'
      exact ⟨G', cs', ρ, μ1, r', PostS.mono (show PostS Γ W D G cs H (f ρ μ1) from po) g'⟩
    | false =>
      show wS Γ W g D σ H'
      exact ⟨G', cs', ρ, μ1, r', PostS.mono (show PostS Γ W D G cs H (g ρ μ1) from po) g'⟩
  | ex c μ1 =>
    rw [e] at po
    have po : PostS Γ W D G cs H (.ex c ρ μ1) := po
    exact fun G' cs' H' d g m => po G' cs' H' σ d g (rl.grow g m)
  | no => rw [e] at po; exact po
theorem s_break {pos : Pos} : PS X (.Break pos) (wS Γ W sBreak) := ps_imp ps_break fun D σ H h => by
  obtain ⟨G, cs, ρ, μ, rl, po⟩ := h
  exact po G cs H σ .refl rl
theorem s_cont {pos : Pos} : PS X (.Continue pos) (wS Γ W sCont) := ps_imp ps_continue fun D σ H h => by
  obtain ⟨G, cs, ρ, μ, rl, po⟩ := h
  exact po G cs H σ .refl rl
/-! ### for -/
/-- one turn of a loop, the rest kept -/
theorem loop_turn {i : Nat} {body : EvS} {D : Ends} {G H : Hp} {cs : List Addr} {ρ : Rho} {μ : Mu} {σ : L2.St} {d : SP.D} {ds : List SP.D} {v : V} (rl : Rel Γ G cs ρ μ σ H) (rv : Rep Γ.K G v d) (po : PostS Γ W D G cs H (loopL i body (d :: ds) ρ μ)) {N : L2.St → Hp → Prop}
    (hN : ∀ G' cs' ρ' μ' σ' H', Grow G cs H G' cs' H' → Rel Γ G' cs' ρ' μ' σ' H' → PostS Γ W D G' cs' H' (loopL i body ds ρ' μ') → N σ' H') : wS Γ W body { D with nx := N, ct := N, bk := D.nx } (σ.set i (some v)) H := by
  refine ⟨G, cs, ρ.set i (some (.im d)), μ, rl.set i rv, ?_⟩
  simp only [loopL] at po
  cases e : body (ρ.set i (some (.im d))) μ with
  | nx ρ1 μ1 => rw [e] at po; exact fun G' cs' H' σ' g r => hN _ _ _ _ _ _ g r (PostS.mono po g)
  | ct ρ1 μ1 => rw [e] at po; exact fun G' cs' H' σ' g r => hN _ _ _ _ _ _ g r (PostS.mono po g)
  | bk ρ1 μ1 => rw [e] at po; exact po
  | rt v μ1 => rw [e] at po; exact po
  | ex c ρ1 μ1 => rw [e] at po; exact po
  | no => rw [e] at po; exact po
theorem s_forL {i : Nat} {x : Str} {iter : Expr} {body : List Stmt} {pos xpos : Pos} {f : Ev} {b : EvS} (hp : PassesOwn (model X.prog X.w) X.A X.env X.xe) (hc : X.calm = true) (hN : X.N.Nodup) (hi : X.N[i]? = some x) (hx : Loc X.env.scope x) (he : PE X iter (wE Γ W f)) (hb : PSs X body (wS Γ W b))
    (hs : ∀ x, foldedSetIterable iter X.env x = pure x := by intro _; rfl) (hf : X.fn x = true ∨ X.env.scope.names.lookup x = some .local := by first | exact .inl rfl | exact .inr rfl | assumption) : PS X (.For (.Name x xpos) iter body [] pos) (wS Γ W (sForL i f b)) := by
  refine ps_imp (ps_for hp hc (pi_list (d_frz he)) (pg_name (i := i) hN hi hx hf) hb hs) fun D σ H h => ?_
  show iList X.K (wE Γ W (dV f)) σ H _
  refine wE.stm h fun G cs ρ μ v H1 a rl r po => ?_
  split at po
  · rename_i xs
    have r : Rep Γ.K G v (.lst xs) := r
    cases r with
    | lst hl n rs =>
      rename_i a vs
      refine ⟨a, rfl, ⟨vs, .of (rl.m.sub _ _ hl)⟩, for_list (K := X.K) (a := a) (xs := vs) (fun k σ H => ∃ G cs ρ μ, Rel Γ G cs ρ μ σ H ∧ G a = some (.lst vs) ∧ Reps Γ.K G vs xs ∧ PostS Γ W D G cs H (loopL i b (xs.drop k) ρ μ)) ⟨G, cs, ρ, μ, rl, hl, rs, by simpa using po⟩
        (fun k σ H _ ⟨G, cs, ρ, μ, rl, hl, _⟩ => .of (rl.m.sub _ _ hl)) (fun k x σ H hx ⟨G, cs, ρ, μ, rl, hl, rs, po⟩ => ?_) (fun σ H ⟨G, cs, ρ, μ, rl, hl, rs, po⟩ => ?_)⟩
      · obtain ⟨d, hd, rd⟩ := rs.get' hx
        have ek : xs.drop k = d :: xs.drop (k + 1) := by
          have hk := (List.getElem?_eq_some_iff.mp hd).1
          rw [List.drop_eq_getElem_cons hk]
          rw [(List.getElem?_eq_some_iff.mp hd).2]
        rw [ek] at po
        exact loop_turn rl rd po fun G' cs' ρ' μ' σ' H' g r p => ⟨G', cs', ρ', μ', r, g.ex _ _ hl, rs.mono g.ex, p⟩
      · rw [rs.length, List.drop_length] at po
        exact po.nowN rl
  · exact po.elim
theorem s_forS {i : Nat} {x : Str} {iter : Expr} {body : List Stmt} {pos xpos : Pos} {f : Ev} {b : EvS} (hp : PassesOwn (model X.prog X.w) X.A X.env X.xe) (hc : X.calm = true) (hN : X.N.Nodup) (hi : X.N[i]? = some x) (hx : Loc X.env.scope x) (he : PE X iter (wE Γ W f)) (hb : PSs X body (wS Γ W b))
    (hs : ∀ x, foldedSetIterable iter X.env x = pure x := by intro _; rfl) (hf : X.fn x = true ∨ X.env.scope.names.lookup x = some .local := by first | exact .inl rfl | exact .inr rfl | assumption) : PS X (.For (.Name x xpos) iter body [] pos) (wS Γ W (sForS i f b)) := by
  refine ps_imp (ps_for hp hc (pi_str he) (pg_name (i := i) hN hi hx hf) hb hs) fun D σ H h => ?_
  show wE Γ W f σ H _
  refine wE.stm h fun G cs ρ μ v H1 a rl r po => ?_
  split at po
  · rename_i z
    have r : Rep Γ.K G v (.str z) := r
    cases r with
    | str _ gz =>
      refine ⟨z, rfl, ?_⟩
      refine ⟨fun k m σ H => m = z.cps.size - k ∧ k ≤ z.cps.size ∧ ∃ G cs ρ μ, Rel Γ G cs ρ μ σ H ∧ PostS Γ W D G cs H (loopL i b ((z.cps.toList.map fun c => SP.D.str ⟨#[c]⟩).drop k) ρ μ), ⟨_, rfl, Nat.zero_le _, G, cs, ρ, μ, rl, by simpa using po⟩, ?_⟩
      rintro k m σ H ⟨rfl, hk, G, cs, ρ, μ, rl, po⟩
      by_cases hlt : k < z.cps.size
      · have hd : (z.cps.toList.map fun c => SP.D.str ⟨#[c]⟩)[k]? = some (SP.D.str ⟨#[z.cps[k]]⟩) := by
          rw [List.getElem?_map]
          simp [hlt]
        have ek : (z.cps.toList.map fun c => SP.D.str ⟨#[c]⟩).drop k = SP.D.str ⟨#[z.cps[k]]⟩ :: (z.cps.toList.map fun c => SP.D.str ⟨#[c]⟩).drop (k + 1) := by
          have hk := (List.getElem?_eq_some_iff.mp hd).1
          rw [List.drop_eq_getElem_cons hk]
          rw [(List.getElem?_eq_some_iff.mp hd).2]
        rw [ek] at po
        refine .inr ⟨hlt, fun σ' H' => ∃ G cs ρ μ, Rel Γ G cs ρ μ σ' H' ∧ PostS Γ W D G cs H' (loopL i b ((z.cps.toList.map fun c => SP.D.str ⟨#[c]⟩).drop (k + 1)) ρ μ), fun σ' H' w => ⟨z.cps.size - (k + 1), by omega, rfl, by omega, w⟩, fun x H' y => ?_⟩
        obtain ⟨rfl, c, hc, rfl⟩ := y
        have e1 : c = z.cps[k] := by
          rw [Array.getElem?_eq_getElem hlt] at hc
          exact (Option.some.inj hc).symm
        subst e1
        exact loop_turn rl (.str _ (goodS_one (goodS_mem gz (by simp)))) po fun G' cs' ρ' μ' σ' H' g r p => ⟨G', cs', ρ', μ', r, p⟩
      · have e : k = z.cps.size := by omega
        refine .inl ⟨by show z.cps.size ≤ k; omega, ?_⟩
        rw [List.drop_eq_nil_of_le (by simp; omega)] at po
        exact po.nowN rl
  · exact po.elim
theorem range_drop {lo : Int} {n k : Nat} (h : k < n) : (rangeD lo n).drop k = D.int (lo + (k : Int)) :: (rangeD lo n).drop (k + 1) := by
  have hd : (rangeD lo n)[k]? = some (D.int (lo + (k : Int))) := by
    unfold rangeD
    rw [List.getElem?_map, List.getElem?_range h]; rfl
  have hk := (List.getElem?_eq_some_iff.mp hd).1
  rw [List.drop_eq_getElem_cons hk, (List.getElem?_eq_some_iff.mp hd).2]
theorem in62_ok {i : Int} (h : in62 i = true) : -(2 ^ 62) ≤ i ∧ i < 2 ^ 62 := by
  have := Nat.le_of_ble_eq_true h
  have e : (2 : Int) ^ 62 = 4611686018427387904 := by decide
  rw [e]
  omega
theorem range_loop {i : Nat} {b : EvS} {D : Ends} {G H : Hp} {cs : List Addr} {ρ : Rho} {μ : Mu} {σ : L2.St} {lo : Int} {n : Nat} (rl : Rel Γ G cs ρ μ σ H) (po : PostS Γ W D G cs H (loopL i b (rangeD lo n) ρ μ)) :
    ∃ Wn : Nat → Nat → L2.St → Hp → Prop, (∃ m, Wn 0 m σ H) ∧ ∀ k m σ H, Wn k m σ H → ((Itr lo n).stop k H ∧ D.nx σ H) ∨ ((Itr lo n).go k H ∧ ∃ N : L2.St → Hp → Prop, (∀ σ' H', N σ' H' → ∃ m', m' < m ∧ Wn (k + 1) m' σ' H') ∧ ∀ x H', (Itr lo n).yld k H x H' → gName i x σ H' fun σ2 H2 => wS Γ W b { D with nx := N, ct := N, bk := D.nx } σ2 H2) := by
  refine for_range (lo := lo) (n := n) (fun k σ H => ∃ G cs ρ μ, Rel Γ G cs ρ μ σ H ∧ PostS Γ W D G cs H (loopL i b ((rangeD lo n).drop k) ρ μ)) ⟨G, cs, ρ, μ, rl, by simpa using po⟩ (fun k σ H hk ⟨G, cs, ρ, μ, rl, po⟩ => ?_) (fun σ H ⟨G, cs, ρ, μ, rl, po⟩ => ?_)
  · rw [range_drop hk] at po
    exact loop_turn rl (.int _) po fun G' cs' ρ' μ' σ' H' g r p => ⟨G', cs', ρ', μ', r, p⟩
  · rw [List.drop_eq_nil_of_le (by simp [rangeD])] at po
    exact po.nowN rl
theorem s_forR1 {i : Nat} {x : Str} {a : Expr} {body : List Stmt} {pos xpos p rp : Pos} {f : Ev} {b : EvS} (hp : PassesOwn (model X.prog X.w) X.A X.env X.xe) (hc : X.calm = true) (hN : X.N.Nodup) (hi : X.N[i]? = some x) (hx : Loc X.env.scope x) (hg : Gl X "range") (hm : X.mg "range" = none) (he : PE X a (wE Γ W f)) (hb : PSs X body (wS Γ W b))
    (hs1 : starEach [a] X.env = [(false, eval a X.env)] := by rfl) (hs : ∀ x, foldedSetIterable (.Call (.Name "range" p) [a] [] rp) X.env x = pure x := by intro _; rfl) (hf : X.fn x = true ∨ X.env.scope.names.lookup x = some .local := by first | exact .inl rfl | exact .inr rfl | assumption) :
    PS X (.For (.Name x xpos) (.Call (.Name "range" p) [a] [] rp) body [] pos) (wS Γ W (sForR1 i f b)) := by
  refine ps_imp (ps_for hp hc (pi_range1 hg hm (pa_cons he pa_nil hs1) (hs := hs1)) (pg_name (i := i) hN hi hx hf) hb hs) fun D σ H h => ?_
  show wE Γ W f σ H _
  refine wE.stm h fun G cs ρ μ v H1 a rl r po => ?_
  split at po
  · rename_i n
    have r : Rep Γ.K G v (.int n) := r
    cases r
    split at po
    · rename_i hn
      obtain ⟨h1, h2⟩ := in62_ok hn
      exact ⟨n, rfl, h1, h2, range_loop rl po⟩
    · exact po.elim
  · exact po.elim
theorem s_forR2 {i : Nat} {x : Str} {a a2 : Expr} {body : List Stmt} {pos xpos p rp : Pos} {f g : Ev} {b : EvS} (hp : PassesOwn (model X.prog X.w) X.A X.env X.xe) (hc : X.calm = true) (hN : X.N.Nodup) (hi : X.N[i]? = some x) (hx : Loc X.env.scope x) (hg : Gl X "range") (hm : X.mg "range" = none) (he : PE X a (wE Γ W f)) (he2 : PE X a2 (wE Γ W g)) (hb : PSs X body (wS Γ W b))
    (hs1 : starEach [a, a2] X.env = [(false, eval a X.env), (false, eval a2 X.env)] := by rfl) (hs2 : starEach [a2] X.env = [(false, eval a2 X.env)] := by rfl) (hs : ∀ x, foldedSetIterable (.Call (.Name "range" p) [a, a2] [] rp) X.env x = pure x := by intro _; rfl) (hf : X.fn x = true ∨ X.env.scope.names.lookup x = some .local := by first | exact .inl rfl | exact .inr rfl | assumption) :
    PS X (.For (.Name x xpos) (.Call (.Name "range" p) [a, a2] [] rp) body [] pos) (wS Γ W (sForR2 i f g b)) := by
  refine ps_imp (ps_for hp hc (pi_range2 hg hm (pa_cons he (pa_cons he2 pa_nil hs2) (by rw [hs1, hs2])) (hs := hs1) (hs2 := hs2)) (pg_name (i := i) hN hi hx hf) hb hs) fun D σ H h => ?_
  show wE Γ W f σ H _
  refine wE.stm h fun G cs ρ μ v H1 a rl r po => ?_
  split at po
  · rename_i n
    have r : Rep Γ.K G v (.int n) := r
    cases r
    show wE Γ W g σ H1 _
    refine wE.stm (D := D) ⟨G, cs, ρ, μ, rl, po⟩ fun G cs ρ μ v H1 a rl r po => ?_
    split at po
    · rename_i m
      have r : Rep Γ.K G v (.int m) := r
      cases r
      split at po
      · rename_i hn
        simp only [Bool.and_eq_true] at hn
        obtain ⟨h1, h2⟩ := in62_ok hn.1
        obtain ⟨h3, h4⟩ := in62_ok hn.2
        exact ⟨n, m, rfl, ⟨h1, h2, h3, h4⟩, range_loop rl po⟩
      · exact po.elim
    · exact po.elim
  · exact po.elim
/-! ### while -/
theorem s_while {c : Expr} {body : List Stmt} {pos : Pos} {t : EvT} {b : EvS} {n : Nat} (hp : PassesOwn (model X.prog X.w) X.A X.env X.xe) (hc : PT X c (wT Γ W t)) (hb : PSs X body (wS Γ W b)) : PS X (.While c body [] pos) (wS Γ W (sWhile t b n)) := by
  refine ps_imp (ps_while hp hc hb) fun D σ H h => ?_
  obtain ⟨G, cs, ρ, μ, rl, po⟩ := h
  refine ⟨fun m σ H => ∃ G cs ρ μ, Rel Γ G cs ρ μ σ H ∧ PostS Γ W D G cs H (sWhile t b m ρ μ), ⟨n, G, cs, ρ, μ, rl, po⟩, ?_⟩
  rintro m σ H ⟨G, cs, ρ, μ, rl, po⟩
  cases m with
  | zero => exact po.elim
  | succ m =>
    refine ⟨G, cs, ρ, μ, rl, ?_⟩
    simp only [sWhile] at po
    cases e : t ρ μ with
    | ok v μ1 =>
      rw [e] at po
      cases v with
      | true =>
        intro G' cs' H' v' g' m' q
        subst q
        refine ⟨fun σ H => ∃ G cs ρ μ, Rel Γ G cs ρ μ σ H ∧ PostS Γ W D G cs H (sWhile t b m ρ μ), fun σ' H' w => ⟨m, Nat.lt_succ_self _, w⟩, G', cs', ρ, μ1, rl.grow g' m', ?_⟩
        have po := PostS.mono po g'
        dsimp only at po
        cases e2 : b ρ μ1 with
        | nx ρ1 μ2 => rw [e2] at po; exact fun G2 cs2 H2 σ2 g2 r2 => ⟨G2, cs2, ρ1, μ2, r2, PostS.mono po g2⟩
        | ct ρ1 μ2 => rw [e2] at po; exact fun G2 cs2 H2 σ2 g2 r2 => ⟨G2, cs2, ρ1, μ2, r2, PostS.mono po g2⟩
        | bk ρ1 μ2 => rw [e2] at po; exact po
        | rt v μ2 => rw [e2] at po; exact po
        | ex c ρ1 μ2 => rw [e2] at po; exact po
        | no => rw [e2] at po; exact po
      | false =>
        intro G' cs' H' v' g' m' q
        subst q
        exact (PostS.mono po g').nowN (rl.grow g' m')
    | ex x μ1 =>
      rw [e] at po
      have po : PostS Γ W D G cs H (.ex x ρ μ1) := po
      exact fun G' cs' H' d g m => po G' cs' H' σ d g (rl.grow g m)
    | no => rw [e] at po; exact po
/-! ### append -/
theorem s_app {o e : Expr} {apos cpos pos : Pos} {fx fe : Ev} (hx : PE X o (wE Γ W fx)) (he : PE X e (wE Γ W fe)) (h : PE X (.Call (.Attribute o "append" apos) [e] [] cpos) (tBM X.K "list" rAppend (wE Γ W fx) (tCons (wE Γ W fe) tNil)))
    (hs : swapsWith (.Call (.Attribute o "append" apos) [e] [] cpos) none pos.line X.env = pure false := by rfl) : PS X (.Expr (.Call (.Attribute o "append" apos) [e] [] cpos) pos) (wS Γ W (sApp fx fe)) := by
  refine ps_imp (ps_expr h hs) fun D σ H h => ?_
  show wE Γ W fx σ H _
  refine wE.stm h fun G cs ρ μ v H1 a rl r po => ?_
  split at po
  · rename_i n
    obtain ⟨p, hp, rfl⟩ := id r
    split at po
    · rename_i xs0 hx0
      obtain ⟨_, _, vs0, h0, _⟩ := rl.m.cell n p _ hp hx0
      refine ⟨.inl ⟨rfl, vs0, .of h0⟩, ?_⟩
      show wE Γ W fe σ H1 _
      refine wE.stm' rl po fun G2 cs2 μ2 w H2 b g2 rl2 r2 po => ?_
      split at po
      · rename_i d
        split at po
        · rename_i xs hx
          split at po
          · rename_i hl
            have hp2 : cs2[n]? = some p := pre_get g2.pre hp
            obtain ⟨g, _, vs, h1, rs⟩ := rl2.m.cell n p _ hp2 hx
            refine ⟨p, vs, w, rfl, rfl, h1, by rw [rs.length]; exact Nat.lt_of_lt_of_le hl maxN_le, ?_⟩
            obtain ⟨g3, m3⟩ := rl2.m.put hp2 (.lst (vs ++ [w])) (.lst (xs ++ [d])) g ⟨g, by rw [List.length_append]; exact hl, vs ++ [w], upd_same, rs.append (.cons r2 .nil)⟩
            exact po G2 cs2 _ σ g3 (rl2.grow g3 m3)
          · exact po.elim
        · exact po.elim
      · exact po.elim
    · exact po.elim
  · exact po.elim
end
end SP

/-! SPf: comprehensions, calls of defs, defs. -/
namespace SP
open PySem L2

section
variable {Γ : Gm} {X : Cx} {W : WX}
/-! ### comprehensions -/
theorem RelM.off {G H : Hp} {cs : List Addr} {μ : Mu} (m : RelM Γ G cs μ H) {p : Addr} (np : p ∉ cs) (gp : G p = none) (o : HO) : RelM Γ G cs μ (upd H p o) := by
  refine ⟨fun b u q => by rw [upd_ne (ne_of_none q gp)]; exact m.sub _ _ q, m.len, m.nd, fun n a c' e1 e2 => ?_⟩
  have na : a ≠ p := fun z => np (by rw [← z]; exact List.mem_of_getElem? e1)
  have r := m.cell n a c' e1 e2
  cases c' with
  | lst xs => obtain ⟨g, k, vs, q, r⟩ := r; exact ⟨g, k, vs, by rw [upd_ne na]; exact q, r⟩
  | dk xs => obtain ⟨g, k, vs, q, r⟩ := r; exact ⟨g, k, vs, by rw [upd_ne na]; exact q, r⟩
  | dt xs => obtain ⟨g, k, vs, q, r⟩ := r; exact ⟨g, k, vs, by rw [upd_ne na]; exact q, r⟩
  | fz d => exact r
  | ob fs => obtain ⟨g, dx, vs, q, r⟩ := r; exact ⟨g, dx, vs, by rw [upd_ne na]; exact q, r⟩
theorem Grow.off {G G' H H' : Hp} {cs cs' : List Addr} (g : Grow G cs H G' cs' H') {p : Addr} (hp : H p = none) (o : HO) : Grow G cs H G' cs' (upd H' p o) :=
  ⟨g.ex, g.pre, fun a u q n => by rw [upd_ne (ne_of_none q hp)]; exact g.fr a u q n, g.n1, g.n2⟩
/-- within a comprehension: what is made stands at P, the items ds are left -/
def LcI (Γ : Gm) (E : Xn → Option Addr → Hp → Prop) (P : Addr) (i : Nat) (t : EvT) (e : Ev) (ρ : Rho) (G1 : Hp) (cs1 : List Addr) (H1 : Hp) (Q : VK) (ds : List SP.D) (k : Nat) (H : Hp) : Prop :=
  ∃ G cs μ acc ads, Grow G1 cs1 H1 G cs H ∧ RelM Γ G cs μ H ∧ P ∉ cs ∧ G P = none ∧ H P = some (.lst acc) ∧ Reps Γ.K G acc ads ∧ ads.length ≤ k ∧ PostF Γ E G1 cs1 H1 ((lcL i t e ds ρ μ).bind fun ys μ3 => .ok (.lst (ads ++ ys)) μ3) Q
theorem lc_turn {E : Xn → Option Addr → Hp → Prop} {P : Addr} {i : Nat} {t : EvT} {e : Ev} {ρ : Rho} {G1 : Hp} {cs1 : List Addr} {H1 : Hp} {Q : VK} {d : SP.D} {ds : List SP.D} {k : Nat} {H : Hp} {σ : L2.St} {v : V} (h1 : H1 P = none) (hk : k < maxN)
    (h : LcI Γ E P i t e (ρ.set i none) G1 cs1 H1 Q (d :: ds) k H) (rs : RelS Γ.K G1 cs1 (ρ.set i none) (σ.set i none)) (hl : σ.length = ρ.length) (rv : ∀ G, Same G1 G → Rep Γ.K G v d) :
    gName i v (wipe σ [i]) H fun σ2 H2 => wipe σ2 [i] = wipe σ [i] ∧ wT Γ W0 t σ2 H2 fun b H3 => if b = true then wE Γ W0 e σ2 H3 fun y H4 => ∃ acc, H4 P = some (.lst acc) ∧ acc.length < sizeLine ∧ LcI Γ E P i t e (ρ.set i none) G1 cs1 H1 Q ds (k + 1) (upd H4 P (.lst (acc ++ [y]))) else LcI Γ E P i t e (ρ.set i none) G1 cs1 H1 Q ds (k + 1) H3 := by
  obtain ⟨G, cs, μ, acc, ads, g, m, np, gp, hP, ra, hle, po⟩ := h
  have ew : wipe σ [i] = σ.set i none := rfl
  show wipe ((wipe σ [i]).set i (some v)) [i] = wipe σ [i] ∧ _
  refine ⟨by show ((σ.set i none).set i (some v)).set i none = σ.set i none; rw [List.set_set, List.set_set], ?_⟩
  have rl : Rel Γ G cs (ρ.set i none) μ (σ.set i none) H := ⟨m, rs.mono g.ex g.pre, by simp [hl]⟩
  have rl2 := rl.set i (v := v) (s := .im d) (rv G g.ex)
  refine ⟨G, cs, (ρ.set i none).set i (some (.im d)), μ, rl2, ?_⟩
  simp only [lcL] at po
  cases et : t ((ρ.set i none).set i (some (.im d))) μ with
  | ok b μ1 =>
    rw [et] at po
    intro G2 cs2 H2 b' g2 m2 q
    subst q
    have np2 : P ∉ cs2 := g2.n1 P (by rw [hP]; exact fun z => nomatch z) np
    have gp2 : G2 P = none := g2.n2 P (by rw [hP]; exact fun z => nomatch z) np gp
    have hP2 : H2 P = some (.lst acc) := g2.fr P _ hP np
    cases b' with
    | false =>
      exact ⟨G2, cs2, μ1, acc, ads, g.trans g2, m2, np2, gp2, hP2, ra.mono g2.ex, Nat.le_succ_of_le hle, po⟩
    | true =>
      show wE Γ W0 e _ H2 _
      have rl3 := rl2.grow g2 m2
      refine ⟨G2, cs2, (ρ.set i none).set i (some (.im d)), μ1, rl3, ?_⟩
      simp only [R.quiet, R.bind] at po
      cases ee : e ((ρ.set i none).set i (some (.im d))) μ1 with
      | ok w μ2 =>
        rw [ee] at po
        intro G3 cs3 H3 y g3 m3 ry
        have np3 : P ∉ cs3 := g3.n1 P (by rw [hP2]; exact fun z => nomatch z) np2
        have gp3 : G3 P = none := g3.n2 P (by rw [hP2]; exact fun z => nomatch z) np2 gp2
        have hP3 : H3 P = some (.lst acc) := g3.fr P _ hP2 np2
        have ra3 := (ra.mono g2.ex).mono g3.ex
        refine ⟨acc, hP3, by rw [ra.length]; exact Nat.lt_of_le_of_lt hle (Nat.lt_of_lt_of_le hk maxN_le), ?_⟩
        cases w with
        | im x =>
          refine ⟨G3, cs3, μ2, acc ++ [y], ads ++ [x], ((g.trans g2).trans g3).off h1 _, m3.off np3 gp3 _, np3, gp3, upd_same, ra3.append (.cons ry .nil), by simp; exact hle, ?_⟩
          have e2 : ((lcL i t e ds (ρ.set i none) μ2).bind fun ys μ3 => R.ok (Cell.lst ((ads ++ [x]) ++ ys)) μ3) = (((lcL i t e ds (ρ.set i none) μ2).bind fun ys μ3 => R.ok (x :: ys) μ3).bind fun ys μ3 => R.ok (Cell.lst (ads ++ ys)) μ3) := by
            cases lcL i t e ds (ρ.set i none) μ2 with
            | ok ys μ3 => simp [R.bind]
            | ex c μ3 => rfl
            | no => rfl
          rw [e2]
          exact po
        | rf n => exact po.elim
      | ex c μ2 => rw [ee] at po; exact po.elim
      | no => rw [ee] at po; exact po.elim
  | ex c μ1 => rw [et] at po; exact po.elim
  | no => rw [et] at po; exact po.elim
theorem lcEnd_eq (r : R (List SP.D)) : lcEnd r = r.bind fun ys μ3 => .ok (.lst ([] ++ ys)) μ3 := by
  cases r <;> rfl
theorem LcI.start {E : Xn → Option Addr → Hp → Prop} {P : Addr} {i : Nat} {t : EvT} {e : Ev} {ρ : Rho} {G1 : Hp} {cs1 : List Addr} {H1 : Hp} {μ : Mu} {Q : VK} {ds : List SP.D} (m : RelM Γ G1 cs1 μ H1) (h1 : H1 P = none) (po : PostF Γ E G1 cs1 H1 (lcEnd (lcL i t e ds ρ μ)) Q) : LcI Γ E P i t e ρ G1 cs1 H1 Q ds 0 (upd H1 P (.lst [])) := by
  rw [lcEnd_eq] at po
  exact ⟨G1, cs1, μ, [], [], Grow.refl.off h1 _, m.off (m.fresh h1) (m.freshG h1) _, m.fresh h1, m.freshG h1, upd_same, .nil, Nat.le_refl _, po⟩
theorem LcI.done {E : Xn → Option Addr → Hp → Prop} {P : Addr} {i : Nat} {t : EvT} {e : Ev} {ρ : Rho} {G1 : Hp} {cs1 : List Addr} {H1 H : Hp} {Q : VK} {k : Nat} (h1 : H1 P = none) (hk : k ≤ maxN) (h : LcI Γ E P i t e ρ G1 cs1 H1 Q [] k H) : Q (.ref P) H := by
  obtain ⟨G, cs, μ, acc, ads, g, m, np, gp, hP, ra, hle, po⟩ := h
  have po : PostF Γ E G1 cs1 H1 (.ok (.lst (ads ++ [])) μ) Q := po
  rw [List.append_nil] at po
  exact po G cs H P g m h1 np ⟨gp, Nat.le_trans hle hk, acc, hP, ra⟩
theorem pts_imp {ifs : List Expr} {t t' : TT} (h : PTs X ifs t) (i : ∀ σ H Q, t' σ H Q → t σ H Q) : PTs X ifs t' := ⟨fun pins s σ H Q I w => h.run pins s σ H Q I (i σ H Q w)⟩
theorem d_if0 : PTs X [] (wT Γ W0 dYes) := pts_imp pts_nil fun σ H Q h => wT.pure h
theorem d_if1 {c : Expr} {t : EvT} (h : PT X c (wT Γ W0 t)) : PTs X [c] (wT Γ W0 t) := pts_one h
theorem lcL_read {iter : Expr} {i : Nat} {f : Ev} {t : EvT} {el : Ev} {σ : L2.St} {H : Hp} {Q : VK} {K : PySem.W.Frag} (h : wF Γ W (dLcL i f t el) σ H Q) : tLc (iList K (wE Γ W (dV f))) (gName i) (wT Γ W0 t) (wE Γ W0 el) [i] σ H Q := by
  obtain ⟨G0, cs0, ρ, μ0, rl, po⟩ := h
  refine ⟨G0, cs0, ρ, μ0, rl, (PostF.bind (rep := RepS Γ.K) po).imp fun v H1 ⟨G1, cs1, a, μ1, g1, m1, q1, p1⟩ => ?_⟩
  have rl1 := rl.grow g1 m1
  split at p1
  · rename_i xs
    have q1 : Rep Γ.K G1 v (.lst xs) := q1
    cases q1 with
    | @lst a vs _ hl n rs =>
      by_cases hn : xs.length ≤ maxN
      · rw [if_pos hn] at p1
        refine ⟨a, rfl, ⟨vs, .of (m1.sub _ _ hl)⟩, fun P hP => ?_⟩
        refine lc_list (K := K) (a := a) (xs := vs) (fun k H => LcI Γ (wX Γ W σ) P i t el (ρ.set i none) G1 cs1 H1 Q (xs.drop k) k H) (by simpa using LcI.start m1 hP p1) (fun k H hk h => ?_) (fun k x H hx h => ?_) (fun H h => ?_)
        · obtain ⟨G, cs, μ, acc, ads, g, m, _⟩ := h
          exact .of (m.sub _ _ (g.ex _ _ hl))
        · obtain ⟨d, hd, rd⟩ := rs.get' hx
          have hkl := (List.getElem?_eq_some_iff.mp hd).1
          have ek : xs.drop k = d :: xs.drop (k + 1) := by
            rw [List.drop_eq_getElem_cons hkl, (List.getElem?_eq_some_iff.mp hd).2]
          rw [ek] at h
          exact lc_turn hP (Nat.lt_of_lt_of_le hkl hn) h (rl1.set0 i).s rl1.l fun G e => rd.mono e
        · rw [rs.length, List.drop_length] at h
          exact h.done hP hn
      · rw [if_neg hn] at p1
        exact p1.elim
  · exact p1.elim
theorem d_lcL {elt iter : Expr} {ifs : List Expr} {scope : Scope} {i : Nat} {x : Str} {xp pos : Pos} {f : Ev} {t : EvT} {el : Ev} (hc : X.calm = true) (hN : X.N.Nodup) (hi : PE X iter (wE Γ W f)) (ok : BlkOk X.N X.env.scope scope [(x, i)])
    (hg : ∀ (s : Shared) (H : Hp) (C : Addr) (cl : List (Str × Addr)) (fp : List Addr), PG (X.blk s H scope (compEnvC scope cl C X.env) fp) (.Name x xp) (gName i)) (ht : ∀ (s : Shared) (H : Hp) (C : Addr) (cl : List (Str × Addr)) (fp : List Addr), PTs (X.blk s H scope (compEnvC scope cl C X.env) fp) ifs (wT Γ W0 t))
    (he : ∀ (s : Shared) (H : Hp) (C : Addr) (cl : List (Str × Addr)) (fp : List Addr), PE (X.blk s H scope (compEnvC scope cl C X.env) fp) elt (wE Γ W0 el)) (hs : ∀ x, foldedSetIterable iter X.env x = pure x := by intro _; rfl) :
    PE X (.ListComp elt [⟨.Name x xp, iter, ifs, 0⟩] scope pos) (wF Γ W (dLcL i f t el)) :=
  pe_imp (pe_lc hc hN (pi_list (d_frz hi)) ok hg ht he hs) fun σ H Q h => lcL_read (iter := iter) h
/-- y = [.. for ..]: the store within the comprehension; how: dI or dN -/
theorem s_asgLcLI {y : Str} {j : Nat} {py : Pos} {elt iter : Expr} {ifs : List Expr} {scope : Scope} {i : Nat} {x : Str} {xp pos spos : Pos} {f : Ev} {t : EvT} {el : Ev} (hc : X.calm = true) (hN : X.N.Nodup) (hy : X.N[j]? = some y) (hyl : X.env.scope.names.lookup y = some .local)
    (hsw : swapsWith (.ListComp elt [⟨.Name x xp, iter, ifs, 0⟩] scope pos) (some (.Name y py)) spos.line X.env = pure true) (hi : PE X iter (wE Γ W f)) (ok : BlkOk X.N X.env.scope scope [(x, i)])
    (hg : ∀ (s : Shared) (H : Hp) (C : Addr) (cl : List (Str × Addr)) (fp : List Addr), PG (X.blk s H scope (compEnvC scope cl C X.env) fp) (.Name x xp) (gName i)) (ht : ∀ (s : Shared) (H : Hp) (C : Addr) (cl : List (Str × Addr)) (fp : List Addr), PTs (X.blk s H scope (compEnvC scope cl C X.env) fp) ifs (wT Γ W0 t))
    (he : ∀ (s : Shared) (H : Hp) (C : Addr) (cl : List (Str × Addr)) (fp : List Addr), PE (X.blk s H scope (compEnvC scope cl C X.env) fp) elt (wE Γ W0 el)) (hs : ∀ x, foldedSetIterable iter X.env x = pure x := by intro _; rfl) :
    PS X (.Assign [.Name y py] (.ListComp elt [⟨.Name x xp, iter, ifs, 0⟩] scope pos) spos) (wS Γ W (sAsg j (dI (dLcL i f t el)))) := by
  refine ps_imp (ps_setLc (i := j) hc hN hy hyl hsw (pi_list (d_frz hi)) ok hg ht he hs) fun D σ H h => ?_
  show tLc (iList X.K (wE Γ W (dV f))) (gName i) (wT Γ W0 t) (wE Γ W0 el) [i] σ H fun x H1 => gName j x σ H1 D.nx
  refine lcL_read (iter := iter) ?_
  have q := wE.stm h (Q1 := fun x H1 => gName j x σ H1 D.nx) fun G cs ρ μ v H1 a rl r po => po.nowN (rl.set j r)
  exact wI_of q
theorem s_asgLcLN {y : Str} {j : Nat} {py : Pos} {elt iter : Expr} {ifs : List Expr} {scope : Scope} {i : Nat} {x : Str} {xp pos spos : Pos} {f : Ev} {t : EvT} {el : Ev} (hc : X.calm = true) (hN : X.N.Nodup) (hy : X.N[j]? = some y) (hyl : X.env.scope.names.lookup y = some .local)
    (hsw : swapsWith (.ListComp elt [⟨.Name x xp, iter, ifs, 0⟩] scope pos) (some (.Name y py)) spos.line X.env = pure true) (hi : PE X iter (wE Γ W f)) (ok : BlkOk X.N X.env.scope scope [(x, i)])
    (hg : ∀ (s : Shared) (H : Hp) (C : Addr) (cl : List (Str × Addr)) (fp : List Addr), PG (X.blk s H scope (compEnvC scope cl C X.env) fp) (.Name x xp) (gName i)) (ht : ∀ (s : Shared) (H : Hp) (C : Addr) (cl : List (Str × Addr)) (fp : List Addr), PTs (X.blk s H scope (compEnvC scope cl C X.env) fp) ifs (wT Γ W0 t))
    (he : ∀ (s : Shared) (H : Hp) (C : Addr) (cl : List (Str × Addr)) (fp : List Addr), PE (X.blk s H scope (compEnvC scope cl C X.env) fp) elt (wE Γ W0 el)) (hs : ∀ x, foldedSetIterable iter X.env x = pure x := by intro _; rfl) :
    PS X (.Assign [.Name y py] (.ListComp elt [⟨.Name x xp, iter, ifs, 0⟩] scope pos) spos) (wS Γ W (sAsg j (dN (dLcL i f t el)))) := by
  refine ps_imp (ps_setLc (i := j) hc hN hy hyl hsw (pi_list (d_frz hi)) ok hg ht he hs) fun D σ H h => ?_
  show tLc (iList X.K (wE Γ W (dV f))) (gName i) (wT Γ W0 t) (wE Γ W0 el) [i] σ H fun x H1 => gName j x σ H1 D.nx
  refine lcL_read (iter := iter) ?_
  have q := wE.stm h (Q1 := fun x H1 => gName j x σ H1 D.nx) fun G cs ρ μ v H1 a rl r po => po.nowN (rl.set j r)
  exact wN_of q
theorem wF.rng {f : Ev} {i : Nat} {t : EvT} {el : Ev} {σ : L2.St} {H : Hp} {Q : VK} (h : wF Γ W (dLcR1 i f t el) σ H Q) : tLc (iRng1 (tCons (wE Γ W f) tNil)) (gName i) (wT Γ W0 t) (wE Γ W0 el) [i] σ H Q := by
  obtain ⟨G0, cs0, ρ, μ0, rl, po⟩ := h
  show wE Γ W f σ H _
  refine ⟨G0, cs0, ρ, μ0, rl, (PostF.bind (rep := RepS Γ.K) po).imp fun v H1 ⟨G1, cs1, a, μ1, g1, m1, q1, p1⟩ => ?_⟩
  have rl1 := rl.grow g1 m1
  split at p1
  · rename_i n
    have q1 : Rep Γ.K G1 v (.int n) := q1
    cases q1
    split at p1
    · rename_i hn
      simp only [Bool.and_eq_true, decide_eq_true_eq] at hn
      obtain ⟨h1, h2⟩ := in62_ok hn.1
      refine ⟨n, rfl, h1, h2, fun P hP => ?_⟩
      refine lc_range (lo := 0) (n := n.toNat) (fun k H => LcI Γ (wX Γ W σ) P i t el (ρ.set i none) G1 cs1 H1 Q ((rangeD 0 n.toNat).drop k) k H) (by simpa using LcI.start m1 hP p1) (fun k H hk h => ?_) (fun H h => ?_)
      · rw [range_drop hk] at h
        exact lc_turn hP (Nat.lt_of_lt_of_le hk hn.2) h (rl1.set0 i).s rl1.l fun G e => .int _
      · rw [List.drop_eq_nil_of_le (by simp [rangeD])] at h
        exact h.done hP hn.2
    · exact p1.elim
  · exact p1.elim
theorem d_lcR1 {elt a : Expr} {ifs : List Expr} {scope : Scope} {i : Nat} {x : Str} {xp pos p rp : Pos} {f : Ev} {t : EvT} {el : Ev} (hc : X.calm = true) (hN : X.N.Nodup) (hgr : Gl X "range") (hm : X.mg "range" = none) (hi : PE X a (wE Γ W f)) (ok : BlkOk X.N X.env.scope scope [(x, i)])
    (hg : ∀ (s : Shared) (H : Hp) (C : Addr) (cl : List (Str × Addr)) (fp : List Addr), PG (X.blk s H scope (compEnvC scope cl C X.env) fp) (.Name x xp) (gName i)) (ht : ∀ (s : Shared) (H : Hp) (C : Addr) (cl : List (Str × Addr)) (fp : List Addr), PTs (X.blk s H scope (compEnvC scope cl C X.env) fp) ifs (wT Γ W0 t))
    (he : ∀ (s : Shared) (H : Hp) (C : Addr) (cl : List (Str × Addr)) (fp : List Addr), PE (X.blk s H scope (compEnvC scope cl C X.env) fp) elt (wE Γ W0 el)) (hs1 : starEach [a] X.env = [(false, eval a X.env)] := by rfl) (hs : ∀ x, foldedSetIterable (.Call (.Name "range" p) [a] [] rp) X.env x = pure x := by intro _; rfl) :
    PE X (.ListComp elt [⟨.Name x xp, .Call (.Name "range" p) [a] [] rp, ifs, 0⟩] scope pos) (wF Γ W (dLcR1 i f t el)) :=
  pe_imp (pe_lc hc hN (pi_range1 hgr hm (pa_cons hi pa_nil hs1) (hs := hs1)) ok hg ht he hs) fun σ H Q h => wF.rng h
theorem s_asgLcR1I {y : Str} {j : Nat} {py : Pos} {elt a : Expr} {ifs : List Expr} {scope : Scope} {i : Nat} {x : Str} {xp pos spos p rp : Pos} {f : Ev} {t : EvT} {el : Ev} (hc : X.calm = true) (hN : X.N.Nodup) (hy : X.N[j]? = some y) (hyl : X.env.scope.names.lookup y = some .local)
    (hsw : swapsWith (.ListComp elt [⟨.Name x xp, .Call (.Name "range" p) [a] [] rp, ifs, 0⟩] scope pos) (some (.Name y py)) spos.line X.env = pure true) (hgr : Gl X "range") (hm : X.mg "range" = none) (hi : PE X a (wE Γ W f)) (ok : BlkOk X.N X.env.scope scope [(x, i)])
    (hg : ∀ (s : Shared) (H : Hp) (C : Addr) (cl : List (Str × Addr)) (fp : List Addr), PG (X.blk s H scope (compEnvC scope cl C X.env) fp) (.Name x xp) (gName i)) (ht : ∀ (s : Shared) (H : Hp) (C : Addr) (cl : List (Str × Addr)) (fp : List Addr), PTs (X.blk s H scope (compEnvC scope cl C X.env) fp) ifs (wT Γ W0 t))
    (he : ∀ (s : Shared) (H : Hp) (C : Addr) (cl : List (Str × Addr)) (fp : List Addr), PE (X.blk s H scope (compEnvC scope cl C X.env) fp) elt (wE Γ W0 el)) (hs1 : starEach [a] X.env = [(false, eval a X.env)] := by rfl) (hs : ∀ x, foldedSetIterable (.Call (.Name "range" p) [a] [] rp) X.env x = pure x := by intro _; rfl) :
    PS X (.Assign [.Name y py] (.ListComp elt [⟨.Name x xp, .Call (.Name "range" p) [a] [] rp, ifs, 0⟩] scope pos) spos) (wS Γ W (sAsg j (dI (dLcR1 i f t el)))) := by
  refine ps_imp (ps_setLc (i := j) hc hN hy hyl hsw (pi_range1 hgr hm (pa_cons hi pa_nil hs1) (hs := hs1)) ok hg ht he hs) fun D σ H h => ?_
  show tLc (iRng1 (tCons (wE Γ W f) tNil)) (gName i) (wT Γ W0 t) (wE Γ W0 el) [i] σ H fun x H1 => gName j x σ H1 D.nx
  refine wF.rng ?_
  have q := wE.stm h (Q1 := fun x H1 => gName j x σ H1 D.nx) fun G cs ρ μ v H1 a rl r po => po.nowN (rl.set j r)
  exact wI_of q

/-! ### calls of defs, and defs -/
/-- the promise of a def whose function is F, of n parameters -/
def spOf (Γ : Gm) (n : Nat) (F : List Sv → Mu → R Sv) : Sp := fun vs H Q E => vs.length = n ∧ ∃ G cs svs μ, RelM Γ G cs μ H ∧ RepA Γ.K G cs vs svs ∧ Post Γ (RepS Γ.K) (fun c d H' => E (Γ.xv c) d H') G cs H (F svs μ) Q
theorem RepA.length {K : PySem.W.Frag} {G : Hp} {cs : List Addr} : ∀ {vs : List V} {ss : List Sv}, RepA K G cs vs ss → vs.length = ss.length
  | _, _, .nil => rfl
  | _, _, .cons _ t => by simp [RepA.length t]
theorem d_call {n k : Nat} {fa : Addr} {fd : FuncData} {ps : List Str} {F : List Sv → Mu → R Sv} {x : Str} {e : Expr} {es : List Expr} {p pos : Pos} {g : EvA} (FO : FnOk X.prog X.w X.K X.mg X.base (L2.CX X.prog X.w) k fa fd ps (spOf Γ n F)) (hr : Room k X.A) (hm : X.mg x = some (.ref fa)) (hk : PySem.W.keepIn X.K (.ref fa) = true)
    (hb : Binds X.K fd ps []) (tk : Takes X W) (ha : PA X (e :: es) (wA Γ W g)) (hl : ∀ ρ μ a μ', g ρ μ = .ok a μ' → a.length = n) (hg : Gl X x := by rfl) (hdb : (x == ("__debug__" : Str)) = false := by decide)
    (he : starEach (e :: es) X.env = (false, eval e X.env) :: starEach es X.env := by rfl) (hpl : (backTo pos (starEach es X.env)).any (·.1) = false := by rfl) : PE X (.Call (.Name x p) (e :: es) [] pos) (wE Γ W (dCall F g)) := by
  refine pe_imp (pe_callS FO hr hg hm hk hb (fun σ => passAt tk σ) ha hdb he hpl) fun σ H Q h => ?_
  show wA Γ W g σ H _
  obtain ⟨G, cs, ρ, μ, rl, po⟩ := h
  refine ⟨G, cs, ρ, μ, rl, ?_⟩
  unfold dCall at po
  cases eg : g ρ μ with
  | ok a μ1 =>
    rw [eg] at po
    intro G1 cs1 H1 v g1 m1 q1
    exact ⟨by rw [q1.length]; exact hl _ _ _ _ eg, G1, cs1, a, μ1, m1, q1, Post.mono (show Post Γ (RepS Γ.K) (wX Γ W σ) G cs H (F a μ1) Q from po) g1⟩
  | ex c μ1 => rw [eg] at po; exact po
  | no => rw [eg] at po; exact po
theorem acons_len {f : Ev} {g : EvA} {n : Nat} (h : ∀ ρ μ a μ', g ρ μ = .ok a μ' → a.length = n) : ∀ ρ μ a μ', dACons f g ρ μ = .ok a μ' → a.length = n + 1 := by
  intro ρ μ a μ' e
  unfold dACons at e
  cases e1 : f ρ μ with
  | ok v μ1 =>
    rw [e1] at e
    simp only [R.bind] at e
    cases e2 : g ρ μ1 with
    | ok vs μ2 => rw [e2] at e; cases e; simp [h _ _ _ _ e2]
    | ex c μ2 => rw [e2] at e; cases e
    | no => rw [e2] at e; cases e
  | ex c μ1 => rw [e1] at e; cases e
  | no => rw [e1] at e; cases e
theorem anil_len : ∀ ρ μ a μ', dANil ρ μ = .ok a μ' → a.length = 0 := by
  intro ρ μ a μ' e; cases e; rfl
theorem start_rel {G H : Hp} {cs : List Addr} {μ : Mu} {vs : List V} {svs : List Sv} {N : List Str} (m : RelM Γ G cs μ H) (r : RepA Γ.K G cs vs svs) (hl : vs.length ≤ N.length) : Rel Γ G cs (svs.map some ++ List.replicate (N.length - svs.length) none) μ (L2.start N vs) H := by
  have el := r.length
  refine ⟨m, fun i sv e => ?_, ?_⟩
  · unfold L2.start
    by_cases hi : i < svs.length
    · rw [List.getElem?_append_left (by simpa using hi), List.getElem?_map] at e
      have key : ∀ {vs : List V} {svs : List Sv} {i : Nat} {s : Sv}, RepA Γ.K G cs vs svs → svs[i]? = some s → ∃ v, vs[i]? = some v ∧ RepS Γ.K G cs v s := by
        intro vs svs i s r
        induction r generalizing i with
        | nil => intro e; simp at e
        | cons h t ih =>
          cases i with
          | zero => intro e; simp at e; subst e; exact ⟨_, rfl, h⟩
          | succ i => intro e; simpa using ih (by simpa using e)
      cases q : svs[i]? with
      | none => rw [q] at e; cases e
      | some s =>
        rw [q] at e
        cases e
        obtain ⟨v, h1, h2⟩ := key r q
        exact ⟨v, by rw [List.getElem?_append_left (by simpa [el] using hi), List.getElem?_map, h1]; rfl, h2⟩
    · rw [List.getElem?_append_right (by simpa using hi), List.getElem?_replicate] at e
      split at e <;> cases e
  · unfold L2.start
    simp only [List.length_append, List.length_map, List.length_replicate]
    omega
theorem low_take {G H : Hp} {cs : List Addr} {μ : Mu} (m : RelM Γ G cs μ H) (n : Nat) (lo : (μ.take n).all (Cell.low n) = true) : RelM Γ G (cs.take n) (μ.take n) H := by
  refine ⟨m.sub, by simp [m.len], m.nd.sublist (List.take_sublist _ _), fun k a c e1 e2 => ?_⟩
  have hk : k < n := by
    have := (List.getElem?_eq_some_iff.mp e1).1
    simp at this; omega
  rw [List.getElem?_take_of_lt hk] at e1
  have e2' := e2
  rw [List.getElem?_take_of_lt hk] at e2
  have r := m.cell k a c e1 e2
  cases c with
  | lst xs => exact r
  | dk xs => exact r
  | dt xs => exact r
  | fz d => exact r
  | ob fs =>
    obtain ⟨g, dx, vs, q, r⟩ := r
    refine ⟨g, dx, vs, q, ?_⟩
    rw [List.all_eq_true] at lo
    have lw : fs.all (fun p => p.2.low n) = true := lo _ (List.mem_of_getElem? e2')
    rw [List.all_eq_true] at lw
    clear q e2 e2'
    induction r with
    | nil => exact .nil
    | cons h t ih =>
      refine .cons ?_ (ih fun x hx => lw x (List.mem_cons_of_mem _ hx))
      have l1 := lw _ List.mem_cons_self
      rename_i d ds
      cases d with
      | im d => exact h
      | rf j =>
        obtain ⟨a', h1, h2⟩ := h
        have hj : j < n := by simpa [Sv.low] using l1
        exact ⟨a', by rw [List.getElem?_take_of_lt hj]; exact h1, h2⟩
theorem Grow.take {G H G' H' : Hp} {cs cs' : List Addr} (g : Grow G cs H G' cs' H') {n : Nat} (hn : n = cs.length) : Grow G cs H G' (cs'.take n) H' := by
  subst hn
  refine ⟨g.ex, ?_, g.fr, fun a h1 h2 h3 => g.n1 a h1 h2 (List.mem_of_mem_take h3), g.n2⟩
  obtain ⟨t, rfl⟩ := g.pre
  rw [List.take_left]
  exact List.prefix_refl _
/-- a def's body keeps its promise: data is handed back -/
theorem fn_read {N : List Str} {b : EvS} {n : Nat} {vs : List V} {H : Hp} {Q : VK} {E : XK} (hn : n ≤ N.length) (h : spOf Γ n (dFn N.length b) vs H Q E) :
    wS Γ (fun cls d _ H' => E cls d H') b { nx := fun _ H' => Q .non H', rt := Q } (L2.start N vs) H := by
  obtain ⟨hl, G, cs, svs, μ, m, r, po⟩ := h
  refine ⟨G, cs, _, μ, start_rel m r (by rw [hl]; exact hn), ?_⟩
  unfold dFn at po
  cases e : b (svs.map some ++ List.replicate (N.length - svs.length) none) μ with
  | rt v μ1 =>
    rw [e] at po
    intro G1 cs1 H1 u g1 m1 q1
    dsimp only at po
    split at po
    · rename_i d μ2 ef
      split at po
      · rename_i hlo
        simp only [Bool.and_eq_true] at hlo
        obtain ⟨G2, g2, m2, r2⟩ := frz_ok m1 q1 ef
        exact po.at ((g1.trans g2).take m.len.symm) (low_take m2 _ hlo.1) r2
      · exact po.elim
    · exact po.elim
  | nx ρ1 μ1 =>
    rw [e] at po
    intro G1 cs1 H1 σ1 g1 r1
    dsimp only at po
    split at po
    · rename_i hlo
      simp only [Bool.and_eq_true] at hlo
      exact po.at (g1.take m.len.symm) (low_take r1.m _ hlo.1) .non
    · exact po.elim
  | ex c ρ1 μ1 =>
    rw [e] at po
    intro G1 cs1 H1 σ1 d g1 r1
    dsimp only at po
    split at po
    · rename_i hlo
      simp only [Bool.and_eq_true] at hlo
      exact po _ _ _ d (g1.take m.len.symm) (low_take r1.m _ hlo.1)
    · exact po.elim
  | bk ρ1 μ1 => rw [e] at po; exact po.elim
  | ct ρ1 μ1 => rw [e] at po; exact po.elim
  | no => rw [e] at po; exact po.elim
/-- .. whatever is handed back, cells too -/
theorem fn_readR {N : List Str} {b : EvS} {n : Nat} {vs : List V} {H : Hp} {Q : VK} {E : XK} (hn : n ≤ N.length) (h : spOf Γ n (dFnR N.length b) vs H Q E) :
    wS Γ (fun cls d _ H' => E cls d H') b { nx := fun _ H' => Q .non H', rt := Q } (L2.start N vs) H := by
  obtain ⟨hl, G, cs, svs, μ, m, r, po⟩ := h
  refine ⟨G, cs, _, μ, start_rel m r (by rw [hl]; exact hn), ?_⟩
  unfold dFnR at po
  cases e : b (svs.map some ++ List.replicate (N.length - svs.length) none) μ with
  | rt v μ1 =>
    rw [e] at po
    exact fun G1 cs1 H1 u g1 m1 q1 => po.at g1 m1 q1
  | nx ρ1 μ1 =>
    rw [e] at po
    exact fun G1 cs1 H1 σ1 g1 r1 => po.at g1 r1.m .non
  | ex c ρ1 μ1 =>
    rw [e] at po
    exact fun G1 cs1 H1 σ1 d g1 r1 => po _ _ _ d g1 r1.m
  | bk ρ1 μ1 => rw [e] at po; exact po.elim
  | ct ρ1 μ1 => rw [e] at po; exact po.elim
  | no => rw [e] at po; exact po.elim
end
end SP

/-! SPg: built-ins. -/
namespace SP
open PySem L2

section
variable {Γ : Gm} {X : Cx} {W : WX}
theorem d_b1 {id : String} {r : List V → Hp → VK → Prop} {x : Str} {p : Pos} {e : Expr} {pos : Pos} {f : Ev} {q : Sv → Mu → R Sv} (hc : CallR X (.builtin id) r) (hr : Pr1 Γ q fun x H Q => r [x] H Q) (hm : X.mg x = none) (hv : bootBuiltins x = some (.builtin id)) (ha : PE X e (wE Γ W f)) (hg : Gl X x := by rfl) (hn : x ≠ "__name__" := by decide) (hdb : (x == ("__debug__" : Str)) = false := by decide)
    (he : starEach (e :: []) X.env = (false, eval e X.env) :: starEach [] X.env := by rfl) (hpl : (backTo pos (starEach [] X.env)).any (·.1) = false := by rfl) : PE X (.Call (.Name x p) [e] [] pos) (wE Γ W (dOp1 q f)) := by
  refine pe_imp (pe_callB hc hg hm hv (pa_cons ha pa_nil he) hn hdb he hpl) fun σ H Q h => ?_
  exact wE.of (te := wE Γ W f) (fun _ _ => rfl) h fun G cs μ v H1 a m ra p => hr _ G cs μ H1 v a Q m ra p
theorem d_t1 {T : String} {r : List V → Hp → VK → Prop} {x : Str} {p : Pos} {e : Expr} {pos : Pos} {f : Ev} {q : Sv → Mu → R Sv} (hc : CallR X (.type T) r) (hr : Pr1 Γ q fun x H Q => r [x] H Q) (hm : X.mg x = none) (hv : bootBuiltins x = some (.type T)) (ha : PE X e (wE Γ W f)) (hg : Gl X x := by rfl) (hn : x ≠ "__name__" := by decide) (hdb : (x == ("__debug__" : Str)) = false := by decide)
    (he : starEach (e :: []) X.env = (false, eval e X.env) :: starEach [] X.env := by rfl) (hpl : (backTo pos (starEach [] X.env)).any (·.1) = false := by rfl) : PE X (.Call (.Name x p) [e] [] pos) (wE Γ W (dOp1 q f)) := by
  refine pe_imp (pe_callTy hc hg hm hv (pa_cons ha pa_nil he) hn hdb he hpl) fun σ H Q h => ?_
  exact wE.of (te := wE Γ W f) (fun _ _ => rfl) h fun G cs μ v H1 a m ra p => hr _ G cs μ H1 v a Q m ra p
theorem d_t1F {T : String} {r : List V → Hp → VK → Prop} {x : Str} {p : Pos} {e : Expr} {pos : Pos} {f : Ev} {q : Sv → Mu → R Cell} (hc : CallR X (.type T) r) (hr : PrF Γ q fun x H Q => r [x] H Q) (hm : X.mg x = none) (hv : bootBuiltins x = some (.type T)) (ha : PE X e (wE Γ W f)) (hg : Gl X x := by rfl) (hn : x ≠ "__name__" := by decide) (hdb : (x == ("__debug__" : Str)) = false := by decide)
    (he : starEach (e :: []) X.env = (false, eval e X.env) :: starEach [] X.env := by rfl) (hpl : (backTo pos (starEach [] X.env)).any (·.1) = false := by rfl) : PE X (.Call (.Name x p) [e] [] pos) (wF Γ W (dOpF q f)) := by
  refine pe_imp (pe_callTy hc hg hm hv (pa_cons ha pa_nil he) hn hdb he hpl) fun σ H Q h => ?_
  exact wF.of (fun _ _ => rfl) h fun G cs μ v H1 a m ra p => hr _ G cs μ H1 v a Q m ra p
theorem d_b2 {id : String} {r : List V → Hp → VK → Prop} {x : Str} {p : Pos} {e e2 : Expr} {pos : Pos} {f f2 : Ev} {q : Sv → Sv → Mu → R Sv} (hc : CallR X (.builtin id) r) (hr : Pr2 Γ q fun x y H Q => r [x, y] H Q) (hm : X.mg x = none) (hv : bootBuiltins x = some (.builtin id)) (ha : PE X e (wE Γ W f)) (hb : PE X e2 (wE Γ W f2)) (hg : Gl X x := by rfl) (hn : x ≠ "__name__" := by decide) (hdb : (x == ("__debug__" : Str)) = false := by decide)
    (he : starEach (e :: [e2]) X.env = (false, eval e X.env) :: starEach [e2] X.env := by rfl) (he2 : starEach (e2 :: []) X.env = (false, eval e2 X.env) :: starEach [] X.env := by rfl) (hpl : (backTo pos (starEach [e2] X.env)).any (·.1) = false := by rfl) : PE X (.Call (.Name x p) [e, e2] [] pos) (wE Γ W (dOp2 q f f2)) := by
  refine pe_imp (pe_callB hc hg hm hv (pa_cons ha (pa_cons hb pa_nil he2) he) hn hdb he hpl) fun σ H Q h => ?_
  exact wE.two (r := fun x y H Q => r [x, y] H Q) hr h

/-! ### len -/
theorem pr_len (hK : X.K = Γ.K) : Pr1 Γ (p1 gLen) fun x H Q => (∃ y n, [x] = [y] ∧ LenV X.K y H n ∧ Q (.int n) H) ∨ ((∃ a kvs, [x] = [V.ref a] ∧ H a = some (.dK kvs) ∧ Q (.int kvs.length) H) ∨ rLenT [x] H Q) := pr1_pure fun G H x d q Q s rx hq k => by
  unfold gLen at hq
  split at hq
  · cases hq; cases rx with
    | lst h n r => exact .inl ⟨_, _, rfl, .inl ⟨_, .of h, r.length.symm⟩, k _ (.int _)⟩
  · cases hq; cases rx with
    | tup h n r => exact .inl ⟨_, _, rfl, .inr ⟨_, .of h, r.length.symm⟩, k _ (.int _)⟩
  · cases hq; cases rx with
    | scr h n => exact .inl ⟨_, _, rfl, .inl ⟨_, by rw [hK]; exact h, by simp⟩, k _ (.int _)⟩
  · cases hq; cases rx with
    | str _ g => exact .inl ⟨_, _, rfl, ⟨Nat.le_trans g.1 maxN_le, rfl⟩, k _ (.int _)⟩
  · cases hq; cases rx with
    | dk h n r => exact .inr (.inl ⟨_, _, rfl, h, by rw [r.length]; exact k _ (.int _)⟩)
  · cases hq; cases rx with
    | dt h n r => exact .inr (.inr ⟨_, _, rfl, h, by rw [r.length]; exact k _ (.int _)⟩)
  · cases hq
theorem d_len {p : Pos} {e : Expr} {pos : Pos} {f : Ev} (hm : X.mg "len" = none) (ha : PE X e (wE Γ W f)) (hg : Gl X "len" := by rfl) (he : starEach (e :: []) X.env = (false, eval e X.env) :: starEach [] X.env := by rfl) (hpl : (backTo pos (starEach [] X.env)).any (·.1) = false := by rfl) (hK : X.K = Γ.K := by rfl) :
    PE X (.Call (.Name "len" p) [e] [] pos) (wE Γ W (dOp1 (p1 gLen) f)) := d_b1 (cr_or call_len (cr_or call_lenD call_len_dT)) (pr_len hK) hm PySem.boot_len ha hg (he := he) (hpl := hpl)

/-! ### list(..) -/
theorem repk_keys {K : PySem.W.Frag} {G H : Hp} : ∀ {vs : List (Key × V)} {ds : List (Key × SP.D)}, RepK K G vs ds → Reps K H (vs.map fun kv => kV kv.1) (ds.map fun kv => match kv.1 with | .inl i => .int i | .inr s => .str s)
  | _, _, .nil => .nil
  | _, _, .cons (k := .inl i) _ h r => .cons (.int i) (repk_keys r)
  | _, _, .cons (k := .inr s) g h r => .cons (.str s g) (repk_keys r)
theorem pr_list (hK : X.K = Γ.K) : PrF Γ fList fun x H Q => (∃ p ys, [x] = [V.ref p] ∧ (SqL X.K H p ys ∨ SqT X.K H p ys) ∧ ∀ l, H l = none → Q (.ref l) (upd H l (.lst ys))) ∨ (∃ (a : Addr) (kvs : List (Key × V)), [x] = [V.ref a] ∧ Rd H a (.dK kvs) ∧ ∀ p, H p = none → Q (.ref p) (upd H p (.lst (kvs.map fun kv => kV kv.1)))) := by
  intro E G cs μ H x sa Q m ra p
  unfold fList at p
  cases e : look μ sa with
  | none => rw [e] at p; exact p.elim
  | some d =>
    rw [e] at p
    have r := look_L m ra e
    cases r with
    | lst h n r => exact .inl ⟨_, _, rfl, .inl (.of h), fun l hl => p.lay m hl _ fun gp _ => ⟨gp, n, _, upd_same, r⟩⟩
    | tup h n r => exact .inl ⟨_, _, rfl, .inr (.of h), fun l hl => p.lay m hl _ fun gp _ => ⟨gp, n, _, upd_same, r⟩⟩
    | dk h n r => exact .inr ⟨_, _, rfl, .inl h, fun l hl => p.lay m hl _ fun gp _ => ⟨gp, by simpa using n, _, upd_same, repk_keys r⟩⟩
    | non => exact p.elim
    | bl b => exact p.elim
    | int i => exact p.elim
    | str s h => exact p.elim
    | dt h n r => exact p.elim
    | scr h n => exact p.elim
theorem d_list {p : Pos} {e : Expr} {pos : Pos} {f : Ev} (hc : X.calm = true) (hm : X.mg "list" = none) (ha : PE X e (wE Γ W f)) (hg : Gl X "list" := by rfl) (he : starEach (e :: []) X.env = (false, eval e X.env) :: starEach [] X.env := by rfl) (hpl : (backTo pos (starEach [] X.env)).any (·.1) = false := by rfl) (hK : X.K = Γ.K := by rfl) :
    PE X (.Call (.Name "list" p) [e] [] pos) (wF Γ W (dOpF fList f)) := d_t1F (cr_or call_list_of (call_listD hc)) (pr_list hK) hm PyProof.Rows.boot_list ha hg (he := he) (hpl := hpl)

/-! ### greatest, least, sums -/
theorem pr2_g {g : SP.D → SP.D → Option SP.D} {r : V → V → Hp → VK → Prop} (F : Int → Int → Int) (hg : ∀ d e q, g d e = some q → ∃ i j, d = .int i ∧ e = .int j ∧ q = .int (F i j)) (hr : ∀ i j H Q, Q (.int (F i j)) H → r (.int i) (.int j) H Q) : Pr2 Γ (p2 g) r := pr2_pure fun G H x y d e q Q s rx ry hq k => by
  obtain ⟨i, j, rfl, rfl, rfl⟩ := hg d e q hq
  cases rx; cases ry
  exact hr _ _ _ _ (k _ (.int _))
theorem d_max2 {p : Pos} {e e2 : Expr} {pos : Pos} {f f2 : Ev} (hc : X.calm = true) (hm : X.mg "max" = none) (ha : PE X e (wE Γ W f)) (hb : PE X e2 (wE Γ W f2)) (hg : Gl X "max" := by rfl)
    (he : starEach (e :: [e2]) X.env = (false, eval e X.env) :: starEach [e2] X.env := by rfl) (he2 : starEach (e2 :: []) X.env = (false, eval e2 X.env) :: starEach [] X.env := by rfl) (hpl : (backTo pos (starEach [e2] X.env)).any (·.1) = false := by rfl) :
    PE X (.Call (.Name "max" p) [e, e2] [] pos) (wE Γ W (dOp2 (p2 gMax2) f f2)) :=
  d_b2 (call_max2 hc) (pr2_g (fun i j => if j > i then j else i) (fun d e q h => by unfold gMax2 at h; split at h <;> cases h; exact ⟨_, _, rfl, rfl, rfl⟩) fun i j H Q q => ⟨i, j, rfl, q⟩) hm PyProof.Rows.boot_max ha hb hg (he := he) (he2 := he2) (hpl := hpl)
theorem d_min2 {p : Pos} {e e2 : Expr} {pos : Pos} {f f2 : Ev} (hc : X.calm = true) (hm : X.mg "min" = none) (ha : PE X e (wE Γ W f)) (hb : PE X e2 (wE Γ W f2)) (hg : Gl X "min" := by rfl)
    (he : starEach (e :: [e2]) X.env = (false, eval e X.env) :: starEach [e2] X.env := by rfl) (he2 : starEach (e2 :: []) X.env = (false, eval e2 X.env) :: starEach [] X.env := by rfl) (hpl : (backTo pos (starEach [e2] X.env)).any (·.1) = false := by rfl) :
    PE X (.Call (.Name "min" p) [e, e2] [] pos) (wE Γ W (dOp2 (p2 gMin2) f f2)) :=
  d_b2 (call_min2 hc) (pr2_g (fun i j => if j < i then j else i) (fun d e q h => by unfold gMin2 at h; split at h <;> cases h; exact ⟨_, _, rfl, rfl, rfl⟩) fun i j H Q q => ⟨i, j, rfl, q⟩) hm PyProof.Rows.boot_min ha hb hg (he := he) (he2 := he2) (hpl := hpl)
theorem asInts_ok {K : PySem.W.Frag} {G : Hp} : ∀ {ds : List SP.D} {ns : List Int} {vs : List V}, asInts ds = some ns → Reps K G vs ds → vs = ns.map V.int
  | [], _, _, e, .nil => by simp only [asInts] at e; cases e; rfl
  | .int i :: r, ns, _, e, .cons h t => by
    simp only [asInts] at e
    cases q : asInts r with
    | none => rw [q] at e; cases e
    | some m =>
      rw [q] at e; cases e
      cases h
      rw [asInts_ok q t]; rfl
  | .non :: _, _, _, e, _ => by simp [asInts] at e
  | .bl _ :: _, _, _, e, _ => by simp [asInts] at e
  | .str _ :: _, _, _, e, _ => by simp [asInts] at e
  | .tup _ :: _, _, _, e, _ => by simp [asInts] at e
  | .lst _ :: _, _, _, e, _ => by simp [asInts] at e
  | .dk _ :: _, _, _, e, _ => by simp [asInts] at e
  | .dt _ :: _, _, _, e, _ => by simp [asInts] at e
  | .scr _ :: _, _, _, e, _ => by simp [asInts] at e
theorem leastI_ok : ∀ (l : List Int) (a : Int), (leastI a l ∈ a :: l) ∧ ∀ y ∈ a :: l, leastI a l ≤ y
  | [], a => ⟨List.mem_cons_self, fun y h => by simp at h; subst h; exact Int.le_refl _⟩
  | b :: r, a => by
    simp only [leastI]
    obtain ⟨h1, h2⟩ := leastI_ok r (if b < a then b else a)
    have hm := h2 _ List.mem_cons_self
    have k1 : (if b < a then b else a) ≤ a := by split <;> omega
    have k2 : (if b < a then b else a) ≤ b := by split <;> omega
    refine ⟨?_, fun y hy => ?_⟩
    · rcases List.mem_cons.mp h1 with e | h
      · rw [e]; split <;> simp
      · simp [h]
    · rcases List.mem_cons.mp hy with e | h
      · subst e; exact Int.le_trans hm k1
      · rcases List.mem_cons.mp h with e | h
        · subst e; exact Int.le_trans hm k2
        · exact h2 y (List.mem_cons_of_mem _ h)
theorem mostI_ok : ∀ (l : List Int) (a : Int), (mostI a l ∈ a :: l) ∧ ∀ y ∈ a :: l, y ≤ mostI a l
  | [], a => ⟨List.mem_cons_self, fun y h => by simp at h; subst h; exact Int.le_refl _⟩
  | b :: r, a => by
    simp only [mostI]
    obtain ⟨h1, h2⟩ := mostI_ok r (if b > a then b else a)
    have hm := h2 _ List.mem_cons_self
    have k1 : a ≤ (if b > a then b else a) := by split <;> omega
    have k2 : b ≤ (if b > a then b else a) := by split <;> omega
    refine ⟨?_, fun y hy => ?_⟩
    · rcases List.mem_cons.mp h1 with e | h
      · rw [e]; split <;> simp
      · simp [h]
    · rcases List.mem_cons.mp hy with e | h
      · subst e; exact Int.le_trans k1 hm
      · rcases List.mem_cons.mp h with e | h
        · subst e; exact Int.le_trans k2 hm
        · exact h2 y (List.mem_cons_of_mem _ h)
theorem pr_min1 (hK : X.K = Γ.K) : Pr1 Γ (p1 gMin1) fun x H Q => rMin X.K [x] H Q := pr1_pure fun G H x d q Q s rx hq k => by
  unfold gMin1 at hq
  split at hq
  · split at hq
    · rename_i a r hi
      cases hq
      cases rx with
      | lst h n rs =>
        have e := asInts_ok hi rs
        subst e
        refine ⟨_, a :: r, rfl, .of h, by simp, fun m hm hl => ?_⟩
        obtain ⟨h1, h2⟩ := leastI_ok r a
        have : m = leastI a r := Int.le_antisymm (hl _ h1) (h2 _ hm)
        rw [this]
        exact k _ (.int _)
    · cases hq
  · cases hq
theorem d_min1 {p : Pos} {e : Expr} {pos : Pos} {f : Ev} (hc : X.calm = true) (hm : X.mg "min" = none) (ha : PE X e (wE Γ W f)) (hg : Gl X "min" := by rfl) (he : starEach (e :: []) X.env = (false, eval e X.env) :: starEach [] X.env := by rfl) (hpl : (backTo pos (starEach [] X.env)).any (·.1) = false := by rfl) (hK : X.K = Γ.K := by rfl) :
    PE X (.Call (.Name "min" p) [e] [] pos) (wE Γ W (dOp1 (p1 gMin1) f)) := d_b1 (cr_min hc) (pr_min1 hK) hm PyProof.Rows.boot_min ha hg (he := he) (hpl := hpl)
theorem pr_max1 (hK : X.K = Γ.K) : Pr1 Γ (p1 gMax1) fun x H Q => rMax X.K [x] H Q := pr1_pure fun G H x d q Q s rx hq k => by
  unfold gMax1 at hq
  split at hq
  · split at hq
    · rename_i a r hi
      cases hq
      cases rx with
      | lst h n rs =>
        have e := asInts_ok hi rs
        subst e
        refine ⟨_, a :: r, rfl, .of h, by simp, fun m hm hl => ?_⟩
        obtain ⟨h1, h2⟩ := mostI_ok r a
        have : m = mostI a r := Int.le_antisymm (h2 _ hm) (hl _ h1)
        rw [this]
        exact k _ (.int _)
    · cases hq
  · cases hq
theorem d_max1 {p : Pos} {e : Expr} {pos : Pos} {f : Ev} (hc : X.calm = true) (hm : X.mg "max" = none) (ha : PE X e (wE Γ W f)) (hg : Gl X "max" := by rfl) (he : starEach (e :: []) X.env = (false, eval e X.env) :: starEach [] X.env := by rfl) (hpl : (backTo pos (starEach [] X.env)).any (·.1) = false := by rfl) (hK : X.K = Γ.K := by rfl) :
    PE X (.Call (.Name "max" p) [e] [] pos) (wE Γ W (dOp1 (p1 gMax1) f)) := d_b1 (cr_max hc) (pr_max1 hK) hm PyProof.Rows.boot_max ha hg (he := he) (hpl := hpl)
theorem pr_sum (hK : X.K = Γ.K) : Pr1 Γ (p1 gSum) fun x H Q => rSum X.K [x] H Q := pr1_pure fun G H x d q Q s rx hq k => by
  unfold gSum at hq
  split at hq
  · rename_i xs
    cases hi : asInts xs with
    | none => rw [hi] at hq; cases hq
    | some ns =>
      rw [hi] at hq; cases hq
      cases rx with
      | lst h n rs =>
        have e := asInts_ok hi rs
        subst e
        exact ⟨_, ns, rfl, .of h, k _ (.int _)⟩
  · cases hq
theorem d_sum {p : Pos} {e : Expr} {pos : Pos} {f : Ev} (hc : X.calm = true) (hm : X.mg "sum" = none) (ha : PE X e (wE Γ W f)) (hg : Gl X "sum" := by rfl) (he : starEach (e :: []) X.env = (false, eval e X.env) :: starEach [] X.env := by rfl) (hpl : (backTo pos (starEach [] X.env)).any (·.1) = false := by rfl) (hK : X.K = Γ.K := by rfl) :
    PE X (.Call (.Name "sum" p) [e] [] pos) (wE Γ W (dOp1 (p1 gSum) f)) := d_b1 (cr_sum hc) (pr_sum hK) hm (by decide +kernel) ha hg (he := he) (hpl := hpl)
theorem d_abs {p : Pos} {e : Expr} {pos : Pos} {f : Ev} (hm : X.mg "abs" = none) (ha : PE X e (wE Γ W f)) (hg : Gl X "abs" := by rfl) (he : starEach (e :: []) X.env = (false, eval e X.env) :: starEach [] X.env := by rfl) (hpl : (backTo pos (starEach [] X.env)).any (·.1) = false := by rfl) :
    PE X (.Call (.Name "abs" p) [e] [] pos) (wE Γ W (dOp1 (p1 gAbs) f)) := d_b1 call_abs (pr1_pure fun G H x d q Q s rx hq k => by
      unfold gAbs at hq; split at hq <;> cases hq
      cases rx; exact ⟨_, rfl, k _ (.int _)⟩) hm PyProof.Rows.boot_abs ha hg (he := he) (hpl := hpl)

/-! ### isinstance of built-in classes -/
theorem tyx_of {K : PySem.W.Frag} {G H : Hp} {x : V} {d : SP.D} (r : RepL K G H x d) (h : ∀ ns, d ≠ .scr ns) : TyX K H x (.type d.tyN) := by
  cases r with
  | non => exact .base .non
  | bl b => exact .base (.bl b)
  | int i => exact .base (.int i)
  | str s _ => exact .base (.str s)
  | tup q _ _ => exact .base (.tup q)
  | lst q _ _ => exact .base (.lst q)
  | dk q _ _ => exact .base (.dK q)
  | dt q _ _ => exact .base (.dT q)
  | scr _ _ => exact absurd rfl (h _)
def Known (T : String) : Prop := ∀ d : SP.D, (∀ ns, d ≠ .scr ns) → kitB d.tyN T = some (isTy T d)
theorem known_of {T : String} (h : (["NoneType", "bool", "int", "str", "tuple", "list", "dict"].all fun a => kitB a T == some (a == T || (a == "bool" && T == "int"))) = true) : Known T := by
  intro d hd
  rw [List.all_eq_true] at h
  have key : d.tyN ∈ ["NoneType", "bool", "int", "str", "tuple", "list", "dict"] := by
    cases d <;> first | (exact absurd rfl (hd _)) | (simp [D.tyN])
  have := h _ key
  unfold isTy
  simpa using this
theorem d_isi {T : String} {p : Pos} {e e2 : Expr} {pos : Pos} {f : Ev} (kn : Known T) (hm : X.mg "isinstance" = none) (ha : PE X e (wE Γ W f)) (hb : PE X e2 (tC (.ty T))) (hg : Gl X "isinstance" := by rfl)
    (he : starEach (e :: [e2]) X.env = (false, eval e X.env) :: starEach [e2] X.env := by rfl) (he2 : starEach (e2 :: []) X.env = (false, eval e2 X.env) :: starEach [] X.env := by rfl) (hpl : (backTo pos (starEach [e2] X.env)).any (·.1) = false := by rfl) (hK : X.K = Γ.K := by rfl) :
    PE X (.Call (.Name "isinstance" p) [e, e2] [] pos) (wE Γ W (dOp1 (p1 (gIsi T)) f)) := by
  refine pe_imp (pe_callB call_isi hg hm PyProof.Rows.boot_isinstance (pa_cons ha (pa_cons hb pa_nil he2) he) (he := he) (hpl := hpl)) fun σ H Q h => ?_
  refine wE.of (te := wE Γ W f) (fun _ _ => rfl) h fun G cs μ v H1 a m ra p => ?_
  unfold p1 at p
  split at p
  · rename_i d hd
    split at p
    · rename_i q hq
      have rl := look_L m ra hd
      have hs : ∀ ns, d ≠ .scr ns := fun ns z => by subst z; simp [gIsi] at hq
      have e : q = .bl (isTy T d) := by
        cases d <;> first | (exact absurd rfl (hs _)) | (simp only [gIsi] at hq; exact (Option.some.inj hq).symm)
      subst e
      refine ⟨v, .ty T, .type d.tyN, .type T, isTy T d, rfl, .ty T, by rw [hK]; exact tyx_of rl hs, kit_ty (kn d hs), p.now m (.bl _)⟩
    · exact p.elim
  · exact p.elim
theorem d_tyName {x : Str} {T : String} {p : Pos} (hm : X.mg x = none) (hv : bootBuiltins x = some (.type T)) (hg : Gl X x := by rfl) (hn : x ≠ "__name__" := by decide) (hd : (x == ("__debug__" : Str)) = false := by decide) : PE X (.Name x p) (tC (.ty T)) := pe_bltn hg hm hv rfl hn hd
theorem kn_tuple : Known "tuple" := known_of (by decide +kernel)
theorem kn_list : Known "list" := known_of (by decide +kernel)
theorem kn_int : Known "int" := known_of (by decide +kernel)
theorem kn_bool : Known "bool" := known_of (by decide +kernel)
theorem kn_str : Known "str" := known_of (by decide +kernel)

/-! ### and, or of truth values; chains -/
theorem d_andV {a b : Expr} {rest : List Expr} {pos : Pos} {f g : Ev} (ha : PE X a (wE Γ W f)) (hb : PE X (.BoolOp .And (b :: rest) pos) (wE Γ W g)) : PE X (.BoolOp .And (a :: b :: rest) pos) (wE Γ W (dAnd f g)) := by
  refine pe_imp (pe_and ha hb) fun σ H Q h => ?_
  obtain ⟨G, cs, ρ, μ, rl, po⟩ := h
  refine ⟨G, cs, ρ, μ, rl, (Post.bind (rep := RepS Γ.K) po).imp fun x H1 ⟨G1, cs1, a, μ1, g1, m1, q1, p1⟩ => ?_⟩
  split at p1
  · have q1 : Rep Γ.K G1 x (.bl true) := q1
    cases q1
    exact ⟨true, rfl, G1, cs1, ρ, μ1, rl.grow g1 m1, p1⟩
  · have q1 : Rep Γ.K G1 x (.bl false) := q1
    cases q1
    exact ⟨false, rfl, p1.now m1 (.bl _)⟩
  · exact p1.elim
theorem d_orV {a b : Expr} {rest : List Expr} {pos : Pos} {f g : Ev} (ha : PE X a (wE Γ W f)) (hb : PE X (.BoolOp .Or (b :: rest) pos) (wE Γ W g)) : PE X (.BoolOp .Or (a :: b :: rest) pos) (wE Γ W (dOr f g)) := by
  refine pe_imp (pe_or ha hb) fun σ H Q h => ?_
  obtain ⟨G, cs, ρ, μ, rl, po⟩ := h
  refine ⟨G, cs, ρ, μ, rl, (Post.bind (rep := RepS Γ.K) po).imp fun x H1 ⟨G1, cs1, a, μ1, g1, m1, q1, p1⟩ => ?_⟩
  split at p1
  · have q1 : Rep Γ.K G1 x (.bl false) := q1
    cases q1
    exact ⟨false, rfl, G1, cs1, ρ, μ1, rl.grow g1 m1, p1⟩
  · have q1 : Rep Γ.K G1 x (.bl true) := q1
    cases q1
    exact ⟨true, rfl, p1.now m1 (.bl _)⟩
  · exact p1.elim
theorem d_oneV {op : BoolOp} {a : Expr} {pos : Pos} {f : Ev} (ha : PE X a (wE Γ W f)) : PE X (.BoolOp op [a] pos) (wE Γ W f) := pe_one ha
theorem d_notV {a : Expr} {pos : Pos} {f : EvT} (ha : PT X a (wT Γ W f)) (h : PE X (.UnaryOp .Not a pos) (fun σ H Q => wT Γ W f σ H fun b H1 => Q (.bl (!b)) H1)) : PE X (.UnaryOp .Not a pos) (wE Γ W fun ρ μ => (f ρ μ).bind fun b μ1 => .ok (.im (.bl (!b))) μ1) := by
  refine pe_imp h fun σ H Q h => ?_
  obtain ⟨G, cs, ρ, μ, rl, po⟩ := h
  refine ⟨G, cs, ρ, μ, rl, (Post.bind (rep := fun _ _ b c => b = c) po).imp fun x H1 ⟨G1, cs1, a, μ1, g1, m1, q1, p1⟩ => ?_⟩
  subst q1
  exact p1.now m1 (.bl _)
theorem wE.chain {r r' : R2} {p p' : Sv → Sv → Mu → R Sv} {fa fb fc : Ev} (hr : Pr2 Γ p r) (hr' : Pr2 Γ p' r') {σ : L2.St} {H : Hp} {Q : VK} (h : wE Γ W (dChain p p' fa fb fc) σ H Q) : tChain r r' (wE Γ W fa) (wE Γ W fb) (wE Γ W fc) σ H Q := by
  obtain ⟨G, cs, ρ, μ, rl, po⟩ := h
  refine ⟨G, cs, ρ, μ, rl, (Post.bind (rep := RepS Γ.K) po).imp fun x H1 ⟨G1, cs1, a, μ1, g1, m1, q1, p1⟩ => ?_⟩
  refine ⟨G1, cs1, ρ, μ1, rl.grow g1 m1, (Post.bind (rep := RepS Γ.K) p1).imp fun y H2 ⟨G2, cs2, b, μ2, g2, m2, q2, p2⟩ => ?_⟩
  refine hr _ G2 cs2 μ2 H2 x y a b _ m2 (q1.mono g2.ex g2.pre) q2 ((Post.bind (rep := RepS Γ.K) p2).imp fun z H3 ⟨G3, cs3, k, μ3, g3, m3, q3, p3⟩ => ?_)
  split at p3
  · have q3 : Rep Γ.K G3 z (.bl true) := q3
    cases q3
    refine ⟨true, rfl, ?_⟩
    rw [if_pos rfl]
    have rl3 := (rl.grow g1 m1).grow (g2.trans g3) m3
    refine ⟨G3, cs3, ρ, μ3, rl3, (Post.bind (rep := RepS Γ.K) p3).imp fun w H4 ⟨G4, cs4, c, μ4, g4, m4, q4, p4⟩ => ?_⟩
    exact hr' _ G4 cs4 μ4 H4 y w b c Q m4 ((q2.mono g3.ex g3.pre).mono g4.ex g4.pre) q4 p4
  · have q3 : Rep Γ.K G3 z (.bl false) := q3
    cases q3
    refine ⟨false, rfl, ?_⟩
    rw [if_neg Bool.false_ne_true]
    exact p3.now m3 (.bl _)
  · exact p3.elim
theorem d_chain {op op' : CmpOp} {r r' : R2} {a b c : Expr} {pos : Pos} {fa fb fc : Ev} {p p' : Sv → Sv → Mu → R Sv} (ho : OpR X (compareOp op) r) (ho' : OpR X (compareOp op') r') (hr : Pr2 Γ p r) (hr' : Pr2 Γ p' r') (ha : PE X a (wE Γ W fa)) (hb : PE X b (wE Γ W fb)) (hc : PE X c (wE Γ W fc))
    (hm : lastMarks [op, op'] [b, c] = false := by with_unfolding_all rfl) : PE X (.Compare a [op, op'] [b, c] pos) (wE Γ W (dChain p p' fa fb fc)) := pe_imp (pe_chain ho ho' ha hb hc hm) fun σ H Q h => wE.chain hr hr' h
theorem d_tchain {op op' : CmpOp} {r r' : R2} {a b c : Expr} {pos : Pos} {fa fb fc : Ev} {p p' : Sv → Sv → Mu → R Sv} (ho : OpR X (compareOp op) r) (ho' : OpR X (compareOp op') r') (hr : Pr2 Γ p r) (hr' : Pr2 Γ p' r') (ha : PE X a (wE Γ W fa)) (hb : PE X b (wE Γ W fb)) (hc : PE X c (wE Γ W fc))
    (hm : lastMarks [op, op'] [b, c] = false := by with_unfolding_all rfl) : PT X (.Compare a [op, op'] [b, c] pos) (wT Γ W (dTest (dChain p p' fa fb fc))) := by
  refine pt_imp (pt_chain ho ho' ha hb hc hm) fun σ H Q h => ?_
  have q := wT.of h
  exact wE.chain hr hr' q
/-! ### < of whole numbers and of tuples of them -/
def rLess (K : PySem.W.Frag) : R2 := fun x y H Q => rI0 (fun i j => .bl (decide (i < j))) x y H Q ∨ rLtT K x y H Q
theorem op_less (hu : X.A.units < cLine) : OpR X (compareOp .Lt) (rLess X.K) := op_or op_lt (op_ltT hu)
theorem pr_less (hK : X.K = Γ.K) : Pr2 Γ (p2 gLtT) (rLess X.K) := pr2_pure fun G H x y d e q Q s rx ry hq k => by
  unfold gLtT at hq
  split at hq
  · cases hq; cases rx; cases ry; exact .inl ⟨_, _, rfl, rfl, k _ (.bl _)⟩
  · split at hq
    · rename_i a b ha hb
      cases hq
      cases rx with
      | tup h n rs => cases ry with
        | tup h' n' rs' =>
          have e1 := asInts_ok ha rs
          have e2 := asInts_ok hb rs'
          subst e1; subst e2
          exact .inr ⟨_, _, a, b, rfl, rfl, .of h, .of h', k _ (.bl _)⟩
    · cases hq
  · cases hq
section
variable {a b : Expr} {pos : Pos} {fa fb : Ev}
theorem d_le (ha : PE X a (wE Γ W fa)) (hb : PE X b (wE Γ W fb)) : PE X (.Compare a [.LtE] [b] pos) (wE Γ W (dOp2 (p2 gLe) fa fb)) := d_cmpr op_le (pr_cmp _) ha hb (nomark _)
theorem d_gt (ha : PE X a (wE Γ W fa)) (hb : PE X b (wE Γ W fb)) : PE X (.Compare a [.Gt] [b] pos) (wE Γ W (dOp2 (p2 gGt) fa fb)) := d_cmpr op_gt (pr_cmp _) ha hb (nomark _)
theorem d_ge (ha : PE X a (wE Γ W fa)) (hb : PE X b (wE Γ W fb)) : PE X (.Compare a [.GtE] [b] pos) (wE Γ W (dOp2 (p2 gGe) fa fb)) := d_cmpr op_ge (pr_cmp _) ha hb (nomark _)
theorem d_lt (hu : X.A.units < cLine) (ha : PE X a (wE Γ W fa)) (hb : PE X b (wE Γ W fb)) (hK : X.K = Γ.K := by rfl) : PE X (.Compare a [.Lt] [b] pos) (wE Γ W (dOp2 (p2 gLtT) fa fb)) := d_cmpr (op_less hu) (pr_less hK) ha hb (nomark _)
theorem d_eq (hu : X.A.units + 64 < cLine) (ha : PE X a (wE Γ W fa)) (hb : PE X b (wE Γ W fb)) (hK : X.K = Γ.K := by rfl) : PE X (.Compare a [.Eq] [b] pos) (wE Γ W (dOp2 (p2 gEq) fa fb)) := d_cmpr (op_eqD hu) (pr_eq hK) ha hb (nomark _)
theorem d_ne (hu : X.A.units + 64 < cLine) (ha : PE X a (wE Γ W fa)) (hb : PE X b (wE Γ W fb)) (hK : X.K = Γ.K := by rfl) : PE X (.Compare a [.NotEq] [b] pos) (wE Γ W (dOp2 (p2 gNe) fa fb)) := d_cmpr (op_neD hu) (pr_ne hK) ha hb (nomark _)
theorem d_is (ha : PE X a (wE Γ W fa)) (hb : PE X b (wE Γ W fb)) : PE X (.Compare a [.Is] [b] pos) (wE Γ W (dOp2 (p2 gIsN) fa fb)) := d_cmpr op_isN pr_isN ha hb (nomark _)
theorem d_isn (ha : PE X a (wE Γ W fa)) (hb : PE X b (wE Γ W fb)) : PE X (.Compare a [.IsNot] [b] pos) (wE Γ W (dOp2 (p2 gNotN) fa fb)) := d_cmpr op_notN pr_notN ha hb (nomark _)
end
section
variable {a b : Expr} {pos : Pos} {fa fb : Ev}
theorem t_le (ha : PE X a (wE Γ W fa)) (hb : PE X b (wE Γ W fb)) : PT X (.Compare a [.LtE] [b] pos) (wT Γ W (dTest (dOp2 (p2 gLe) fa fb))) := d_tcmp op_le (pr_cmp _) ha hb (nomark _)
theorem t_gt (ha : PE X a (wE Γ W fa)) (hb : PE X b (wE Γ W fb)) : PT X (.Compare a [.Gt] [b] pos) (wT Γ W (dTest (dOp2 (p2 gGt) fa fb))) := d_tcmp op_gt (pr_cmp _) ha hb (nomark _)
theorem t_ge (ha : PE X a (wE Γ W fa)) (hb : PE X b (wE Γ W fb)) : PT X (.Compare a [.GtE] [b] pos) (wT Γ W (dTest (dOp2 (p2 gGe) fa fb))) := d_tcmp op_ge (pr_cmp _) ha hb (nomark _)
theorem t_lt (hu : X.A.units < cLine) (ha : PE X a (wE Γ W fa)) (hb : PE X b (wE Γ W fb)) (hK : X.K = Γ.K := by rfl) : PT X (.Compare a [.Lt] [b] pos) (wT Γ W (dTest (dOp2 (p2 gLtT) fa fb))) := d_tcmp (op_less hu) (pr_less hK) ha hb (nomark _)
theorem t_eq (hu : X.A.units + 64 < cLine) (ha : PE X a (wE Γ W fa)) (hb : PE X b (wE Γ W fb)) (hK : X.K = Γ.K := by rfl) : PT X (.Compare a [.Eq] [b] pos) (wT Γ W (dTest (dOp2 (p2 gEq) fa fb))) := d_tcmp (op_eqD hu) (pr_eq hK) ha hb (nomark _)
theorem t_ne (hu : X.A.units + 64 < cLine) (ha : PE X a (wE Γ W fa)) (hb : PE X b (wE Γ W fb)) (hK : X.K = Γ.K := by rfl) : PT X (.Compare a [.NotEq] [b] pos) (wT Γ W (dTest (dOp2 (p2 gNe) fa fb))) := d_tcmp (op_neD hu) (pr_ne hK) ha hb (nomark _)
theorem t_is (ha : PE X a (wE Γ W fa)) (hb : PE X b (wE Γ W fb)) : PT X (.Compare a [.Is] [b] pos) (wT Γ W (dTest (dOp2 (p2 gIsN) fa fb))) := d_tcmp op_isN pr_isN ha hb (nomark _)
theorem t_isn (ha : PE X a (wE Γ W fa)) (hb : PE X b (wE Γ W fb)) : PT X (.Compare a [.IsNot] [b] pos) (wT Γ W (dTest (dOp2 (p2 gNotN) fa fb))) := d_tcmp op_notN pr_notN ha hb (nomark _)
end
end
end SP

/-! SPh: dicts, texts, slices, raise. -/
namespace SP
open PySem L2

section
variable {Γ : Gm} {X : Cx} {W : WX}
/-! ### keys -/
theorem keyOf_ok {K : PySem.W.Frag} {G H : Hp} {x : V} {d : SP.D} {k : Key} (r : RepL K G H x d) (e : keyOf d = some k) : x = kV k ∧ goodK k := by
  cases r <;> simp only [keyOf] at e <;> first | (cases e; done) | skip
  · cases e; exact ⟨rfl, trivial⟩
  · rename_i h; cases e; exact ⟨rfl, h⟩
theorem keyOf_rep {K : PySem.W.Frag} {G : Hp} {x : V} {d : SP.D} {k : Key} (r : Rep K G x d) (e : keyOf d = some k) : x = kV k ∧ goodK k := by
  cases r <;> simp only [keyOf] at e <;> first | (cases e; done) | skip
  · cases e; exact ⟨rfl, trivial⟩
  · rename_i h; cases e; exact ⟨rfl, h⟩
theorem keysOf_ok {K : PySem.W.Frag} {G : Hp} : ∀ {xs : List SP.D} {ks : List Key} {vs : List V}, keysOf xs = some ks → Reps K G vs xs → vs = ks.map kV
  | [], _, _, e, .nil => by simp only [keysOf] at e; cases e; rfl
  | d :: r, ks, _, e, .cons h t => by
    simp only [keysOf] at e
    cases e1 : keyOf d with
    | none => rw [e1] at e; cases e
    | some k =>
      cases e2 : keysOf r with
      | none => rw [e1, e2] at e; cases e
      | some m =>
        rw [e1, e2] at e; cases e
        rw [(keyOf_rep h e1).1, keysOf_ok e2 t]; rfl
theorem repk_val {K : PySem.W.Frag} {G : Hp} {k : Key} : ∀ {vs : List (Key × V)} {ds : List (Key × SP.D)}, RepK K G vs ds → (∀ d, valD ds k = some d → ∃ v, valV vs k = some v ∧ Rep K G v d) ∧ (valD ds k = none → valV vs k = none)
  | _, _, .nil => ⟨fun d e => by simp [valD] at e, fun _ => rfl⟩
  | _, _, .cons (k := k') (v := v) (vs := vs) (d := d) (ds := ds) g h r => by
    obtain ⟨h1, h2⟩ := repk_val (k := k) r
    by_cases e : k' = k
    · refine ⟨fun d' q => ?_, fun q => ?_⟩
      · simp only [valD, List.find?_cons, e, decide_true, Option.map_some] at q
        cases q
        exact ⟨v, by simp [valV, e], h⟩
      · simp [valD, e] at q
    · have e1 : valD ((k', d) :: ds) k = valD ds k := by simp [valD, e]
      have e2 : valV ((k', v) :: vs) k = valV vs k := by simp [valV, e]
      rw [e1, e2]
      exact ⟨h1, h2⟩
theorem rept_val {K : PySem.W.Frag} {G : Hp} {k : List Key} : ∀ {vs : List (List Key × V)} {ds : List (List Key × SP.D)}, RepT K G vs ds → (∀ d, valD ds k = some d → ∃ v, valV vs k = some v ∧ Rep K G v d) ∧ (valD ds k = none → valV vs k = none)
  | _, _, .nil => ⟨fun d e => by simp [valD] at e, fun _ => rfl⟩
  | _, _, .cons (k := k') (v := v) (vs := vs) (d := d) (ds := ds) h r => by
    obtain ⟨h1, h2⟩ := rept_val (k := k) r
    by_cases e : k' = k
    · refine ⟨fun d' q => ?_, fun q => ?_⟩
      · simp only [valD, List.find?_cons, e, decide_true, Option.map_some] at q
        cases q
        exact ⟨v, by simp [valV, e], h⟩
      · simp [valD, e] at q
    · have e1 : valD ((k', d) :: ds) k = valD ds k := by simp [valD, e]
      have e2 : valV ((k', v) :: vs) k = valV vs k := by simp [valV, e]
      rw [e1, e2]
      exact ⟨h1, h2⟩
theorem repk_keysEq {K : PySem.W.Frag} {G : Hp} {k : Key} : ∀ {vs : List (Key × V)} {ds : List (Key × SP.D)}, RepK K G vs ds → (vs.any fun kv => decide (kv.1 = k)) = (ds.any fun kv => decide (kv.1 = k))
  | _, _, .nil => rfl
  | _, _, .cons g h r => by simp only [List.any_cons, repk_keysEq r]
theorem rept_keysEq {K : PySem.W.Frag} {G : Hp} {k : List Key} : ∀ {vs : List (List Key × V)} {ds : List (List Key × SP.D)}, RepT K G vs ds → (vs.any fun kv => decide (kv.1 = k)) = (ds.any fun kv => decide (kv.1 = k))
  | _, _, .nil => rfl
  | _, _, .cons h r => by simp only [List.any_cons, rept_keysEq r]
theorem repk_map {K : PySem.W.Frag} {G : Hp} {k : Key} {v : V} {d : SP.D} (h : Rep K G v d) : ∀ {vs : List (Key × V)} {ds : List (Key × SP.D)}, RepK K G vs ds → RepK K G (vs.map fun kv => if kv.1 = k then (kv.1, v) else kv) (ds.map fun kv => if kv.1 = k then (kv.1, d) else kv)
  | _, _, .nil => .nil
  | _, _, .cons (k := k') g h' r => by
    simp only [List.map_cons]
    by_cases e : k' = k
    · simp only [e, if_true]; exact .cons (e ▸ g) h (repk_map h r)
    · simp only [e, if_false]; exact .cons g h' (repk_map h r)
theorem rept_map {K : PySem.W.Frag} {G : Hp} {k : List Key} {v : V} {d : SP.D} (h : Rep K G v d) : ∀ {vs : List (List Key × V)} {ds : List (List Key × SP.D)}, RepT K G vs ds → RepT K G (vs.map fun kv => if kv.1 = k then (kv.1, v) else kv) (ds.map fun kv => if kv.1 = k then (kv.1, d) else kv)
  | _, _, .nil => .nil
  | _, _, .cons (k := k') h' r => by
    simp only [List.map_cons]
    by_cases e : k' = k
    · simp only [e, if_true]; exact .cons h (rept_map h r)
    · simp only [e, if_false]; exact .cons h' (rept_map h r)
theorem repk_app {K : PySem.W.Frag} {G : Hp} : ∀ {vs ws : List (Key × V)} {ds es : List (Key × SP.D)}, RepK K G vs ds → RepK K G ws es → RepK K G (vs ++ ws) (ds ++ es)
  | _, _, _, _, .nil, s => s
  | _, _, _, _, .cons g h r, s => .cons g h (repk_app r s)
theorem rept_app {K : PySem.W.Frag} {G : Hp} : ∀ {vs ws : List (List Key × V)} {ds es : List (List Key × SP.D)}, RepT K G vs ds → RepT K G ws es → RepT K G (vs ++ ws) (ds ++ es)
  | _, _, _, _, .nil, s => s
  | _, _, _, _, .cons h r, s => .cons h (rept_app r s)
theorem repk_put {K : PySem.W.Frag} {G : Hp} {k : Key} {v : V} {d : SP.D} (g : goodK k) (h : Rep K G v d) {vs : List (Key × V)} {ds : List (Key × SP.D)} (r : RepK K G vs ds) : RepK K G (putK vs k v) (putD ds k d) := by
  unfold putK putD
  rw [repk_keysEq r]
  split
  · exact repk_map h r
  · exact repk_app r (.cons g h .nil)
theorem rept_put {K : PySem.W.Frag} {G : Hp} {k : List Key} {v : V} {d : SP.D} (h : Rep K G v d) {vs : List (List Key × V)} {ds : List (List Key × SP.D)} (r : RepT K G vs ds) : RepT K G (putK vs k v) (putD ds k d) := by
  unfold putK putD
  rw [rept_keysEq r]
  split
  · exact rept_map h r
  · exact rept_app r (.cons h .nil)
theorem putD_len {κ : Type} [DecidableEq κ] (ds : List (κ × SP.D)) (k : κ) (d : SP.D) : (putD ds k d).length ≤ ds.length + 1 := by
  unfold putD
  split
  · simp
  · simp

/-! ### what a dict holds -/
def OptRep (K : PySem.W.Frag) (G : Hp) : Option SP.D → Option V → Prop
  | some dv, ov => ∃ v, ov = some v ∧ Rep K G v dv
  | none, ov => ov = none
theorem match_opt {K : PySem.W.Frag} {G : Hp} {o : Option SP.D} {ov : Option V} (h1 : ∀ d, o = some d → ∃ v, ov = some v ∧ Rep K G v d) (h2 : o = none → ov = none) : OptRep K G o ov := by
  cases o with
  | some d => exact h1 d rfl
  | none => exact h2 rfl
theorem dAt_ok {G H : Hp} {x y : V} {d k : SP.D} {o : Option SP.D} (s : Same G H) (rx : RepL Γ.K G H x d) (ry : RepL Γ.K G H y k) (e : dAt d k = some o) : ∃ a ov, x = .ref a ∧ DGet H a y ov ∧ OptRep Γ.K G o ov := by
  cases rx with
  | dk h n r =>
    simp only [dAt] at e
    cases e1 : keyOf k with
    | none => rw [e1] at e; cases e
    | some kk =>
      rw [e1] at e; cases e
      obtain ⟨rfl, _⟩ := keyOf_ok ry e1
      refine ⟨_, _, rfl, DGet.k (k := kk) h, ?_⟩
      obtain ⟨h1, h2⟩ := repk_val (k := kk) r
      exact match_opt h1 h2
  | dt h n r =>
    cases ry with
    | tup hb nb rb =>
      simp only [dAt] at e
      rename_i _ _ _ b ws xs
      cases e1 : keysOf xs with
      | none => rw [e1] at e; cases e
      | some kk =>
        rw [e1] at e; cases e
        have ew := keysOf_ok e1 rb
        subst ew
        refine ⟨_, _, rfl, DGet.t (k := kk) h hb, ?_⟩
        obtain ⟨h1, h2⟩ := rept_val (k := kk) r
        exact match_opt h1 h2
    | _ => simp [dAt] at e
  | _ => simp [dAt] at e
theorem isDict_ok {K : PySem.W.Frag} {G H : Hp} {x : V} {d : SP.D} (r : RepL K G H x d) (e : isDict d = true) : ∃ a, x = .ref a ∧ IsD H a := by
  cases r <;> simp [isDict] at e
  · rename_i h _ _; exact ⟨_, rfl, .inl ⟨_, .inl h⟩⟩
  · rename_i h _ _; exact ⟨_, rfl, .inr ⟨_, .inl h⟩⟩
theorem pr_dget : Pr2 Γ (p2 gDGet) (fun x y H Q => ∃ a v, x = .ref a ∧ DGet H a y (some v) ∧ Q v H) := pr2_pure fun G H x y d e q Q s rx ry hq k => by
  unfold gDGet at hq
  split at hq
  · rename_i v hv
    cases hq
    obtain ⟨a, ov, rfl, hd, hm⟩ := dAt_ok s rx ry hv
    obtain ⟨w, rfl, rw⟩ := hm
    exact ⟨a, w, rfl, hd, k w rw⟩
  · cases hq
theorem d_dget {a b : Expr} {pos : Pos} {fa fb : Ev} (hu : X.A.units + 1 < cLine) (ha : PE X a (wE Γ W fa)) (hb : PE X b (wE Γ W fb)) (hs : NoSl b := by exact fun _ _ => rfl) : PE X (.Subscript a b pos) (wE Γ W (dOp2 (p2 gDGet) fa fb)) :=
  pe_imp (pe_dget hu ha hb hs) fun σ H Q h => wE.two pr_dget h
theorem pr_in : Pr2 Γ (p2 gIn) (fun y x H Q => ∃ a o, x = .ref a ∧ DGet H a y o ∧ Q (.bl o.isSome) H) := pr2_pure fun G H y x e d q Q s ry rx hq k => by
  unfold gIn at hq
  cases e1 : dAt d e with
  | none => rw [e1] at hq; cases hq
  | some o =>
    rw [e1] at hq; cases hq
    obtain ⟨a, ov, rfl, hd, hm⟩ := dAt_ok s rx ry e1
    refine ⟨a, ov, rfl, hd, ?_⟩
    cases o with
    | none => cases (show ov = none from hm); exact k _ (.bl _)
    | some dv => obtain ⟨w, rfl, _⟩ := hm; exact k _ (.bl _)
theorem pr_notIn : Pr2 Γ (p2 gNotIn) (fun y x H Q => ∃ a o, x = .ref a ∧ DGet H a y o ∧ Q (.bl (!o.isSome)) H) := pr2_pure fun G H y x e d q Q s ry rx hq k => by
  unfold gNotIn at hq
  cases e1 : dAt d e with
  | none => rw [e1] at hq; cases hq
  | some o =>
    rw [e1] at hq; cases hq
    obtain ⟨a, ov, rfl, hd, hm⟩ := dAt_ok s rx ry e1
    refine ⟨a, ov, rfl, hd, ?_⟩
    cases o with
    | none => cases (show ov = none from hm); exact k _ (.bl _)
    | some dv => obtain ⟨w, rfl, _⟩ := hm; exact k _ (.bl _)
section
variable {a b : Expr} {pos : Pos} {fa fb : Ev}
theorem d_in (hu : X.A.units + 1 < cLine) (ha : PE X a (wE Γ W fa)) (hb : PE X b (wE Γ W fb)) (h1 : behindInMarks .In b = false := by rfl) : PE X (.Compare a [.In] [b] pos) (wE Γ W (dOp2 (p2 gIn) fa fb)) := pe_imp (pe_cmp (pc_din hu ha hb) h1) fun σ H Q h => wE.two pr_in h
theorem d_notIn (hu : X.A.units + 1 < cLine) (ha : PE X a (wE Γ W fa)) (hb : PE X b (wE Γ W fb)) (h1 : behindInMarks .NotIn b = false := by rfl) : PE X (.Compare a [.NotIn] [b] pos) (wE Γ W (dOp2 (p2 gNotIn) fa fb)) := pe_imp (pe_cmp (pc_dnotin hu ha hb) h1) fun σ H Q h => wE.two pr_notIn h
theorem t_in (hu : X.A.units + 1 < cLine) (ha : PE X a (wE Γ W fa)) (hb : PE X b (wE Γ W fb)) (h1 : behindInMarks .In b = false := by rfl) : PT X (.Compare a [.In] [b] pos) (wT Γ W (dTest (dOp2 (p2 gIn) fa fb))) := pt_imp (pt_cmp (pc_din hu ha hb) h1) fun σ H Q h => wE.two pr_in (wT.of h)
theorem t_notIn (hu : X.A.units + 1 < cLine) (ha : PE X a (wE Γ W fa)) (hb : PE X b (wE Γ W fb)) (h1 : behindInMarks .NotIn b = false := by rfl) : PT X (.Compare a [.NotIn] [b] pos) (wT Γ W (dTest (dOp2 (p2 gNotIn) fa fb))) := pt_imp (pt_cmp (pc_dnotin hu ha hb) h1) fun σ H Q h => wE.two pr_notIn (wT.of h)
end
theorem pr_inS : Pr2 Γ (p2 gInS) (fun x y H Q => ∃ (c : Nat) (z : Str), x = .str ⟨#[c]⟩ ∧ y = .str z ∧ Q (.bl (decide (c ∈ z.cps.toList))) H) := pr2_pure fun G H x y d e q Q s rx ry hq k => by
  unfold gInS at hq
  split at hq
  · rename_i c z
    split at hq
    · rename_i n hn
      cases hq
      cases rx; cases ry
      refine ⟨n, z, ?_, rfl, k _ (.bl _)⟩
      have : c = ⟨#[n]⟩ := by
        cases c with
        | mk cps => exact congrArg Str.mk (by have := congrArg List.toArray hn; simpa using this)
      rw [this]
    · cases hq
  · cases hq
theorem pr_notInS : Pr2 Γ (p2 gNotInS) (fun x y H Q => ∃ (c : Nat) (z : Str), x = .str ⟨#[c]⟩ ∧ y = .str z ∧ Q (.bl (!decide (c ∈ z.cps.toList))) H) := pr2_pure fun G H x y d e q Q s rx ry hq k => by
  unfold gNotInS at hq
  split at hq
  · rename_i b hb
    cases hq
    unfold gInS at hb
    split at hb
    · rename_i c z
      split at hb
      · rename_i n hn
        cases hb
        cases rx; cases ry
        refine ⟨n, z, ?_, rfl, k _ (.bl _)⟩
        have : c = ⟨#[n]⟩ := by
          cases c with
          | mk cps => exact congrArg Str.mk (by have := congrArg List.toArray hn; simpa using this)
        rw [this]
      · cases hb
    · cases hb
  · cases hq
section
variable {a b : Expr} {pos : Pos} {fa fb : Ev}
theorem t_inS (ha : PE X a (wE Γ W fa)) (hb : PE X b (wE Γ W fb)) (h1 : behindInMarks .In b = false := by rfl) : PT X (.Compare a [.In] [b] pos) (wT Γ W (dTest (dOp2 (p2 gInS) fa fb))) := d_tcmp op_in_sign pr_inS ha hb h1
theorem t_notInS (ha : PE X a (wE Γ W fa)) (hb : PE X b (wE Γ W fb)) (h1 : behindInMarks .NotIn b = false := by rfl) : PT X (.Compare a [.NotIn] [b] pos) (wT Γ W (dTest (dOp2 (p2 gNotInS) fa fb))) := d_tcmp op_notIn_sign pr_notInS ha hb h1
end
/-! ### get -/
theorem d_get1 {o e : Expr} {apos cpos : Pos} {fd fk : Ev} (hu : X.A.units + 1 < cLine) (ho : PE X o (wE Γ W fd)) (he : PE X e (wE Γ W fk)) (m : M1 X o "get" apos e cpos) : PE X (.Call (.Attribute o "get" apos) [e] [] cpos) (wE Γ W (dGet1 fd fk)) := by
  refine pe_imp (pe_dget1 hu ho he m) fun σ H Q h => ?_
  obtain ⟨G, cs, ρ, μ, rl, po⟩ := h
  refine ⟨G, cs, ρ, μ, rl, (Post.bind (rep := RepS Γ.K) po).imp fun x H1 ⟨G1, cs1, a, μ1, g1, m1, q1, p1⟩ => ?_⟩
  split at p1
  · rename_i d0 h0
    split at p1
    · rename_i hd
      obtain ⟨p, rfl, isd⟩ := isDict_ok (look_L m1 q1 h0) hd
      refine ⟨p, rfl, isd, G1, cs1, ρ, μ1, rl.grow g1 m1, (Post.bind (rep := RepS Γ.K) p1).imp fun y H2 ⟨G2, cs2, b, μ2, g2, m2, q2, p2⟩ => ?_⟩
      split at p2
      · rename_i d k e1 e2
        have q1' := q1.mono g2.ex g2.pre
        split at p2
        · rename_i o eo
          obtain ⟨p', ov, ep, hg, hm⟩ := dAt_ok m2.sub (look_L m2 q1' e1) (look_L m2 q2 e2) eo
          cases ep
          refine ⟨ov, hg, ?_⟩
          cases o with
          | none => cases (show ov = none from hm); exact p2.now m2 .non
          | some dv => obtain ⟨w, rfl, rw⟩ := hm; exact p2.now (v := w) m2 rw
        · exact p2.elim
      · exact p2.elim
    · exact p1.elim
  · exact p1.elim
theorem d_get2 {o e f : Expr} {apos cpos : Pos} {fd fk fz : Ev} (hu : X.A.units + 1 < cLine) (ho : PE X o (wE Γ W fd)) (he : PE X e (wE Γ W fk)) (hf : PE X f (wE Γ W fz)) (m : M2 X o "get" apos e f cpos) : PE X (.Call (.Attribute o "get" apos) [e, f] [] cpos) (wE Γ W (dGet2 fd fk fz)) := by
  refine pe_imp (pe_dget2 hu ho he hf m) fun σ H Q h => ?_
  obtain ⟨G, cs, ρ, μ, rl, po⟩ := h
  refine ⟨G, cs, ρ, μ, rl, (Post.bind (rep := RepS Γ.K) po).imp fun x H1 ⟨G1, cs1, a, μ1, g1, m1, q1, p1⟩ => ?_⟩
  split at p1
  · rename_i d0 h0
    split at p1
    · rename_i hd
      obtain ⟨p, rfl, isd⟩ := isDict_ok (look_L m1 q1 h0) hd
      refine ⟨p, rfl, isd, G1, cs1, ρ, μ1, rl.grow g1 m1, (Post.bind (rep := RepS Γ.K) p1).imp fun y H2 ⟨G2, cs2, b, μ2, g2, m2, q2, p2⟩ => ?_⟩
      have rl2 := (rl.grow g1 m1).grow g2 m2
      refine ⟨G2, cs2, ρ, μ2, rl2, (Post.bind (rep := RepS Γ.K) p2).imp fun z H3 ⟨G3, cs3, c, μ3, g3, m3, q3, p3⟩ => ?_⟩
      split at p3
      · rename_i d k e e1 e2
        have q1' := (q1.mono g2.ex g2.pre).mono g3.ex g3.pre
        have q2' := q2.mono g3.ex g3.pre
        split at p3
        · rename_i o eo
          obtain ⟨p', ov, ep, hg, hm⟩ := dAt_ok m3.sub (look_L m3 q1' e1) (look_L m3 q2' e2) eo
          cases ep
          refine ⟨ov, hg, ?_⟩
          cases o with
          | none => cases (show ov = none from hm); exact p3.now (v := z) m3 q3
          | some dv => obtain ⟨w, rfl, rw⟩ := hm; exact p3.now (v := w) m3 rw
        · exact p3.elim
      · exact p3.elim
    · exact p1.elim
  · exact p1.elim
/-! ### d[k] = v -/
theorem s_dput {o i value : Expr} {pos pos' : Pos} {fd fk fv : Ev} (hu : X.A.units + 1 < cLine) (ho : PE X o (wE Γ W fd)) (hi : PE X i (wE Γ W fk)) (hv : PE X value (wE Γ W fv)) (hs : swapsWith value (some (.Subscript o i pos')) pos.line X.env = pure false := by rfl) :
    PS X (.Assign [.Subscript o i pos'] value pos) (wS Γ W (sDPut fd fk fv)) := by
  refine ps_imp (ps_dput hu ho hi hv hs) fun D σ H h => ?_
  show wE Γ W fv σ H _
  refine wE.stm h fun G cs ρ μ v H1 a rl r po => ?_
  split at po
  · rename_i dv
    show wE Γ W fd σ H1 _
    refine wE.stm' rl po fun G2 cs2 μ2 x H2 a2 g2 rl2 r2 po => ?_
    split at po
    · rename_i n
      show wE Γ W fk σ H2 _
      refine wE.stm' rl2 po fun G3 cs3 μ3 y H3 a3 g3 rl3 r3 po => ?_
      split at po
      · rename_i k ek
        have rk := look_L rl3.m r3 ek
        have rv : Rep Γ.K G3 v dv := Rep.mono g3.ex (Rep.mono g2.ex r)
        obtain ⟨p, hp, rfl⟩ := r2
        have hp3 := pre_get g3.pre hp
        unfold putCell at po
        split at po
        · rename_i kvs hc
          split at po
          · rename_i kk hkk
            split at po
            · rename_i hl
              obtain ⟨gp, nl, vs, hh, rs⟩ := rl3.m.cell n p _ hp3 hc
              obtain ⟨rfl, gk⟩ := keyOf_ok rk hkk
              refine ⟨p, _, rfl, DPut.k (k := kk) hh (by rw [rs.length]; exact Nat.lt_of_lt_of_le hl maxN_le), ?_⟩
              obtain ⟨g4, m4⟩ := rl3.m.put hp3 (.dK (putK vs kk v)) (.dk (putD kvs kk dv)) gp ⟨gp, Nat.le_trans (putD_len _ _ _) hl, _, upd_same, repk_put gk rv rs⟩
              exact po G3 cs3 _ σ g4 (rl3.grow g4 m4)
            · exact po.elim
          · exact po.elim
        · rename_i kvs hc
          split at po
          · rename_i xs
            split at po
            · rename_i kk hkk
              split at po
              · rename_i hl
                obtain ⟨gp, nl, vs, hh, rs⟩ := rl3.m.cell n p _ hp3 hc
                cases rk with
                | tup hb nb rb =>
                  have ew := keysOf_ok hkk rb
                  subst ew
                  refine ⟨p, _, rfl, .inr ⟨vs, kk, _, hh, rfl, hb, by rw [rs.length]; exact Nat.lt_of_lt_of_le hl maxN_le, rfl⟩, ?_⟩
                  obtain ⟨g4, m4⟩ := rl3.m.put hp3 (.dT (putK vs kk v)) (.dt (putD kvs kk dv)) gp ⟨gp, Nat.le_trans (putD_len _ _ _) hl, _, upd_same, rept_put rv rs⟩
                  exact po G3 cs3 _ σ g4 (rl3.grow g4 m4)
              · exact po.elim
            · exact po.elim
          · exact po.elim
        · exact po.elim
      · exact po.elim
    · exact po.elim
  · exact po.elim
/-! ### texts -/
theorem d_count {o e : Expr} {apos pos : Pos} {fa fb : Ev} (ho : PE X o (wE Γ W fa)) (he : PE X e (wE Γ W fb)) (h : PE X (.Call (.Attribute o "count" apos) [e] [] pos) (tM1 (fun x xs H Q => ∃ a b, x = .str a ∧ xs = [.str b] ∧ Q (.int (Txt.count a b)) H) (wE Γ W fa) (wE Γ W fb))) :
    PE X (.Call (.Attribute o "count" apos) [e] [] pos) (wE Γ W (dOpM gCount fa fb)) := by
  refine pe_imp h fun σ H Q h => ?_
  obtain ⟨G, cs, ρ, μ, rl, po⟩ := h
  refine ⟨G, cs, ρ, μ, rl, (Post.bind (rep := RepS Γ.K) po).imp fun x H1 ⟨G1, cs1, a, μ1, g1, m1, q1, p1⟩ => ?_⟩
  split at p1
  · rename_i z
    have q1 : Rep Γ.K G1 x (.str z) := q1
    cases q1 with
    | str _ gz =>
      refine ⟨⟨z, rfl⟩, G1, cs1, ρ, μ1, rl.grow g1 m1, (Post.bind (rep := RepS Γ.K) p1).imp fun y H2 ⟨G2, cs2, b, μ2, g2, m2, q2, p2⟩ => ?_⟩
      split at p2
      · rename_i w
        have q2 : Rep Γ.K G2 y (.str w) := q2
        cases q2
        exact ⟨z, w, rfl, rfl, p2.now m2 (.int _)⟩
      · exact p2.elim
  · exact p1.elim
theorem d_find {o e : Expr} {apos pos : Pos} {fa fb : Ev} (ho : PE X o (wE Γ W fa)) (he : PE X e (wE Γ W fb)) (h : PE X (.Call (.Attribute o "find" apos) [e] [] pos) (tM1 (fun x xs H Q => ∃ a b, x = .str a ∧ xs = [.str b] ∧ Q (.int (Txt.find a b)) H) (wE Γ W fa) (wE Γ W fb))) :
    PE X (.Call (.Attribute o "find" apos) [e] [] pos) (wE Γ W (dOpM gFind fa fb)) := by
  refine pe_imp h fun σ H Q h => ?_
  obtain ⟨G, cs, ρ, μ, rl, po⟩ := h
  refine ⟨G, cs, ρ, μ, rl, (Post.bind (rep := RepS Γ.K) po).imp fun x H1 ⟨G1, cs1, a, μ1, g1, m1, q1, p1⟩ => ?_⟩
  split at p1
  · rename_i z
    have q1 : Rep Γ.K G1 x (.str z) := q1
    cases q1 with
    | str _ gz =>
      refine ⟨⟨z, rfl⟩, G1, cs1, ρ, μ1, rl.grow g1 m1, (Post.bind (rep := RepS Γ.K) p1).imp fun y H2 ⟨G2, cs2, b, μ2, g2, m2, q2, p2⟩ => ?_⟩
      split at p2
      · rename_i w
        have q2 : Rep Γ.K G2 y (.str w) := q2
        cases q2
        exact ⟨z, w, rfl, rfl, p2.now m2 (.int _)⟩
      · exact p2.elim
  · exact p1.elim
/-! ### slices -/
def wO (Γ : Gm) (W : WX) (o : Option Ev) : TO := fun σ H Q => ∃ G cs ρ μ, Rel Γ G cs ρ μ σ H ∧ Post Γ (fun _ _ b c => b = c) (wX Γ W σ) G cs H (dPart o ρ μ) Q
theorem po_imp {e : Option Expr} {t t' : TO} (h : PO X e t) (i : ∀ σ H Q, t' σ H Q → t σ H Q) : PO X e t' := ⟨fun pins s σ H Q I w => h.run pins s σ H Q I (i σ H Q w)⟩
theorem d_ponone : PO X none (wO Γ W none) := po_imp po_none fun σ H Q h => by
  obtain ⟨G, cs, ρ, μ, rl, po⟩ := h
  exact po.now rl.m rfl
theorem d_posome {e : Expr} {f : Ev} (h : PE X e (wE Γ W f)) : PO X (some e) (wO Γ W (some f)) := po_imp (po_some h) fun σ H Q h => by
  obtain ⟨G, cs, ρ, μ, rl, po⟩ := h
  refine ⟨G, cs, ρ, μ, rl, (Post.bind (rep := RepS Γ.K) po).imp fun x H1 ⟨G1, cs1, a, μ1, g1, m1, q1, p1⟩ => ?_⟩
  split at p1
  · rename_i i
    have q1 : Rep Γ.K G1 x (.int i) := q1
    cases q1
    exact ⟨i, rfl, p1.now m1 rfl⟩
  · exact p1.elim
theorem goodS_cut {z : Str} (g : goodS z) (lo hi : Option Int) : goodS (cutS z lo hi) := by
  refine ⟨Nat.le_trans (cutS_length z lo hi) g.1, ?_⟩
  rw [Array.all_eq_true_iff_forall_mem]
  intro c hc
  have h1 : c ∈ z.cps.toList := by
    unfold cutS at hc
    simp only [List.mem_toArray] at hc
    exact List.mem_of_mem_drop (List.mem_of_mem_take hc)
  simpa using goodS_mem g h1
theorem d_sl {e : Expr} {lo hi : Option Expr} {p2 pos : Pos} {f : Ev} {l h : Option Ev} (he : PE X e (wE Γ W f)) (hl : PO X lo (wO Γ W l)) (hh : PO X hi (wO Γ W h)) : PE X (.Subscript e (.Slice lo hi none p2) pos) (wE Γ W (dSl f l h)) := by
  refine pe_imp (pe_slice (SlR.or sl_list sl_str) he hl hh) fun σ H Q w => ?_
  obtain ⟨G, cs, ρ, μ, rl, po⟩ := w
  refine ⟨G, cs, ρ, μ, rl, (Post.bind (rep := RepS Γ.K) po).imp fun x H1 ⟨G1, cs1, a, μ1, g1, m1, q1, p1⟩ => ?_⟩
  refine ⟨G1, cs1, ρ, μ1, rl.grow g1 m1, (Post.bind (rep := fun _ _ b c => b = c) p1).imp fun lv H2 ⟨G2, cs2, l2, μ2, g2, m2, q2, p2⟩ => ?_⟩
  subst q2
  have rl2 := (rl.grow g1 m1).grow g2 m2
  refine ⟨G2, cs2, ρ, μ2, rl2, (Post.bind (rep := fun _ _ b c => b = c) p2).imp fun hv H3 ⟨G3, cs3, h3, μ3, g3, m3, q3, p3⟩ => ?_⟩
  subst q3
  have q1' := (q1.mono g2.ex g2.pre).mono g3.ex g3.pre
  split at p3
  · rename_i d hd
    split at p3
    · rename_i r hr
      have rd := look_L m3 q1' hd
      unfold gSl at hr
      split at hr
      · cases hr
        cases rd with
        | str _ gz => exact .inr ⟨_, rfl, Nat.le_trans gz.1 maxN_le, p3.now m3 (.str _ (goodS_cut gz _ _))⟩
      · rename_i xs
        cases hr
        cases rd with
        | @lst _ vs _ ha na rs =>
          refine .inl ⟨_, _, rfl, .of ha, fun l hl' => ?_⟩
          have key : Reps Γ.K G3 (cutV vs lv hv) ((xs.drop (HT.sIx xs.length 0 lv)).take (HT.sIx xs.length xs.length hv - HT.sIx xs.length 0 lv)) := by
            unfold cutV
            rw [rs.length]
            exact (rs.drop _).take _
          obtain ⟨g, m'⟩ := m3.imm hl' (.lst (cutV vs lv hv))
          refine p3.at g m' (.lst upd_same ?_ (key.mono g.ex))
          simp only [List.length_take, List.length_drop]; omega
      · cases hr
    · exact p3.elim
  · exact p3.elim
/-! ### numbers -/
theorem d_pow {a b : Expr} {pos : Pos} {fa fb : Ev} (ha : PE X a (wE Γ W fa)) (hb : PE X b (wE Γ W fb)) : PE X (.BinOp a .Pow b pos) (wE Γ W (dOp2 (p2 gPow) fa fb)) := d_bin op_pow (pr2_I fun d e q h => by
  unfold gPow at h; split at h
  · split at h
    · rename_i c; cases h; exact ⟨_, _, rfl, rfl, c, fun _ _ => .int _⟩
    · cases h
  · cases h) ha hb
theorem d_neg {a : Expr} {pos : Pos} {f : Ev} (ha : PE X a (wE Γ W f)) : PE X (.UnaryOp .USub a pos) (wE Γ W (dOp1 (p1 gNeg) f)) := d_op1 un_neg ha fun E G cs μ H x sa Q m r p => by
  refine pr1_pure (Γ := Γ) (g := gNeg) (r := rU fun i => .int (-i)) (fun G H x d q Q s rx hq k => ?_) E G cs μ H x sa Q m r p
  unfold gNeg at hq; split at hq <;> cases hq
  cases rx; exact ⟨_, rfl, k _ (.int _)⟩
theorem d_notE {a : Expr} {pos : Pos} {f : Ev} (ha : PE X a (wE Γ W f)) : PE X (.UnaryOp .Not a pos) (wE Γ W (dNotE f)) := by
  refine pe_imp (pe_not ha) fun σ H Q h => ?_
  obtain ⟨G, cs, ρ, μ, rl, po⟩ := h
  refine ⟨G, cs, ρ, μ, rl, (Post.bind (rep := RepS Γ.K) po).imp fun x H1 ⟨G1, cs1, a, μ1, g1, m1, q1, p1⟩ => ?_⟩
  split at p1
  · rename_i b
    have q1 : Rep Γ.K G1 x (.bl b) := q1
    cases q1
    exact ⟨b, rfl, p1.now m1 (.bl _)⟩
  · exact p1.elim
theorem d_ifE {c a b : Expr} {pos : Pos} {t : EvT} {f g : Ev} (hc : PT X c (wT Γ W t)) (ha : PE X a (wE Γ W f)) (hb : PE X b (wE Γ W g)) : PE X (.IfExp c a b pos) (wE Γ W (dIfE t f g)) := by
  refine pe_imp (pe_ifExp hc ha hb) fun σ H Q h => ?_
  obtain ⟨G, cs, ρ, μ, rl, po⟩ := h
  refine ⟨G, cs, ρ, μ, rl, (Post.bind (rep := fun _ _ b c => b = c) po).imp fun x H1 ⟨G1, cs1, a, μ1, g1, m1, q1, p1⟩ => ?_⟩
  subst q1
  cases x with
  | true => exact ⟨G1, cs1, ρ, μ1, rl.grow g1 m1, p1⟩
  | false => exact ⟨G1, cs1, ρ, μ1, rl.grow g1 m1, p1⟩
/-! ### raise -/
theorem s_raise {c : Xn} {e : Expr} {C : Addr} {pos : Pos} (hc : X.calm = true) (tk : Takes X W) (hx : Γ.xv c = .ref C) (he : PMk X e (fun _ H Q => Q (.ref C) none H)) : PS X (.Raise (some e) none pos) (wS Γ W (sRaise c)) := by
  refine ps_imp (ps_raise hc tk he) fun D σ H h => ?_
  obtain ⟨G, cs, ρ, μ, rl, po⟩ := h
  have := po G cs H σ none .refl rl
  rw [hx] at this
  exact this
end
end SP

/-! SPi: dicts whose keys are pairs: their hashes stand apart; copies; ==. -/
namespace SP
open PySem L2
/-! ### the hash of a pair of small numbers -/
def hM : Nat := 18446744073709551616
def hP1 : Nat := 11400714785074694791
def hP2 : Nat := 14029467366897019727
def hQ1 : Nat := 614540362697595703
def hQ2 : Nat := 839798700976720815
def hC : Nat := 2870177450013471924
def hRot (a : Nat) : Nat := (a * 2147483648) % 18446744073709551616 + a / 8589934592
def hUn (y : Nat) : Nat := (y % 2147483648) * 8589934592 + y / 2147483648
theorem hRot_eq (a : Nat) : hRot a = (a % 8589934592) * 2147483648 + a / 8589934592 := by
  unfold hRot
  have : a * 2147483648 % 18446744073709551616 = (a % 8589934592) * 2147483648 := by omega
  rw [this]
theorem hRot_un (a : Nat) (h : a < 18446744073709551616) : hUn (hRot a) = a := by
  rw [hRot_eq]
  unfold hUn
  have q : a / 8589934592 < 2147483648 := by omega
  have e := Nat.div_add_mod a 8589934592
  generalize a / 8589934592 = b at q e
  generalize a % 8589934592 = r at e
  have h1 : (r * 2147483648 + b) % 2147483648 = b := by omega
  have h2 : (r * 2147483648 + b) / 2147483648 = r := by omega
  rw [h1, h2]
  omega
theorem hRot_lt (a : Nat) (h : a < 18446744073709551616) : hRot a < 18446744073709551616 := by
  rw [hRot_eq]
  have q : a / 8589934592 < 2147483648 := by omega
  have q2 : a % 8589934592 < 8589934592 := Nat.mod_lt _ (by decide)
  omega
theorem hMul_un (a : Nat) (h : a < 18446744073709551616) : (a * 11400714785074694791 % 18446744073709551616) * 614540362697595703 % 18446744073709551616 = a := by omega
def hIn (a h : Nat) : Nat := (a + h * 14029467366897019727) % 18446744073709551616
def hStep (a h : Nat) : Nat := hRot (hIn a h) * 11400714785074694791 % 18446744073709551616
def hInv (y : Nat) : Nat := hUn (y * 614540362697595703 % 18446744073709551616)
theorem hIn_lt (a h : Nat) : hIn a h < 18446744073709551616 := Nat.mod_lt _ (by decide)
theorem hStep_lt (a h : Nat) : hStep a h < 18446744073709551616 := Nat.mod_lt _ (by decide)
theorem hInv_step (a h : Nat) : hInv (hStep a h) = hIn a h := by
  unfold hInv hStep
  rw [hMul_un _ (hRot_lt _ (hIn_lt a h)), hRot_un _ (hIn_lt a h)]
theorem hStep_inj {a h b g : Nat} (e : hStep a h = hStep b g) : hIn a h = hIn b g := by rw [← hInv_step, ← hInv_step, e]
def hBeg (i : Nat) : Nat := hStep 2870177450012600261 i
theorem hBeg_lt (i : Nat) : hBeg i < 18446744073709551616 := hStep_lt _ _
theorem hPart {a b j k : Nat} (ha : a < 18446744073709551616) (hb : b < 18446744073709551616) (hj : j < 128) (hk : k < 128) (e : hIn a j = hIn b k) : (a + 18446744073709551616 - b) * 839798700976720815 % 18446744073709551616 = (k + 18446744073709551616 - j) % 18446744073709551616 := by
  unfold hIn at e; omega
def hChk : Bool := (List.range 64).all fun i => (List.range 64).all fun k => decide (i = k) || (decide (128 ≤ (hBeg i + 18446744073709551616 - hBeg k) * 839798700976720815 % 18446744073709551616) && decide ((hBeg i + 18446744073709551616 - hBeg k) * 839798700976720815 % 18446744073709551616 ≤ 18446744073709551488))
theorem hChk_ok : hChk = true := by decide +kernel
theorem hBeg_apart {i k : Nat} (hi : i < 64) (hk : k < 64) (h : i ≠ k) : 128 ≤ (hBeg i + 18446744073709551616 - hBeg k) * 839798700976720815 % 18446744073709551616 ∧ (hBeg i + 18446744073709551616 - hBeg k) * 839798700976720815 % 18446744073709551616 ≤ 18446744073709551488 := by
  have := hChk_ok
  unfold hChk at this
  have := List.all_eq_true.mp (List.all_eq_true.mp this i (List.mem_range.mpr hi)) k (List.mem_range.mpr hk)
  simpa [h] using this
theorem hSame {a j l : Nat} (ha : a < 18446744073709551616) (hj : j < 128) (hl : l < 128) (e : hIn a j = hIn a l) : j = l := by
  have := hPart ha ha hj hl e
  rw [Nat.add_sub_cancel_left, Nat.mul_mod_right] at this
  clear ha e
  omega
theorem hPair_inj {i j k l : Nat} (hi : i < 64) (hj : j < 128) (hk : k < 64) (hl : l < 128) (e : hStep (hBeg i) j = hStep (hBeg k) l) : i = k ∧ j = l := by
  have e1 := hStep_inj e
  have li := hBeg_lt i
  have lk := hBeg_lt k
  have ap := fun h => hBeg_apart hi hk h
  by_cases h : i = k
  · rw [h] at e1
    exact ⟨h, hSame lk hj hl e1⟩
  · exfalso
    have q := ap h
    generalize hBeg i = a at e1 li q
    generalize hBeg k = b at e1 lk q
    rw [hPart li lk hj hl e1] at q
    clear li lk e1 ap e
    omega
theorem hFar {a j x : Nat} (ha : a < 18446744073709551616) (hx : x < 18446744073709551616) (hj : j < 128) (q : 128 ≤ (x + 18446744073709551616 - a) * 839798700976720815 % 18446744073709551616) : hIn a j ≠ x := by
  intro e
  unfold hIn at e
  have z : (x + 18446744073709551616 - a) * 839798700976720815 % 18446744073709551616 = j % 18446744073709551616 := by
    clear q
    omega
  rw [z] at q
  clear z e ha hx
  omega
def hChk2 : Bool := (List.range 64).all fun i => decide (128 ≤ (9148689060682678900 + 18446744073709551616 - hBeg i) * 839798700976720815 % 18446744073709551616) && decide (128 ≤ (15881292906973731817 + 18446744073709551616 - hBeg i) * 839798700976720815 % 18446744073709551616)
theorem hChk2_ok : hChk2 = true := by decide +kernel
theorem hNot {i j : Nat} (hi : i < 64) (hj : j < 128) : hStep (hBeg i) j ≠ 15576566623696079691 ∧ hStep (hBeg i) j ≠ 15576566625242355488 := by
  have := hChk2_ok
  unfold hChk2 at this
  have := List.all_eq_true.mp this i (List.mem_range.mpr hi)
  rw [Bool.and_eq_true] at this
  have q1 := of_decide_eq_true this.1
  have q2 := of_decide_eq_true this.2
  have lt := hBeg_lt i
  have e1 : hInv 15576566623696079691 = 9148689060682678900 := by decide +kernel
  have e2 : hInv 15576566625242355488 = 15881292906973731817 := by decide +kernel
  have st := hInv_step (hBeg i) j
  generalize hBeg i = a at *
  constructor
  · intro e
    rw [e, e1] at st
    exact hFar lt (by decide) hj q1 st.symm
  · intro e
    rw [e, e2] at st
    exact hFar lt (by decide) hj q2 st.symm
def hFin (a : Nat) : Int := if ((a + 2870177450013471924) % 18446744073709551616 == 18446744073709551616 - 1) = true then 1546275796 else if (a + 2870177450013471924) % 18446744073709551616 < 9223372036854775808 then (((a + 2870177450013471924) % 18446744073709551616 : Nat) : Int) else (((a + 2870177450013471924) % 18446744073709551616 : Nat) : Int) - 18446744073709551616
theorem hFin_inj {a b : Nat} (ha : a < 18446744073709551616) (hb : b < 18446744073709551616) (na : a ≠ 15576566623696079691 ∧ a ≠ 15576566625242355488) (nb : b ≠ 15576566623696079691 ∧ b ≠ 15576566625242355488) (e : hFin a = hFin b) : a = b := by
  unfold hFin at e
  simp only [beq_iff_eq] at e
  split at e <;> split at e <;> (try split at e) <;> (try split at e) <;> omega
def kStep (acc : Nat) (h : Int) : Nat :=
  let m : Nat := 2 ^ 64
  let prime1 : Nat := 11400714785074694791
  let prime2 : Nat := 14029467366897019727
  let acc := (acc + (h % (m : Int)).toNat * prime2) % m
  let acc := (acc * 2 ^ 31) % m + acc / 2 ^ 33
  (acc * prime1) % m
def kFin (n acc : Nat) : Int :=
  let m : Nat := 2 ^ 64
  let prime5 : Nat := 2870177450012600261
  let acc := (acc + (n ^^^ (prime5 ^^^ 3527539))) % m
  if acc == m - 1 then 1546275796 else if acc < 2 ^ 63 then acc else (acc : Int) - m
theorem tupleHash_k (a b : Int) : Builtin.Tuple.tupleHashOf [a, b] = kFin 2 (kStep (kStep 2870177450012600261 a) b) := by
  unfold Builtin.Tuple.tupleHashOf
  dsimp only
  rw [List.foldl_cons, List.foldl_cons, List.foldl_nil]
  exact Eq.refl _
theorem kStep_eq (a k : Nat) (h : k < 128) : kStep a (k : Int) = hStep a k := by
  have t : ((k : Int) % (((2 : Nat) ^ 64 : Nat) : Int)).toNat = k := by
    have e : (((2 : Nat) ^ 64 : Nat) : Int) = 18446744073709551616 := by decide
    rw [e]; omega
  have p31 : 2 ^ 31 = 2147483648 := by decide
  have p33 : 2 ^ 33 = 8589934592 := by decide
  have p64 : 2 ^ 64 = 18446744073709551616 := by decide
  unfold kStep
  dsimp only
  rw [t, p31, p33, p64]
  unfold hStep hRot hIn
  exact Eq.refl _
theorem kFin_eq (a : Nat) : kFin 2 a = hFin a := by
  have p63 : 2 ^ 63 = 9223372036854775808 := by decide
  have p64 : 2 ^ 64 = 18446744073709551616 := by decide
  have pc : (2 ^^^ (2870177450012600261 ^^^ 3527539)) = 2870177450013471924 := by decide +kernel
  unfold kFin
  dsimp only
  rw [pc, p63, p64]
  unfold hFin
  exact Eq.refl _
theorem tupleHash_pair (i j : Nat) (hi : i < 64) (hj : j < 128) : Builtin.Tuple.tupleHashOf [(i : Int), (j : Int)] = hFin (hStep (hBeg i) j) := by
  rw [tupleHash_k, kStep_eq _ i (by omega), kStep_eq _ j hj, kFin_eq]
  exact Eq.refl _
end SP
namespace PySem
open Lean Elab Tactic Meta PySem PySem.Calls PyProof.Rows PyProof.V PySem.Spec
section
variable {prog : Program} {w : World} {K : Type} [DecidableEq K] {knd : HeapKind prog w K} {A : Around} {E : Value → Shared → Prop} {s : Shared}
/-- two dicts, the same keys and values -/
theorem SPsamePairsH {nm : String} {a b : Addr} {ka kb : List (K × Addr × Value)} {Q : Bool → Shared → Prop} (hu : knd.room A) (ha : (a == sysModules) = false) (hb : (b == sysModules) = false)
    (da : s.heap.DictOfH knd a ka) (db : s.heap.DictOfH knd b kb) (hl : ka.length = kb.length) (hits : ∀ x ∈ ka, ∃ (j : Nat) (p : Addr × Value), kb[j]? = some (x.1, p) ∧ SeqAt.EqAt A s x.2.2 p.2 true) (h : Q true s) :
    wpAny (model prog w) A (Builtin.Dict.samePairs nm a b) Q E s := by
  obtain ⟨oa, es, ep, hoa, _, hda, hea, hisa, hna⟩ := da
  obtain ⟨ob, es', ep', hob, _, hdb, heb, hisb, hnb⟩ := db
  have hla : ka.length = es.size := (size_of_entries hea).symm
  have hlb : kb.length = es'.size := (size_of_entries heb).symm
  unfold Builtin.Dict.samePairs Builtin.Dict.showsAll
  rw [if_neg (show ¬ (a == sysModules) = true by rw [ha]; exact Bool.false_ne_true), if_neg (show ¬ (b == sysModules) = true by rw [hb]; exact Bool.false_ne_true)]
  refine wpAny_bind (wpAny_pure (wpAny_bind (wpAny_pure ?_)))
  refine wpAny_bind (wpAny_dictEntries hoa hda ?_)
  dsimp only
  refine wpAny_bind (wpAny_dictEntries hob hdb ?_)
  have hsz : es.size = es'.size := by omega
  rw [if_neg (by rw [hsz]; simp)]
  refine wpAny_bind (wpAny_dictEpoch hoa hda ?_)
  refine wpAny_bind ?_
  rw [Std.Legacy.Range.forIn_eq_forIn_range']
  simp only [Std.Legacy.Range.size, Nat.sub_zero, Nat.add_sub_cancel, Nat.div_one]
  refine wpAny_forIn_list _
    (fun rest q s' => s' = s ∧ q = (none, ()) ∧ ∃ i, rest = List.range' i (es.size - i) ∧ i ≤ es.size)
    _ ?_ ?_ _ _ ⟨rfl, rfl, 0, by simp, Nat.zero_le _⟩
  · rintro x rest q s' ⟨rfl, rfl, i, hr, hi⟩
    have hlt : i < es.size := by
      rcases Nat.lt_or_ge i es.size with h | h
      · exact h
      · rw [Nat.sub_eq_zero_of_le h] at hr; simp at hr
    obtain ⟨rfl, hrest⟩ : x = i ∧ rest = List.range' (i + 1) (es.size - (i + 1)) := by
      have e : es.size - i = (es.size - (i + 1)) + 1 := by omega
      rw [e, List.range'_succ] at hr
      injection hr with h1 h2
      exact ⟨h1, h2⟩
    refine wpAny_bind (wpAny_dictEntries hoa hda ?_)
    have hlt' : x < ka.length := by rw [hla]; exact hlt
    obtain ⟨⟨k, c, v⟩, hkv⟩ : ∃ y, ka[x]? = some y := ⟨ka[x], List.getElem?_eq_getElem hlt'⟩
    have hex : es[x]? = some ⟨knd.hash k, .ref c, v⟩ := by rw [entry_at hea x, hkv]; rfl
    rw [hex]
    obtain ⟨j, p, hj, he⟩ := hits _ (List.mem_of_getElem? hkv)
    have hej : es'[j]? = some ⟨knd.hash k, .ref p.1, p.2⟩ := by rw [entry_at heb j, hj]; rfl
    show wpAny _ _ (holding [Value.ref c, v] _ >>= _) _ _ _
    refine wpAny_bind (wpAny_holding (wpAny_bind (wpAny_dictFind_heap hu (hisa _ (List.mem_of_getElem? hkv)) hob hdb heb hisb hnb ?_ ?_)))
    · intro hno
      exact absurd hj (hno j p)
    · intro j' p' hj'
      have hjj : j' = j := idxH_unique hnb hj' hj
      subst hjj
      have hpp : p' = p := by rw [hj] at hj'; cases hj'; rfl
      subst hpp
      refine wpAny_bind (wpAny_dictEntries hob hdb ?_)
      rw [hej]
      refine wpAny_holding (he prog w _ _ ?_)
      show wpAny _ _ (if (!true) = true then _ else _) _ _ _
      rw [if_neg (by decide)]
      refine wpAny_bind (wpAny_dictEpoch hoa hda ?_)
      rw [if_neg (by simp)]
      exact wpAny_pure ⟨rfl, rfl, x + 1, hrest, hlt⟩
  · rintro q s' ⟨rfl, rfl, i, hr, hi⟩
    exact wpAny_pure h
theorem SPkeq_neH {a b : Addr} {ka kb : List (K × Addr × Value)} {Q : Value → Shared → Prop} (hr : knd.room A.in1) (ha : (a == sysModules) = false) (hb : (b == sysModules) = false)
    (da : s.heap.DictOfH knd a ka) (db : s.heap.DictOfH knd b kb) (hu : A.units < cLine) (hl : ka.length = kb.length) (hits : ∀ x ∈ ka, ∃ (j : Nat) (p : Addr × Value), kb[j]? = some (x.1, p) ∧ SeqAt.EqAt A.in1 s x.2.2 p.2 true) (h : Q (.bool false) s) :
    wpAny (model prog w) A (compareOp .NotEq (.ref a) (.ref b)) Q E s := by
  refine wpAny_richCompare_same_room (op := .NotEq) da.typeIs db.typeIs PySem.F.slot_dict_ne (wpAny_call_entry PySem.F.slot_dict_ne da.typeIs PySem.F.entry_dict_ne ?_ (PySem.F.args_dict_ne_2 _ _)) hu
  show wpAny _ _ (Builtin.Dict.dictSlotArgs "__ne__" ⟨[.ref a, .ref b], []⟩ >>= _) _ _ s
  refine wpAny_bind ?_
  unfold Builtin.Dict.dictSlotArgs
  refine wpAny_bind (wpAny_notOrdered_dict da.typeIs ?_)
  show wpAny _ _ (pure (Value.ref a, Value.ref b)) _ _ s
  refine wpAny_pure ?_
  refine wpAny_bind (wpAny_isInstance (T := "dict") db.typeIs PySem.F.sub_dict_dict ?_)
  simp only [Bool.not_true, Bool.false_eq_true, if_false]
  refine wpAny_bind (wpAny_pure (wpAny_bind (wpAny_pure ?_)))
  refine wpAny_bind (SPsamePairsH hr ha hb da db hl hits ?_)
  refine wpAny_pure ⟨_, rfl, ?_, ?_⟩
  · exact fun x => nomatch x
  · simpa using h
/-- dict(d): keys that are tuples -/
theorem SPcall_dictH {o : Addr} {more : List (K × Addr × Value)} {Q : Value → Shared → Prop} (hu : knd.room A.in1.in1) (hoS : (o == sysModules) = false) (ho : s.heap.DictOfH knd o more) (hsz : more.length ≤ sizeLine)
    (hty : ∀ x ∈ more, s.TypeIs (.ref x.2.1) "tuple") (hap : (more.map fun x => knd.hash x.1).Nodup)
    (hst : ∀ h', (∀ b o, s.heap.get? b = some o → h'.get? b = some o) → ∀ x ∈ more, knd.is h' x.1 x.2.1)
    (h : ∀ h', h'.DictOfH knd s.heap.objs.size more → Heap.SameBut s.heap.objs.size (s.heap.push { cls := .type "dict", data := .dict #[] }) h' → Q (.ref s.heap.objs.size) { s with heap := h' }) :
    wpAny (model prog w) A (call (.type "dict") [.ref o]) Q E s := by
  refine callType_codes (Q₁ := fun obj s₁ => obj = .ref s.heap.objs.size ∧ s₁ = { s with heap := s.heap.push { cls := .type "dict", data := .dict #[] } }) F.kt_called_dict (F.kt_typeCall_dict_1 _) F.entry_dict_init (kt_code_dict_new _ ⟨rfl, rfl⟩) ?_
  rintro obj s₁ ⟨rfl, rfl⟩
  have hnew : (s.heap.push { cls := .type "dict", data := .dict #[] }).DictOfH knd s.heap.objs.size [] := Heap.DictOfH.new s.heap
  have hk : ∀ b o, s.heap.get? b = some o → (s.heap.push { cls := .type "dict", data := .dict #[] }).get? b = some o := fun b o e => Heap.get?_push_of_some _ e
  have ho' : (s.heap.push { cls := .type "dict", data := .dict #[] }).DictOfH knd o more := ho.at' (fun _ e => hk _ _ e) (hst _ hk)
  have hn : (more.map (·.1)).Nodup := ho.nodup
  have hdo : s.heap.objs.size ≠ o := fun e => absurd ho.lt_size (by rw [e]; exact Nat.lt_irrefl _)
  refine ⟨hnew.typeIs, F.args_dict_init_2 _ _, ?_⟩
  unfold Builtin.«dict.__init__»
  refine wpAny_bind ?_
  unfold Builtin.Dict.selfAndRest
  refine wpAny_bind (wpAny_notOrdered_dict hnew.typeIs ?_)
  show wpAny _ _ (pure (s.heap.objs.size, [Value.ref o])) _ _ _
  refine wpAny_pure ?_
  show wpAny _ _ (Builtin.Dict.updateFrom "dict.__init__" s.heap.objs.size (.ref o) [] .none) _ _ _
  unfold Builtin.Dict.updateFrom
  refine wpAny_bind (wpAny_typeOf ho'.typeIs ?_)
  rw [if_neg (by decide)]
  refine wpAny_bind ?_
  unfold Builtin.Dict.merge
  refine wpAny_bind ?_
  unfold Builtin.Dict.readDirectly
  refine wpAny_bind (wpAny_isInstance ho'.typeIs isSubtype_dict_dict ?_)
  simp only [Bool.not_true, Bool.false_eq_true, if_false]
  refine wpAny_bind (wpAny_specialOf ho'.typeIs F.slot_dict_iter.lookup (wpAny_pure ?_))
  simp only [beq_self_eq_true, if_true]
  refine wpAny_bind (wpAny_pure ?_)
  refine wpAny_mergeDict_heap (hsz := by simpa using hsz) hu hdo hoS hnew ho' (.inr ⟨fun x hx => ?_, hap⟩) fun h' hd' _ hs' => ?_
  · obtain ⟨oo, e, hc⟩ := (hty x hx)
    exact ⟨oo, hk _ _ e, hc⟩
  show wpAny _ _ (Builtin.Dict.addKeywords s.heap.objs.size [] >>= _) _ _ _
  rw [storedAllH_nil_of_nodup more hn] at hd'
  exact wpAny_bind (wpAny_pure (wpAny_pure ⟨rfl, h h' hd' hs'⟩))
end
end PySem

/-! SPj: dict(d), d != e of dicts whose keys are pairs. -/
namespace SP
open PySem L2
/-! ### keys -/
def pairK : List Key → Bool
  | [.inl i, .inl j] => decide (0 ≤ i) && decide (i < 64) && (decide (0 ≤ j) && decide (j < 128))
  | _ => false
theorem pairK_shape {k : List Key} (h : pairK k = true) : ∃ i j : Nat, i < 64 ∧ j < 128 ∧ k = [.inl (i : Int), .inl (j : Int)] := by
  unfold pairK at h
  split at h
  · rename_i i j
    simp only [Bool.and_eq_true, decide_eq_true_eq] at h
    refine ⟨i.toNat, j.toNat, by omega, by omega, ?_⟩
    rw [Int.toNat_of_nonneg (by omega), Int.toNat_of_nonneg (by omega)]
  · cases h
theorem rawHash_nat (i : Nat) (h : i < 1000) : hashInt (i : Int) = (i : Int) := by
  have e : ((Int.natAbs (i : Int) : Nat) : Int) % ((2 ^ 61 - 1 : Nat) : Int) = (i : Int) := by
    have : ((2 ^ 61 - 1 : Nat) : Int) = 2305843009213693951 := by decide
    rw [this, Int.natAbs_natCast]
    omega
  have n1 : ¬ ((i : Int) < 0) := by omega
  have n2 : ((i : Int) == -1) = false := by
    rw [beq_eq_false_iff_ne]; omega
  have r : rawHash (i : Int) = (i : Int) := by
    unfold rawHash
    dsimp only
    simp only [e, n1, n2, if_false, Bool.false_eq_true]
  unfold hashInt
  simp only [r, n2, if_false, Bool.false_eq_true]
theorem reduce_id {h : Int} (h1 : -9223372036854775808 ≤ h) (h2 : h < 9223372036854775808) (h3 : h ≠ -1) : reduceHash h = h := by
  unfold reduceHash
  have e : (2 : Int) ^ 63 = 9223372036854775808 := by decide
  have n2 : (h == -1) = false := by rw [beq_eq_false_iff_ne]; exact h3
  rw [e, if_pos (by simp only [Bool.and_eq_true, decide_eq_true_eq]; exact ⟨h1, h2⟩), n2]
  rfl
theorem hFin_range {a : Nat} (na : a < 18446744073709551616) : -9223372036854775808 ≤ hFin a ∧ hFin a < 9223372036854775808 ∧ hFin a ≠ -1 := by
  unfold hFin
  simp only [beq_iff_eq]
  split
  · decide
  · split <;> omega
theorem pairHash {P : Program} {w : World} (i j : Nat) (hi : i < 64) (hj : j < 128) : tupleKeyHash (mixKind P w) [.inl (i : Int), .inl (j : Int)] = hFin (hStep (hBeg i) j) := by
  unfold tupleKeyHash
  have e : ([.inl (i : Int), .inl (j : Int)] : List Key).map (mixKind P w).hash = [(i : Int), (j : Int)] := by
    show [hashInt (i : Int), hashInt (j : Int)] = _
    rw [rawHash_nat i (by omega), rawHash_nat j (by omega)]
  rw [e, tupleHash_pair i j hi hj]
  obtain ⟨h1, h2, h3⟩ := hFin_range (hStep_lt (hBeg i) j)
  exact reduce_id h1 h2 h3
theorem pairHash_inj {P : Program} {w : World} {k l : List Key} (hk : pairK k = true) (hl : pairK l = true) (e : tupleKeyHash (mixKind P w) k = tupleKeyHash (mixKind P w) l) : k = l := by
  obtain ⟨i, j, hi, hj, rfl⟩ := pairK_shape hk
  obtain ⟨a, b, ha, hb, rfl⟩ := pairK_shape hl
  rw [pairHash i j hi hj, pairHash a b ha hb] at e
  have q := hFin_inj (hStep_lt _ _) (hStep_lt _ _) (hNot hi hj) (hNot ha hb) e
  obtain ⟨e1, e2⟩ := hPair_inj hi hj ha hb q
  rw [e1, e2]
theorem hashes_apart {P : Program} {w : World} : ∀ {xs : List (List Key × Addr × Value)}, (xs.map (·.1)).Nodup → (∀ x ∈ xs, pairK x.1 = true) → (xs.map fun x => (tupleKind (mixKind P w)).hash x.1).Nodup
  | [], _, _ => List.nodup_nil
  | x :: r, hn, hp => by
    rw [List.map_cons, List.nodup_cons] at hn
    rw [List.map_cons, List.nodup_cons]
    refine ⟨fun hm => ?_, hashes_apart hn.2 fun y hy => hp y (List.mem_cons_of_mem _ hy)⟩
    obtain ⟨y, hy, e⟩ := List.mem_map.mp hm
    have := pairHash_inj (hp y (List.mem_cons_of_mem _ hy)) (hp x List.mem_cons_self) e
    exact hn.1 (List.mem_map.mpr ⟨y, hy, this⟩)
theorem tk_keep {P : Program} {w : World} {h h' : Heap} {ks : List Key} {a : Addr} (x : (tupleKind (mixKind P w)).is h ks a) (e : ∀ b o, h.get? b = some o → h'.get? b = some o) : (tupleKind (mixKind P w)).is h' ks a :=
  let ⟨o, items, n, ho, r⟩ := x; ⟨o, items, n, e _ _ ho, r⟩
theorem kt_keys {H : Hp} {kvs : List (List Key × V)} {xs : List (List Key × Addr × Value)} (r : KT H kvs xs) : ∀ x ∈ xs, ∃ p ∈ kvs, p.1 = x.1 := by
  unfold KT at r
  induction r with
  | nil => intro x hx; cases hx
  | @cons p q ps qs h t ih =>
    intro x hx
    rcases List.mem_cons.mp hx with rfl | hx
    · exact ⟨p, List.mem_cons_self, h.1⟩
    · obtain ⟨p', hp', e⟩ := ih x hx
      exact ⟨p', List.mem_cons_of_mem _ hp', e⟩
section
variable {X : Cx}
theorem call_dictT (hu : X.A.units + 64 < cLine) : CallR X (.type "dict") (fun xs H Q => ∃ (a : Addr) (kvs : List (List Key × V)), xs = [.ref a] ∧ Rd H a (.dT kvs) ∧ (∀ p ∈ kvs, pairK p.1 = true) ∧ ∀ p, H p = none → Q (.ref p) (upd H p (.dT kvs))) := by
  intro pins s σ H xs us Q I r q
  obtain ⟨a, kvs, ex, hd, hp, q⟩ := q
  subst ex
  obtain ⟨u, eu, rx⟩ := vals1 r
  subst eu
  cases rx
  obtain ⟨z, lo, ks, rel, dd⟩ := dt_rd I.hok hd
  have hpk : ∀ x ∈ ks, pairK x.1 = true := fun x hx => by
    obtain ⟨p, hp', e⟩ := kt_keys rel x hx
    rw [← e]; exact hp p hp'
  have hz : ks.length ≤ sizeLine := by rw [← Paired.length rel]; exact z
  have his : ∀ x ∈ ks, (tupleKind (mixKind X.prog X.w)).is s.heap x.1 x.2.1 := let ⟨_, _, _, _, _, _, _, his, _⟩ := dd; his
  have hr : (tupleKind (mixKind X.prog X.w)).room X.A.in1.in1 := tupleKind_room_in1 (by show X.A.units + 1 + 1 < cLine; omega)
  refine SPcall_dictH (s := s) hr lo dd hz (fun x hx => ?_) (hashes_apart dd.nodup hpk) (fun h' hk x hx => tk_keep (his x hx) hk) fun h' d' hs => ?_
  · obtain ⟨o, items, n, ho, hc, _⟩ := his x hx
    exact ⟨o, ho, hc⟩
  have hm : (s.heap.objs.size == sysModules) = false := beq_eq_false_iff_ne.mpr (Nat.ne_of_gt I.big)
  have fr := I.hok.fresh (Nat.le_refl s.heap.objs.size)
  refine ⟨.ref s.heap.objs.size, upd H s.heap.objs.size (.dT kvs), I.laid (t' := s.toks) (fun b u e => (hs.2 b (Nat.ne_of_lt (Heap.lt_size e))).trans (Heap.get?_push_of_some _ e)) (Nat.le_refl _) ?_, rfl, q _ fr⟩
  obtain ⟨o, es, ep, g1, g2, g3, g4, _, g5⟩ := d'
  refine (show ObjOk X.prog X.w _ _ _ (.dT kvs) from ⟨z, hm, ks, KT.keeps rel fun b ys e => ?_, o, es, ep, g1, g2, g3, g4, g5⟩)
  have hne : b ≠ s.heap.objs.size := fun e2 => by rw [e2, fr] at e; cases e
  rw [upd_ne hne]; exact e
theorem op_neT (hu : X.A.units + 64 < cLine) : OpR X (compareOp .NotEq) (fun x y H Q => ∃ a b kvs, x = .ref a ∧ y = .ref b ∧ Rd H a (.dT kvs) ∧ Rd H b (.dT kvs) ∧ (∀ p ∈ kvs, flatB p.2 = true) ∧ Q (.bl false) H) := by
  intro pins s σ H x y v u Q I rx ry h
  obtain ⟨a, b, kvs, rfl, rfl, ea, eb, fl, q⟩ := h
  obtain rfl : v = Value.ref a := rx
  obtain rfl : u = Value.ref b := ry
  obtain ⟨_, la, xa, ra, da⟩ := dt_rd I.hok ea
  obtain ⟨_, lb, xb, rb, db⟩ := dt_rd I.hok eb
  refine SPkeq_neH (knd := tupleKind (mixKind X.prog X.w)) (tupleKind_room_in1 (by omega)) la lb da db (by omega) (by rw [← Paired.length ra, ← Paired.length rb]) ?_ (fin_bl I q rfl)
  have go : ∀ {l : List (List Key × V)} {m n : List (List Key × Addr × Value)}, KT H l m → KT H l n → (∀ p ∈ l, flatB p.2 = true) → ∀ x ∈ m, ∃ (j : Nat) (p : Addr × Value), n[j]? = some (x.1, p) ∧ SeqAt.EqAt X.A.in1 s x.2.2 p.2 true := by
    intro l m n r1
    induction r1 generalizing n with
    | nil => intro _ _ x hx; cases hx
    | @cons p q ps qs h t ih =>
      intro r2 f x hx
      cases r2 with
      | @cons _ q2 _ qs2 h2 t2 =>
        rcases List.mem_cons.mp hx with rfl | hx
        · refine ⟨0, q2.2, ?_, eqAt_same h.2.2 h2.2.2 (f p List.mem_cons_self)⟩
          show some q2 = some (x.1, q2.2)
          rw [← h.1, h2.1]
        · obtain ⟨j, p', e1, e2⟩ := ih t2 (fun p' hm => f p' (List.mem_cons_of_mem _ hm)) x hx
          exact ⟨j + 1, p', e1, e2⟩
  exact go ra rb fl
end
/-! ### in the layer -/
def fDict : Sv → Mu → R Cell := fun a μ => match look μ a with
  | some (.dk kvs) => .ok (.dk kvs) μ
  | some (.dt kvs) => if kvs.all (fun p => pairK p.1) then .ok (.dt kvs) μ else .no
  | _ => .no
def strsT : List (List Key × SP.D) → Option (List (List Key × Str))
  | [] => some []
  | (k, .str s) :: r => (strsT r).map ((k, s) :: ·)
  | _ => none
def gNeT : SP.D → SP.D → Option SP.D
  | .dt a, .dt b => match strsT a, strsT b with
    | some x, some y => if x = y then some (.bl false) else none
    | _, _ => none
  | _, _ => none
theorem strsT_ok {K : PySem.W.Frag} {G : Hp} : ∀ {ds : List (List Key × SP.D)} {l : List (List Key × Str)} {vs : List (List Key × V)}, strsT ds = some l → RepT K G vs ds → vs = l.map fun p => (p.1, V.str p.2)
  | [], l, _, e, .nil => by simp only [strsT] at e; cases e; rfl
  | (k, .str s) :: r, l, _, e, .cons h t => by
    simp only [strsT] at e
    cases q : strsT r with
    | none => rw [q] at e; cases e
    | some m =>
      rw [q] at e
      cases e
      cases h
      rw [strsT_ok q t]; rfl
  | (_, .non) :: _, _, _, e, _ => by simp [strsT] at e
  | (_, .bl _) :: _, _, _, e, _ => by simp [strsT] at e
  | (_, .int _) :: _, _, _, e, _ => by simp [strsT] at e
  | (_, .tup _) :: _, _, _, e, _ => by simp [strsT] at e
  | (_, .lst _) :: _, _, _, e, _ => by simp [strsT] at e
  | (_, .dk _) :: _, _, _, e, _ => by simp [strsT] at e
  | (_, .dt _) :: _, _, _, e, _ => by simp [strsT] at e
  | (_, .scr _) :: _, _, _, e, _ => by simp [strsT] at e
theorem rept_keys {K : PySem.W.Frag} {G : Hp} : ∀ {vs : List (List Key × V)} {ds : List (List Key × SP.D)}, RepT K G vs ds → ∀ p ∈ vs, ∃ q ∈ ds, q.1 = p.1
  | _, _, .nil, p, hp => by cases hp
  | _, _, .cons h t, p, hp => by
    rcases List.mem_cons.mp hp with rfl | hp
    · exact ⟨_, List.mem_cons_self, rfl⟩
    · obtain ⟨q, hq, e⟩ := rept_keys t p hp
      exact ⟨q, List.mem_cons_of_mem _ hq, e⟩
section
variable {X : Cx} {Γ : Gm} {W : WX}
theorem pr_dict : PrF Γ fDict fun x H Q => (∃ (a : Addr) (kvs : List (Key × V)), [x] = [V.ref a] ∧ Rd H a (.dK kvs) ∧ ∀ p, H p = none → Q (.ref p) (upd H p (.dK kvs))) ∨ (∃ (a : Addr) (kvs : List (List Key × V)), [x] = [V.ref a] ∧ Rd H a (.dT kvs) ∧ (∀ p ∈ kvs, pairK p.1 = true) ∧ ∀ p, H p = none → Q (.ref p) (upd H p (.dT kvs))) := by
  intro E G cs μ H x sa Q m ra p
  unfold fDict at p
  cases e : look μ sa with
  | none => rw [e] at p; exact p.elim
  | some d =>
    rw [e] at p
    have r := look_L m ra e
    cases r with
    | dk h n r => exact .inl ⟨_, _, rfl, .inl h, fun l hl => p.lay m hl _ fun gp _ => ⟨gp, n, _, upd_same, r⟩⟩
    | dt h n r =>
      dsimp only at p
      split at p
      · rename_i c
        refine .inr ⟨_, _, rfl, .inl h, fun q hq => ?_, fun l hl => p.lay m hl _ fun gp _ => ⟨gp, n, _, upd_same, r⟩⟩
        obtain ⟨k, hk, e⟩ := rept_keys r q hq
        rw [← e]
        exact List.all_eq_true.mp c k hk
      · exact p.elim
    | lst h n r => exact p.elim
    | tup h n r => exact p.elim
    | non => exact p.elim
    | bl b => exact p.elim
    | int i => exact p.elim
    | str s h => exact p.elim
    | scr h n => exact p.elim
theorem d_dict {p : Pos} {e : Expr} {pos : Pos} {f : Ev} (hu : X.A.units + 64 < cLine) (hm : X.mg "dict" = none) (ha : PE X e (wE Γ W f)) (hg : Gl X "dict" := by rfl) (he : starEach (e :: []) X.env = (false, eval e X.env) :: starEach [] X.env := by rfl) (hpl : (backTo pos (starEach [] X.env)).any (·.1) = false := by rfl) :
    PE X (.Call (.Name "dict" p) [e] [] pos) (wF Γ W (dOpF fDict f)) := d_t1F (cr_or call_dictD (call_dictT hu)) pr_dict hm PyProof.Rows.boot_dict ha hg (he := he) (hpl := hpl)
theorem pr_neT : Pr2 Γ (p2 gNeT) (fun x y H Q => ∃ a b kvs, x = .ref a ∧ y = .ref b ∧ Rd H a (.dT kvs) ∧ Rd H b (.dT kvs) ∧ (∀ p ∈ kvs, flatB p.2 = true) ∧ Q (.bl false) H) := pr2_pure fun G H x y d e q Q s rx ry hq k => by
  unfold gNeT at hq
  split at hq
  · rename_i xs ys
    cases ex : strsT xs with
    | none => rw [ex] at hq; cases hq
    | some l =>
      cases ey : strsT ys with
      | none => rw [ex, ey] at hq; cases hq
      | some l2 =>
        rw [ex, ey] at hq
        dsimp only at hq
        split at hq
        · rename_i c
          subst c
          cases hq
          cases rx with
          | dt h n r =>
            cases ry with
            | dt h2 n2 r2 =>
              have e1 := strsT_ok ex r
              have e2 := strsT_ok ey r2
              subst e1
              subst e2
              refine ⟨_, _, _, rfl, rfl, .inl h, .inl h2, fun p hp => ?_, k _ (.bl _)⟩
              obtain ⟨q, _, rfl⟩ := List.mem_map.mp hp
              rfl
        · cases hq
  · cases hq
variable {a b : Expr} {pos : Pos} {fa fb : Ev}
theorem d_neT (hu : X.A.units + 64 < cLine) (ha : PE X a (wE Γ W fa)) (hb : PE X b (wE Γ W fb)) : PE X (.Compare a [.NotEq] [b] pos) (wE Γ W (dOp2 (p2 gNeT) fa fb)) := d_cmpr (op_neT hu) pr_neT ha hb (nomark _)
theorem t_neT (hu : X.A.units + 64 < cLine) (ha : PE X a (wE Γ W fa)) (hb : PE X b (wE Γ W fb)) : PT X (.Compare a [.NotEq] [b] pos) (wT Γ W (dTest (dOp2 (p2 gNeT) fa fb))) := d_tcmp (op_neT hu) pr_neT ha hb (nomark _)
end
end SP

/-! SPz: the end. -/
namespace SP
open PySem L2
def fuel : Nat := 5000
/-- what is known of an own class of errors, without own methods -/
structure Xc (K : PySem.W.Frag) (mg : Str → Option Value) (x : Str) (C : Addr) : Prop where
  g : mg x = some (.ref C)
  q : PySem.W.excIn K C [.type "ValueError", .type "Exception", .type "BaseException", .type "object"] "ValueError.__new__" = true
  k : PySem.W.keepIn K (.ref C) = true
  b : PySem.W.subIn K (.ref C) (.type "BaseException") = some true
  t : PySem.W.typeIn K (.ref C) = some (.type "type")
/-- law's: a list of at most 63 ints is handed in, True comes out -/
def spLaw (K : PySem.W.Frag) : Sp := fun vs H Q _ => ∃ (a : Addr) (ns : List Int), vs = [.ref a] ∧ SqL K H a (ns.map V.int) ∧ ns.length ≤ 63 ∧ ∀ H', Q (.bl true) H'
theorem sp_law {Γ : Gm} {F : List Sv → Mu → R Sv} {vs : List V} {H : Hp} {Q : VK} {E : XK} (h : spLaw Γ.K vs H Q E) (t : ∀ ns : List Int, ns.length ≤ 63 → ∃ μ, F [.im (.scr ns)] [] = .ok (.im (.bl true)) μ) : spOf Γ 1 F vs H Q E := by
  obtain ⟨a, ns, rfl, hS, hl, k⟩ := h
  obtain ⟨μ, e⟩ := t ns hl
  refine ⟨rfl, H, [], [.im (.scr ns)], [], ⟨.refl _, rfl, List.nodup_nil, fun n a c e1 _ => by simp at e1⟩, .cons (Rep.scr hS (Nat.le_trans hl (by decide))) .nil, ?_⟩
  rw [e]
  intro G' cs' H' v _ _ r
  have r : Rep Γ.K G' v (.bl true) := r
  cases r
  exact k _
end SP

/-! SPm: reckoning with the evaluators. -/
namespace SP
open PySem L2
/-! ### the combinators' equations: the first part is reckoned, the rest stands still until it is its turn -/
def O.seq (g : EvS) : O → O
  | .nx ρ μ => g ρ μ
  | .rt v μ => .rt v μ
  | .bk ρ μ => .bk ρ μ
  | .ct ρ μ => .ct ρ μ
  | .ex c ρ μ => .ex c ρ μ
  | .no => .no
@[simp] theorem sSeq_eq (f g : EvS) (ρ : Rho) (μ : Mu) : sSeq f g ρ μ = (f ρ μ).seq g := by unfold sSeq; cases f ρ μ <;> rfl
@[simp] theorem seq_nx (g : EvS) (ρ : Rho) (μ : Mu) : (O.nx ρ μ).seq g = g ρ μ := rfl
@[simp] theorem seq_rt (g : EvS) (v : Sv) (μ : Mu) : (O.rt v μ).seq g = .rt v μ := rfl
@[simp] theorem seq_bk (g : EvS) (ρ : Rho) (μ : Mu) : (O.bk ρ μ).seq g = .bk ρ μ := rfl
@[simp] theorem seq_ct (g : EvS) (ρ : Rho) (μ : Mu) : (O.ct ρ μ).seq g = .ct ρ μ := rfl
@[simp] theorem seq_ex (g : EvS) (c : Xn) (ρ : Rho) (μ : Mu) : (O.ex c ρ μ).seq g = .ex c ρ μ := rfl
@[simp] theorem seq_no (g : EvS) : O.no.seq g = .no := rfl
@[simp] theorem sNext_eq (ρ : Rho) (μ : Mu) : sNext ρ μ = .nx ρ μ := rfl
@[simp] theorem sRaise_eq (c : Xn) (ρ : Rho) (μ : Mu) : sRaise c ρ μ = .ex c ρ μ := rfl
@[simp] theorem dC_eq (d : D) (ρ : Rho) (μ : Mu) : dC d ρ μ = .ok (.im d) μ := rfl
@[simp] theorem dANil_eq (ρ : Rho) (μ : Mu) : dANil ρ μ = .ok [] μ := rfl
@[simp] theorem dYes_eq (ρ : Rho) (μ : Mu) : dYes ρ μ = .ok true μ := rfl
@[simp] theorem dDk_eq (ρ : Rho) (μ : Mu) : dDk ρ μ = .ok (.dk []) μ := rfl
@[simp] theorem dDt_eq (ρ : Rho) (μ : Mu) : dDt ρ μ = .ok (.dt []) μ := rfl
@[simp] theorem bind_ok {α β : Type} (a : α) (μ : Mu) (k : α → Mu → R β) : (R.ok a μ).bind k = k a μ := rfl
@[simp] theorem bind_ex {α β : Type} (c : Xn) (μ : Mu) (k : α → Mu → R β) : (R.ex c μ).bind k = .ex c μ := rfl
@[simp] theorem bind_no {α β : Type} (k : α → Mu → R β) : R.no.bind k = .no := rfl
@[simp] theorem quiet_ok {α : Type} (a : α) (μ : Mu) : (R.ok a μ).quiet = .ok a μ := rfl
def rv (μ : Mu) : Option (Option Sv) → R Sv
  | some (some v) => .ok v μ
  | _ => .no
@[simp] theorem dVar_eq (i : Nat) (ρ : Rho) (μ : Mu) : dVar i ρ μ = rv μ ρ[i]? := rfl
@[simp] theorem rv_ok (μ : Mu) (v : Sv) : rv μ (some (some v)) = .ok v μ := rfl

def R.asg (i : Nat) (ρ : Rho) : R Sv → O
  | .ok v μ => .nx (ρ.set i (some v)) μ
  | .ex c μ => .ex c ρ μ
  | .no => .no
@[simp] theorem sAsg_eq (i : Nat) (f : Ev) (ρ : Rho) (μ : Mu) : sAsg i f ρ μ = (f ρ μ).asg i ρ := by unfold sAsg sE; cases f ρ μ <;> rfl
@[simp] theorem asg_ok (i : Nat) (ρ : Rho) (v : Sv) (μ : Mu) : (R.ok v μ).asg i ρ = .nx (ρ.set i (some v)) μ := rfl
@[simp] theorem asg_ex (i : Nat) (ρ : Rho) (c : Xn) (μ : Mu) : (R.ex c μ).asg i ρ = .ex c ρ μ := rfl
def R.drp (ρ : Rho) : R Sv → O
  | .ok v μ => .nx ρ μ
  | .ex c μ => .ex c ρ μ
  | .no => .no
@[simp] theorem sDrop_eq (f : Ev) (ρ : Rho) (μ : Mu) : sDrop f ρ μ = (f ρ μ).drp ρ := by unfold sDrop sE; cases f ρ μ <;> rfl
@[simp] theorem drp_ok (ρ : Rho) (v : Sv) (μ : Mu) : (R.ok v μ).drp ρ = .nx ρ μ := rfl
@[simp] theorem drp_ex (ρ : Rho) (c : Xn) (μ : Mu) : (R.ex c μ).drp ρ = .ex c ρ μ := rfl
def R.ret (ρ : Rho) : R Sv → O
  | .ok v μ => .rt v μ
  | .ex c μ => .ex c ρ μ
  | .no => .no
@[simp] theorem sRet_eq (f : Ev) (ρ : Rho) (μ : Mu) : sRet f ρ μ = (f ρ μ).ret ρ := by unfold sRet sE; cases f ρ μ <;> rfl
@[simp] theorem ret_ok (ρ : Rho) (v : Sv) (μ : Mu) : (R.ok v μ).ret ρ = .rt v μ := rfl
@[simp] theorem ret_ex (ρ : Rho) (c : Xn) (μ : Mu) : (R.ex c μ).ret ρ = .ex c ρ μ := rfl
@[simp] theorem sRetN_eq (ρ : Rho) (μ : Mu) : sRetN ρ μ = .rt (.im .non) μ := rfl
def R.iff (f g : EvS) (ρ : Rho) : R Bool → O
  | .ok b μ => if b then f ρ μ else g ρ μ
  | .ex c μ => .ex c ρ μ
  | .no => .no
@[simp] theorem sIf_eq (c : EvT) (f g : EvS) (ρ : Rho) (μ : Mu) : sIf c f g ρ μ = (c ρ μ).iff f g ρ := by unfold sIf; cases c ρ μ <;> rfl
@[simp] theorem iff_true (f g : EvS) (ρ : Rho) (μ : Mu) : (R.ok true μ).iff f g ρ = f ρ μ := rfl
@[simp] theorem iff_false (f g : EvS) (ρ : Rho) (μ : Mu) : (R.ok false μ).iff f g ρ = g ρ μ := rfl
@[simp] theorem iff_ok (f g : EvS) (ρ : Rho) (b : Bool) (μ : Mu) : (R.ok b μ).iff f g ρ = if b = true then f ρ μ else g ρ μ := rfl
@[simp] theorem iff_ex (f g : EvS) (ρ : Rho) (c : Xn) (μ : Mu) : (R.ex c μ).iff f g ρ = .ex c ρ μ := rfl
@[simp] theorem dOp1_eq (p : Sv → Mu → R Sv) (f : Ev) (ρ : Rho) (μ : Mu) : dOp1 p f ρ μ = (f ρ μ).bind p := rfl
@[simp] theorem dOpF_eq (p : Sv → Mu → R Cell) (f : Ev) (ρ : Rho) (μ : Mu) : dOpF p f ρ μ = (f ρ μ).bind p := rfl
def R.k2 (p : Sv → Sv → Mu → R Sv) (fb : Ev) (ρ : Rho) : R Sv → R Sv
  | .ok a μ => (fb ρ μ).bind (p a)
  | .ex c μ => .ex c μ
  | .no => .no
@[simp] theorem dOp2_eq (p : Sv → Sv → Mu → R Sv) (fa fb : Ev) (ρ : Rho) (μ : Mu) : dOp2 p fa fb ρ μ = (fa ρ μ).k2 p fb ρ := by unfold dOp2; cases fa ρ μ <;> rfl
@[simp] theorem k2_ok (p : Sv → Sv → Mu → R Sv) (fb : Ev) (ρ : Rho) (a : Sv) (μ : Mu) : (R.ok a μ).k2 p fb ρ = (fb ρ μ).bind (p a) := rfl
@[simp] theorem k2_ex (p : Sv → Sv → Mu → R Sv) (fb : Ev) (ρ : Rho) (c : Xn) (μ : Mu) : (R.ex c μ).k2 p fb ρ = .ex c μ := rfl
def R.tst : R Sv → R Bool
  | .ok (.im (.bl b)) μ => .ok b μ
  | .ex c μ => .ex c μ
  | _ => .no
@[simp] theorem dTest_eq (f : Ev) (ρ : Rho) (μ : Mu) : dTest f ρ μ = (f ρ μ).tst := by
  unfold dTest
  cases f ρ μ with
  | ok v μ1 =>
    cases v with
    | im d => cases d <;> rfl
    | rf n => rfl
  | ex c μ1 => rfl
  | no => rfl
@[simp] theorem tst_ok (b : Bool) (μ : Mu) : (R.ok (.im (.bl b)) μ).tst = .ok b μ := rfl
@[simp] theorem tst_ex (c : Xn) (μ : Mu) : (R.ex c μ : R Sv).tst = .ex c μ := rfl
def R.andT (g : EvT) (ρ : Rho) : R Bool → R Bool
  | .ok b μ => if b then g ρ μ else .ok false μ
  | .ex c μ => .ex c μ
  | .no => .no
@[simp] theorem dAndT_eq (f g : EvT) (ρ : Rho) (μ : Mu) : dAndT f g ρ μ = (f ρ μ).andT g ρ := by unfold dAndT; cases f ρ μ <;> rfl
@[simp] theorem andT_true (g : EvT) (ρ : Rho) (μ : Mu) : (R.ok true μ).andT g ρ = g ρ μ := rfl
@[simp] theorem andT_false (g : EvT) (ρ : Rho) (μ : Mu) : (R.ok false μ).andT g ρ = .ok false μ := rfl
@[simp] theorem andT_ok (g : EvT) (ρ : Rho) (b : Bool) (μ : Mu) : (R.ok b μ).andT g ρ = if b = true then g ρ μ else .ok false μ := rfl
def R.orT (g : EvT) (ρ : Rho) : R Bool → R Bool
  | .ok b μ => if b then .ok true μ else g ρ μ
  | .ex c μ => .ex c μ
  | .no => .no
@[simp] theorem dOrT_eq (f g : EvT) (ρ : Rho) (μ : Mu) : dOrT f g ρ μ = (f ρ μ).orT g ρ := by unfold dOrT; cases f ρ μ <;> rfl
@[simp] theorem orT_true (g : EvT) (ρ : Rho) (μ : Mu) : (R.ok true μ).orT g ρ = .ok true μ := rfl
@[simp] theorem orT_false (g : EvT) (ρ : Rho) (μ : Mu) : (R.ok false μ).orT g ρ = g ρ μ := rfl
@[simp] theorem orT_ok (g : EvT) (ρ : Rho) (b : Bool) (μ : Mu) : (R.ok b μ).orT g ρ = if b = true then .ok true μ else g ρ μ := rfl
def R.notT : R Bool → R Bool
  | .ok b μ => .ok (!b) μ
  | .ex c μ => .ex c μ
  | .no => .no
@[simp] theorem dNotT_eq (f : EvT) (ρ : Rho) (μ : Mu) : dNotT f ρ μ = (f ρ μ).notT := by unfold dNotT; cases f ρ μ <;> rfl
@[simp] theorem notT_ok (b : Bool) (μ : Mu) : (R.ok b μ).notT = .ok (!b) μ := rfl
def R.andV (g : Ev) (ρ : Rho) : R Sv → R Sv
  | .ok (.im (.bl true)) μ => g ρ μ
  | .ok (.im (.bl false)) μ => .ok (.im (.bl false)) μ
  | .ex c μ => .ex c μ
  | _ => .no
@[simp] theorem dAnd_eq (f g : Ev) (ρ : Rho) (μ : Mu) : dAnd f g ρ μ = (f ρ μ).andV g ρ := by
  unfold dAnd
  cases f ρ μ with
  | ok v μ1 =>
    cases v with
    | im d => cases d <;> first | rfl | (rename_i b; cases b <;> rfl)
    | rf n => rfl
  | ex c μ1 => rfl
  | no => rfl
@[simp] theorem andV_true (g : Ev) (ρ : Rho) (μ : Mu) : (R.ok (.im (.bl true)) μ).andV g ρ = g ρ μ := rfl
@[simp] theorem andV_false (g : Ev) (ρ : Rho) (μ : Mu) : (R.ok (.im (.bl false)) μ).andV g ρ = .ok (.im (.bl false)) μ := rfl
@[simp] theorem andV_ok (g : Ev) (ρ : Rho) (b : Bool) (μ : Mu) : (R.ok (.im (.bl b)) μ).andV g ρ = if b = true then g ρ μ else .ok (.im (.bl false)) μ := by cases b <;> rfl
def R.orV (g : Ev) (ρ : Rho) : R Sv → R Sv
  | .ok (.im (.bl false)) μ => g ρ μ
  | .ok (.im (.bl true)) μ => .ok (.im (.bl true)) μ
  | .ex c μ => .ex c μ
  | _ => .no
@[simp] theorem dOr_eq (f g : Ev) (ρ : Rho) (μ : Mu) : dOr f g ρ μ = (f ρ μ).orV g ρ := by
  unfold dOr
  cases f ρ μ with
  | ok v μ1 =>
    cases v with
    | im d => cases d <;> first | rfl | (rename_i b; cases b <;> rfl)
    | rf n => rfl
  | ex c μ1 => rfl
  | no => rfl
@[simp] theorem orV_true (g : Ev) (ρ : Rho) (μ : Mu) : (R.ok (.im (.bl true)) μ).orV g ρ = .ok (.im (.bl true)) μ := rfl
@[simp] theorem orV_false (g : Ev) (ρ : Rho) (μ : Mu) : (R.ok (.im (.bl false)) μ).orV g ρ = g ρ μ := rfl
@[simp] theorem orV_ok (g : Ev) (ρ : Rho) (b : Bool) (μ : Mu) : (R.ok (.im (.bl b)) μ).orV g ρ = if b = true then .ok (.im (.bl true)) μ else g ρ μ := by cases b <;> rfl
def R.ife (f g : Ev) (ρ : Rho) : R Bool → R Sv
  | .ok b μ => if b then f ρ μ else g ρ μ
  | .ex c μ => .ex c μ
  | .no => .no
@[simp] theorem dIfE_eq (c : EvT) (f g : Ev) (ρ : Rho) (μ : Mu) : dIfE c f g ρ μ = (c ρ μ).ife f g ρ := by unfold dIfE; cases c ρ μ <;> rfl
@[simp] theorem ife_true (f g : Ev) (ρ : Rho) (μ : Mu) : (R.ok true μ).ife f g ρ = f ρ μ := rfl
@[simp] theorem ife_false (f g : Ev) (ρ : Rho) (μ : Mu) : (R.ok false μ).ife f g ρ = g ρ μ := rfl
def R.cns (v : Sv) : R (List Sv) → R (List Sv)
  | .ok vs μ => .ok (v :: vs) μ
  | .ex c μ => .ex c μ
  | .no => .no
def R.ac (g : EvA) (ρ : Rho) : R Sv → R (List Sv)
  | .ok v μ => (g ρ μ).cns v
  | .ex c μ => .ex c μ
  | .no => .no
@[simp] theorem dACons_eq (f : Ev) (g : EvA) (ρ : Rho) (μ : Mu) : dACons f g ρ μ = (f ρ μ).ac g ρ := by
  unfold dACons
  cases f ρ μ with
  | ok v μ1 =>
    show ((g ρ μ1).bind fun vs μ2 => .ok (v :: vs) μ2) = (g ρ μ1).cns v
    cases g ρ μ1 <;> rfl
  | ex c μ1 => rfl
  | no => rfl
@[simp] theorem ac_ok (g : EvA) (ρ : Rho) (v : Sv) (μ : Mu) : (R.ok v μ).ac g ρ = (g ρ μ).cns v := rfl
@[simp] theorem ac_ex (g : EvA) (ρ : Rho) (c : Xn) (μ : Mu) : (R.ex c μ).ac g ρ = .ex c μ := rfl
@[simp] theorem cns_ok (v : Sv) (vs : List Sv) (μ : Mu) : (R.ok vs μ).cns v = .ok (v :: vs) μ := rfl
@[simp] theorem cns_ex (v : Sv) (c : Xn) (μ : Mu) : (R.ex c μ).cns v = .ex c μ := rfl
@[simp] theorem dCall_eq (F : List Sv → Mu → R Sv) (g : EvA) (ρ : Rho) (μ : Mu) : dCall F g ρ μ = (g ρ μ).bind F := rfl
@[simp] theorem datas_nil : datas [] = some [] := rfl
@[simp] theorem datas_cons (d : D) (r : List Sv) : datas (.im d :: r) = (datas r).map (d :: ·) := rfl
def tupD (μ : Mu) : Option (List D) → R Sv
  | some ds => if ds.length ≤ maxN then .ok (.im (.tup ds)) μ else .no
  | none => .no
def R.tupl : R (List Sv) → R Sv
  | .ok vs μ => tupD μ (datas vs)
  | .ex c μ => .ex c μ
  | .no => .no
@[simp] theorem dTup_eq (g : EvA) (ρ : Rho) (μ : Mu) : dTup g ρ μ = (g ρ μ).tupl := by
  unfold dTup
  cases g ρ μ with
  | ok vs μ1 => show (match datas vs with | some ds => _ | none => _) = tupD μ1 (datas vs); cases datas vs <;> rfl
  | ex c μ1 => rfl
  | no => rfl
@[simp] theorem tupl_ok (vs : List Sv) (μ : Mu) : (R.ok vs μ).tupl = tupD μ (datas vs) := rfl
@[simp] theorem tupD_ok (ds : List D) (μ : Mu) : tupD μ (some ds) = if ds.length ≤ maxN then .ok (.im (.tup ds)) μ else .no := rfl
def lstD (μ : Mu) : Option (List D) → R Cell
  | some ds => if ds.length ≤ maxN then .ok (.lst ds) μ else .no
  | none => .no
def R.lstl : R (List Sv) → R Cell
  | .ok vs μ => lstD μ (datas vs)
  | .ex c μ => .ex c μ
  | .no => .no
@[simp] theorem dLst_eq (g : EvA) (ρ : Rho) (μ : Mu) : dLst g ρ μ = (g ρ μ).lstl := by
  unfold dLst
  cases g ρ μ with
  | ok vs μ1 => show (match datas vs with | some ds => _ | none => _) = lstD μ1 (datas vs); cases datas vs <;> rfl
  | ex c μ1 => rfl
  | no => rfl
@[simp] theorem lstl_ok (vs : List Sv) (μ : Mu) : (R.ok vs μ).lstl = lstD μ (datas vs) := rfl
@[simp] theorem lstD_ok (ds : List D) (μ : Mu) : lstD μ (some ds) = if ds.length ≤ maxN then .ok (.lst ds) μ else .no := rfl
@[simp] theorem small_nat (n : Nat) (h : n ≤ 1000 := by decide) : n ≤ maxN := Nat.le_trans h (by decide)
@[simp] theorem maxN_0 : (0 ≤ maxN) = True := by simp
@[simp] theorem maxN_1 : (1 ≤ maxN) = True := by simp [maxN]
@[simp] theorem maxN_2 : (2 ≤ maxN) = True := by simp [maxN]
@[simp] theorem maxN_3 : (3 ≤ maxN) = True := by simp [maxN]
@[simp] theorem maxN_4 : (4 ≤ maxN) = True := by simp [maxN]
def immD (μ : Mu) : Option D → R Sv
  | some d => .ok (.im d) μ
  | none => .no
def R.imm : R Cell → R Sv
  | .ok c μ => immD μ c.dat
  | .ex c μ => .ex c μ
  | .no => .no
@[simp] theorem dI_eq (f : EvF) (ρ : Rho) (μ : Mu) : dI f ρ μ = (f ρ μ).imm := by
  unfold dI
  cases f ρ μ with
  | ok c μ1 => show (match c.dat with | some d => _ | none => _) = immD μ1 c.dat; cases c.dat <;> rfl
  | ex c μ1 => rfl
  | no => rfl
@[simp] theorem imm_ok (c : Cell) (μ : Mu) : (R.ok c μ).imm = immD μ c.dat := rfl
@[simp] theorem imm_ex (c : Xn) (μ : Mu) : (R.ex c μ).imm = .ex c μ := rfl
@[simp] theorem immD_ok (d : D) (μ : Mu) : immD μ (some d) = .ok (.im d) μ := rfl
@[simp] theorem dat_lst (xs : List D) : Cell.dat (.lst xs) = some (.lst xs) := rfl
@[simp] theorem dat_dk (xs : List (Key × D)) : Cell.dat (.dk xs) = some (.dk xs) := rfl
@[simp] theorem dat_dt (xs : List (List Key × D)) : Cell.dat (.dt xs) = some (.dt xs) := rfl
def R.new : R Cell → R Sv
  | .ok c μ => .ok (.rf μ.length) (μ ++ [c])
  | .ex c μ => .ex c μ
  | .no => .no
@[simp] theorem dN_eq (f : EvF) (ρ : Rho) (μ : Mu) : dN f ρ μ = (f ρ μ).new := by unfold dN; cases f ρ μ <;> rfl
@[simp] theorem new_ok (c : Cell) (μ : Mu) : (R.ok c μ).new = .ok (.rf μ.length) (μ ++ [c]) := rfl
def fzO : Option (D × Mu) → R Sv
  | some p => .ok (.im p.1) p.2
  | none => .no
def R.fzz : R Sv → R Sv
  | .ok v μ => fzO (frz μ v)
  | .ex c μ => .ex c μ
  | .no => .no
@[simp] theorem dV_eq (f : Ev) (ρ : Rho) (μ : Mu) : dV f ρ μ = (f ρ μ).fzz := by
  unfold dV
  cases f ρ μ with
  | ok v μ1 => show (match frz μ1 v with | some (d, μ2) => _ | none => _) = fzO (frz μ1 v); cases frz μ1 v <;> rfl
  | ex c μ1 => rfl
  | no => rfl
@[simp] theorem fzz_ok (v : Sv) (μ : Mu) : (R.ok v μ).fzz = fzO (frz μ v) := rfl
@[simp] theorem fzz_ex (c : Xn) (μ : Mu) : (R.ex c μ).fzz = .ex c μ := rfl
@[simp] theorem fzO_ok (d : D) (μ : Mu) : fzO (some (d, μ)) = .ok (.im d) μ := rfl
def frzC (μ : Mu) (n : Nat) : Option Cell → Option (D × Mu)
  | some (.lst xs) => some (.lst xs, μ.set n (.fz (.lst xs)))
  | some (.dk k) => some (.dk k, μ.set n (.fz (.dk k)))
  | some (.dt k) => some (.dt k, μ.set n (.fz (.dt k)))
  | some (.fz d) => some (d, μ)
  | _ => none
@[simp] theorem frz_rf (μ : Mu) (n : Nat) : frz μ (.rf n) = frzC μ n μ[n]? := by
  show (match μ[n]? with
    | some (.lst xs) => some (D.lst xs, μ.set n (.fz (.lst xs)))
    | some (.dk k) => some (D.dk k, μ.set n (.fz (.dk k)))
    | some (.dt k) => some (D.dt k, μ.set n (.fz (.dt k)))
    | some (.fz d) => some (d, μ)
    | _ => none) = frzC μ n μ[n]?
  cases h : μ[n]? with
  | none => rfl
  | some c => cases c <;> rfl
@[simp] theorem frzC_lst (μ : Mu) (n : Nat) (xs : List D) : frzC μ n (some (.lst xs)) = some (.lst xs, μ.set n (.fz (.lst xs))) := rfl
@[simp] theorem frzC_dk (μ : Mu) (n : Nat) (xs : List (Key × D)) : frzC μ n (some (.dk xs)) = some (.dk xs, μ.set n (.fz (.dk xs))) := rfl
@[simp] theorem frzC_dt (μ : Mu) (n : Nat) (xs : List (List Key × D)) : frzC μ n (some (.dt xs)) = some (.dt xs, μ.set n (.fz (.dt xs))) := rfl
@[simp] theorem frzC_fz (μ : Mu) (n : Nat) (d : D) : frzC μ n (some (.fz d)) = some (d, μ) := rfl
def lookC : Option Cell → Option D
  | some (.lst xs) => some (.lst xs)
  | some (.dk k) => some (.dk k)
  | some (.dt k) => some (.dt k)
  | some (.fz d) => some d
  | _ => none
@[simp] theorem look_rf (μ : Mu) (n : Nat) : look μ (.rf n) = lookC μ[n]? := by
  show (match μ[n]? with
    | some (.lst xs) => some (D.lst xs)
    | some (.dk k) => some (D.dk k)
    | some (.dt k) => some (D.dt k)
    | some (.fz d) => some d
    | _ => none) = lookC μ[n]?
  cases h : μ[n]? with
  | none => rfl
  | some c => cases c <;> rfl
@[simp] theorem lookC_lst (xs : List D) : lookC (some (.lst xs)) = some (.lst xs) := rfl
@[simp] theorem lookC_dk (xs : List (Key × D)) : lookC (some (.dk xs)) = some (.dk xs) := rfl
@[simp] theorem lookC_dt (xs : List (List Key × D)) : lookC (some (.dt xs)) = some (.dt xs) := rfl
@[simp] theorem lookC_fz (d : D) : lookC (some (.fz d)) = some d := rfl
@[simp] theorem look_im (μ : Mu) (d : D) : look μ (.im d) = some d := rfl
@[simp] theorem frz_im (μ : Mu) (d : D) : frz μ (.im d) = some (d, μ) := rfl
def ofO (μ : Mu) : Option D → R Sv
  | some r => .ok (.im r) μ
  | none => .no
@[simp] theorem ofO_ok (μ : Mu) (d : D) : ofO μ (some d) = .ok (.im d) μ := rfl
def lk1 (g : D → Option D) (μ : Mu) : Option D → R Sv
  | some d => ofO μ (g d)
  | none => .no
@[simp] theorem p1_eq (g : D → Option D) (a : Sv) (μ : Mu) : p1 g a μ = lk1 g μ (look μ a) := by
  unfold p1
  cases look μ a with
  | none => rfl
  | some d => show (match g d with | some r => _ | none => _) = ofO μ (g d); cases g d <;> rfl
@[simp] theorem lk1_ok (g : D → Option D) (μ : Mu) (d : D) : lk1 g μ (some d) = ofO μ (g d) := rfl
def lk2 (g : D → D → Option D) (μ : Mu) : Option D → Option D → R Sv
  | some d, some e => ofO μ (g d e)
  | _, _ => .no
@[simp] theorem p2_eq (g : D → D → Option D) (a b : Sv) (μ : Mu) : p2 g a b μ = lk2 g μ (look μ a) (look μ b) := by
  unfold p2
  cases look μ a with
  | none => rfl
  | some d =>
    cases look μ b with
    | none => rfl
    | some e => show (match g d e with | some r => _ | none => _) = ofO μ (g d e); cases g d e <;> rfl
@[simp] theorem lk2_ok (g : D → D → Option D) (μ : Mu) (d e : D) : lk2 g μ (some d) (some e) = ofO μ (g d e) := rfl
/-! loops -/
def R.forL (i : Nat) (b : EvS) (ρ : Rho) : R Sv → O
  | .ok (.im (.lst xs)) μ => loopL i b xs ρ μ
  | .ex c μ => .ex c ρ μ
  | _ => .no
@[simp] theorem sForL_eq (i : Nat) (f : Ev) (b : EvS) (ρ : Rho) (μ : Mu) : sForL i f b ρ μ = (dV f ρ μ).forL i b ρ := by
  unfold sForL sE
  cases dV f ρ μ with
  | ok v μ1 =>
    cases v with
    | im d => cases d <;> rfl
    | rf n => rfl
  | ex c μ1 => rfl
  | no => rfl
@[simp] theorem forL_ok (i : Nat) (b : EvS) (ρ : Rho) (xs : List D) (μ : Mu) : (R.ok (.im (.lst xs)) μ).forL i b ρ = loopL i b xs ρ μ := rfl
def R.forS (i : Nat) (b : EvS) (ρ : Rho) : R Sv → O
  | .ok (.im (.str s)) μ => loopL i b (s.cps.toList.map fun c => .str ⟨#[c]⟩) ρ μ
  | .ex c μ => .ex c ρ μ
  | _ => .no
@[simp] theorem sForS_eq (i : Nat) (f : Ev) (b : EvS) (ρ : Rho) (μ : Mu) : sForS i f b ρ μ = (f ρ μ).forS i b ρ := by
  unfold sForS sE
  cases f ρ μ with
  | ok v μ1 =>
    cases v with
    | im d => cases d <;> rfl
    | rf n => rfl
  | ex c μ1 => rfl
  | no => rfl
@[simp] theorem forS_ok (i : Nat) (b : EvS) (ρ : Rho) (s : Str) (μ : Mu) : (R.ok (.im (.str s)) μ).forS i b ρ = loopL i b (s.cps.toList.map fun c => .str ⟨#[c]⟩) ρ μ := rfl
def R.forR (i : Nat) (b : EvS) (ρ : Rho) : R Sv → O
  | .ok (.im (.int n)) μ => if in62 n then loopL i b (rangeD 0 n.toNat) ρ μ else .no
  | .ex c μ => .ex c ρ μ
  | _ => .no
@[simp] theorem sForR1_eq (i : Nat) (f : Ev) (b : EvS) (ρ : Rho) (μ : Mu) : sForR1 i f b ρ μ = (f ρ μ).forR i b ρ := by
  unfold sForR1 sE
  cases f ρ μ with
  | ok v μ1 =>
    cases v with
    | im d => cases d <;> rfl
    | rf n => rfl
  | ex c μ1 => rfl
  | no => rfl
@[simp] theorem forR_ok (i : Nat) (b : EvS) (ρ : Rho) (n : Int) (μ : Mu) : (R.ok (.im (.int n)) μ).forR i b ρ = if in62 n = true then loopL i b (rangeD 0 n.toNat) ρ μ else .no := rfl
def R.forR3 (i : Nat) (b : EvS) (ρ : Rho) (a : Int) : R Sv → O
  | .ok (.im (.int n)) μ => if in62 a && in62 n then loopL i b (rangeD a (n - a).toNat) ρ μ else .no
  | .ex c μ => .ex c ρ μ
  | _ => .no
def R.forR2 (i : Nat) (g : Ev) (b : EvS) (ρ : Rho) : R Sv → O
  | .ok (.im (.int a)) μ => (g ρ μ).forR3 i b ρ a
  | .ex c μ => .ex c ρ μ
  | _ => .no
@[simp] theorem sForR2_eq (i : Nat) (f g : Ev) (b : EvS) (ρ : Rho) (μ : Mu) : sForR2 i f g b ρ μ = (f ρ μ).forR2 i g b ρ := by
  unfold sForR2 sE
  cases f ρ μ with
  | ok v μ1 =>
    cases v with
    | im d =>
      cases d <;> first | rfl | skip
      rename_i a
      show _ = (g ρ μ1).forR3 i b ρ a
      dsimp only
      cases g ρ μ1 with
      | ok w μ2 =>
        cases w with
        | im e => cases e <;> rfl
        | rf n => rfl
      | ex c μ2 => rfl
      | no => rfl
    | rf n => rfl
  | ex c μ1 => rfl
  | no => rfl
@[simp] theorem forR2_ok (i : Nat) (g : Ev) (b : EvS) (ρ : Rho) (a : Int) (μ : Mu) : (R.ok (.im (.int a)) μ).forR2 i g b ρ = (g ρ μ).forR3 i b ρ a := rfl
@[simp] theorem forR3_ok (i : Nat) (b : EvS) (ρ : Rho) (a n : Int) (μ : Mu) : (R.ok (.im (.int n)) μ).forR3 i b ρ a = if (in62 a && in62 n) = true then loopL i b (rangeD a (n - a).toNat) ρ μ else .no := rfl
theorem in62_small {i : Int} (h : -1000000 ≤ i) (h2 : i ≤ 1000000) : in62 i = true := by
  exact Nat.ble_eq_true_of_le (by omega)
/-! append -/
def appC (d : D) (n : Nat) (ρ : Rho) (μ : Mu) : Option Cell → O
  | some (.lst xs) => if xs.length < maxN then .nx ρ (μ.set n (.lst (xs ++ [d]))) else .no
  | _ => .no
def R.app2 (n : Nat) (ρ : Rho) : R Sv → O
  | .ok (.im d) μ => appC d n ρ μ μ[n]?
  | .ex c μ => .ex c ρ μ
  | _ => .no
def appD (fe : Ev) (n : Nat) (ρ : Rho) (μ : Mu) : Option Cell → O
  | some (.lst _) => (fe ρ μ).app2 n ρ
  | _ => .no
def R.app (fe : Ev) (ρ : Rho) : R Sv → O
  | .ok (.rf n) μ => appD fe n ρ μ μ[n]?
  | .ex c μ => .ex c ρ μ
  | _ => .no
@[simp] theorem sApp_eq (fx fe : Ev) (ρ : Rho) (μ : Mu) : sApp fx fe ρ μ = (fx ρ μ).app fe ρ := by
  unfold sApp sE
  cases fx ρ μ with
  | ok v μ1 =>
    cases v with
    | im d => rfl
    | rf n =>
      show (match μ1[n]? with | some (.lst _) => _ | _ => _) = appD fe n ρ μ1 μ1[n]?
      cases h : μ1[n]? with
      | none => rfl
      | some c =>
        cases c <;> first | rfl | skip
        show _ = (fe ρ μ1).app2 n ρ
        dsimp only
        cases fe ρ μ1 with
        | ok w μ2 =>
          cases w with
          | im e =>
            show (match μ2[n]? with | some (.lst xs) => _ | _ => _) = appC e n ρ μ2 μ2[n]?
            cases μ2[n]? with
            | none => rfl
            | some c => cases c <;> rfl
          | rf n => rfl
        | ex c μ2 => rfl
        | no => rfl
  | ex c μ1 => rfl
  | no => rfl
@[simp] theorem app_ok (fe : Ev) (ρ : Rho) (n : Nat) (μ : Mu) : (R.ok (.rf n) μ).app fe ρ = appD fe n ρ μ μ[n]? := rfl
@[simp] theorem appD_ok (fe : Ev) (n : Nat) (ρ : Rho) (μ : Mu) (xs : List D) : appD fe n ρ μ (some (.lst xs)) = (fe ρ μ).app2 n ρ := rfl
@[simp] theorem app2_ok (n : Nat) (ρ : Rho) (d : D) (μ : Mu) : (R.ok (.im d) μ).app2 n ρ = appC d n ρ μ μ[n]? := rfl
@[simp] theorem appC_ok (d : D) (n : Nat) (ρ : Rho) (μ : Mu) (xs : List D) : appC d n ρ μ (some (.lst xs)) = if xs.length < maxN then .nx ρ (μ.set n (.lst (xs ++ [d]))) else .no := rfl
/-! comprehensions -/
def R.lc (i : Nat) (t : EvT) (e : Ev) (ρ : Rho) : R Sv → R Cell
  | .ok (.im (.lst xs)) μ => if xs.length ≤ maxN then lcEnd (lcL i t e xs (ρ.set i none) μ) else .no
  | .ex c μ => .ex c μ
  | _ => .no
@[simp] theorem dLcL_eq (i : Nat) (f : Ev) (t : EvT) (e : Ev) (ρ : Rho) (μ : Mu) : dLcL i f t e ρ μ = (dV f ρ μ).lc i t e ρ := by
  unfold dLcL
  cases dV f ρ μ with
  | ok v μ1 =>
    cases v with
    | im d => cases d <;> rfl
    | rf n => rfl
  | ex c μ1 => rfl
  | no => rfl
@[simp] theorem lc_ok (i : Nat) (t : EvT) (e : Ev) (ρ : Rho) (xs : List D) (μ : Mu) : (R.ok (.im (.lst xs)) μ).lc i t e ρ = if xs.length ≤ maxN then lcEnd (lcL i t e xs (ρ.set i none) μ) else .no := rfl
def R.lcr (i : Nat) (t : EvT) (e : Ev) (ρ : Rho) : R Sv → R Cell
  | .ok (.im (.int n)) μ => if in62 n && decide (n.toNat ≤ maxN) then lcEnd (lcL i t e (rangeD 0 n.toNat) (ρ.set i none) μ) else .no
  | .ex c μ => .ex c μ
  | _ => .no
@[simp] theorem dLcR1_eq (i : Nat) (f : Ev) (t : EvT) (e : Ev) (ρ : Rho) (μ : Mu) : dLcR1 i f t e ρ μ = (f ρ μ).lcr i t e ρ := by
  unfold dLcR1
  cases f ρ μ with
  | ok v μ1 =>
    cases v with
    | im d => cases d <;> rfl
    | rf n => rfl
  | ex c μ1 => rfl
  | no => rfl
@[simp] theorem lcr_ok (i : Nat) (t : EvT) (e : Ev) (ρ : Rho) (n : Int) (μ : Mu) : (R.ok (.im (.int n)) μ).lcr i t e ρ = if (in62 n && decide (n.toNat ≤ maxN)) = true then lcEnd (lcL i t e (rangeD 0 n.toNat) (ρ.set i none) μ) else .no := rfl
@[simp] theorem lcEnd_ok (ys : List D) (μ : Mu) : lcEnd (.ok ys μ) = .ok (.lst ys) μ := rfl
/-! chains -/
def R.ch3 (p' : Sv → Sv → Mu → R Sv) (b : Sv) (fc : Ev) (ρ : Rho) : R Sv → R Sv
  | .ok (.im (.bl true)) μ => (fc ρ μ).bind (p' b)
  | .ok (.im (.bl false)) μ => .ok (.im (.bl false)) μ
  | .ex c μ => .ex c μ
  | _ => .no
def R.ch2 (p p' : Sv → Sv → Mu → R Sv) (a : Sv) (fc : Ev) (ρ : Rho) : R Sv → R Sv
  | .ok b μ => (p a b μ).ch3 p' b fc ρ
  | .ex c μ => .ex c μ
  | .no => .no
def R.ch1 (p p' : Sv → Sv → Mu → R Sv) (fb fc : Ev) (ρ : Rho) : R Sv → R Sv
  | .ok a μ => (fb ρ μ).ch2 p p' a fc ρ
  | .ex c μ => .ex c μ
  | .no => .no
@[simp] theorem dChain_eq (p p' : Sv → Sv → Mu → R Sv) (fa fb fc : Ev) (ρ : Rho) (μ : Mu) : dChain p p' fa fb fc ρ μ = (fa ρ μ).ch1 p p' fb fc ρ := by
  unfold dChain
  cases fa ρ μ with
  | ok a μ1 =>
    show (fb ρ μ1).bind _ = (fb ρ μ1).ch2 p p' a fc ρ
    cases fb ρ μ1 with
    | ok b μ2 =>
      show (p a b μ2).bind _ = (p a b μ2).ch3 p' b fc ρ
      cases p a b μ2 with
      | ok k μ3 =>
        cases k with
        | im d => cases d <;> first | rfl | (rename_i x; cases x <;> rfl)
        | rf n => rfl
      | ex c μ3 => rfl
      | no => rfl
    | ex c μ2 => rfl
    | no => rfl
  | ex c μ1 => rfl
  | no => rfl
@[simp] theorem ch1_ok (p p' : Sv → Sv → Mu → R Sv) (fb fc : Ev) (ρ : Rho) (a : Sv) (μ : Mu) : (R.ok a μ).ch1 p p' fb fc ρ = (fb ρ μ).ch2 p p' a fc ρ := rfl
@[simp] theorem ch2_ok (p p' : Sv → Sv → Mu → R Sv) (a : Sv) (fc : Ev) (ρ : Rho) (b : Sv) (μ : Mu) : (R.ok b μ).ch2 p p' a fc ρ = (p a b μ).ch3 p' b fc ρ := rfl
@[simp] theorem ch3_true (p' : Sv → Sv → Mu → R Sv) (b : Sv) (fc : Ev) (ρ : Rho) (μ : Mu) : (R.ok (.im (.bl true)) μ).ch3 p' b fc ρ = (fc ρ μ).bind (p' b) := rfl
@[simp] theorem ch3_false (p' : Sv → Sv → Mu → R Sv) (b : Sv) (fc : Ev) (ρ : Rho) (μ : Mu) : (R.ok (.im (.bl false)) μ).ch3 p' b fc ρ = .ok (.im (.bl false)) μ := rfl
/-! ways that meet again -/
section
variable {c : Prop} [Decidable c]
@[simp] theorem join_nx (ρ1 ρ2 : Rho) (μ : Mu) : (if c then O.nx ρ1 μ else O.nx ρ2 μ) = O.nx (if c then ρ1 else ρ2) μ := by split <;> rfl
@[simp] theorem join_rt (v w : Sv) (μ : Mu) : (if c then O.rt v μ else O.rt w μ) = O.rt (if c then v else w) μ := by split <;> rfl
@[simp] theorem join_ok {α : Type} (v w : α) (μ : Mu) : (if c then R.ok v μ else R.ok w μ) = R.ok (if c then v else w) μ := by split <;> rfl
@[simp] theorem join_cons {α : Type} (a b : α) (r s : List α) : (if c then a :: r else b :: s) = (if c then a else b) :: (if c then r else s) := by split <;> rfl
@[simp] theorem join_some {α : Type} (a b : α) : (if c then some a else some b) = some (if c then a else b) := by split <;> rfl
@[simp] theorem join_im (a b : D) : (if c then Sv.im a else Sv.im b) = Sv.im (if c then a else b) := by split <;> rfl
@[simp] theorem join_int (a b : Int) : (if c then D.int a else D.int b) = D.int (if c then a else b) := by split <;> rfl
@[simp] theorem join_str (a b : Str) : (if c then D.str a else D.str b) = D.str (if c then a else b) := by split <;> rfl
@[simp] theorem join_bl (a b : Bool) : (if c then D.bl a else D.bl b) = D.bl (if c then a else b) := by split <;> rfl
@[simp] theorem join_lst (a b : List D) : (if c then D.lst a else D.lst b) = D.lst (if c then a else b) := by split <;> rfl
@[simp] theorem join_seq (x y : O) (g : EvS) : (if c then x else y).seq g = if c then x.seq g else y.seq g := by split <;> rfl
@[simp] theorem join_bind {α β : Type} (x y : R α) (k : α → Mu → R β) : (if c then x else y).bind k = if c then x.bind k else y.bind k := by split <;> rfl
@[simp] theorem join_tst (x y : R Sv) : (if c then x else y).tst = if c then x.tst else y.tst := by split <;> rfl
@[simp] theorem join_iff (x y : R Bool) (f g : EvS) (ρ : Rho) : (if c then x else y).iff f g ρ = if c then x.iff f g ρ else y.iff f g ρ := by split <;> rfl
end
/-! primitives -/
@[simp] theorem gAdd_int (i j : Int) : gAdd (.int i) (.int j) = some (.int (i + j)) := rfl
@[simp] theorem gAdd_str (a b : Str) : gAdd (.str a) (.str b) = if a.length + b.length ≤ maxN then some (.str (a ++ b)) else none := rfl
@[simp] theorem gAdd_lst (a b : List D) : gAdd (.lst a) (.lst b) = if a.length + b.length ≤ maxN then some (.lst (a ++ b)) else none := rfl
@[simp] theorem gSub_int (i j : Int) : gSub (.int i) (.int j) = some (.int (i - j)) := rfl
@[simp] theorem gMul_int (i j : Int) : gMul (.int i) (.int j) = if (small64 i || small64 j) = true then some (.int (i * j)) else none := rfl
@[simp] theorem gMod_int (i j : Int) : gMod (.int i) (.int j) = if 0 < j then some (.int (i % j)) else none := rfl
@[simp] theorem gDiv_int (i j : Int) : gDiv (.int i) (.int j) = if 0 < j ∧ j < 1073741824 then some (.int (i / j)) else none := rfl
@[simp] theorem gLe_int (i j : Int) : gLe (.int i) (.int j) = some (.bl (decide (i ≤ j))) := rfl
@[simp] theorem gLt_int (i j : Int) : gLt (.int i) (.int j) = some (.bl (decide (i < j))) := rfl
@[simp] theorem gGt_int (i j : Int) : gGt (.int i) (.int j) = some (.bl (decide (j < i))) := rfl
@[simp] theorem gGe_int (i j : Int) : gGe (.int i) (.int j) = some (.bl (decide (j ≤ i))) := rfl
@[simp] theorem gLtT_int (i j : Int) : gLtT (.int i) (.int j) = some (.bl (decide (i < j))) := rfl
@[simp] theorem gIsN_non : gIsN .non .non = some (.bl true) := rfl
@[simp] theorem gIsN_tup (xs : List D) : gIsN (.tup xs) .non = some (.bl false) := rfl
@[simp] theorem gIsN_lst (xs : List D) : gIsN (.lst xs) .non = some (.bl false) := rfl
@[simp] theorem gIsN_str (s : Str) : gIsN (.str s) .non = some (.bl false) := rfl
@[simp] theorem gIsN_dk (xs : List (Key × D)) : gIsN (.dk xs) .non = some (.bl false) := rfl
@[simp] theorem gIsN_int (s : Int) : gIsN (.int s) .non = some (.bl false) := rfl
@[simp] theorem gNotN_non : gNotN .non .non = some (.bl false) := rfl
@[simp] theorem gNotN_tup (xs : List D) : gNotN (.tup xs) .non = some (.bl true) := rfl
@[simp] theorem gIx_lst (xs : List D) (i : Int) : gIx (.lst xs) (.int i) = atI xs i := rfl
@[simp] theorem gIx_tup (xs : List D) (i : Int) : gIx (.tup xs) (.int i) = atI xs i := rfl
@[simp] theorem gIx_scr (xs : List Int) (i : Int) : gIx (.scr xs) (.int i) = (atI xs i).map .int := rfl
@[simp] theorem gIx_str (s : Str) (i : Int) : gIx (.str s) (.int i) = (atI s.cps.toList i).map fun c => .str ⟨#[c]⟩ := rfl
@[simp] theorem gLen_lst (xs : List D) : gLen (.lst xs) = some (.int xs.length) := rfl
@[simp] theorem gLen_tup (xs : List D) : gLen (.tup xs) = some (.int xs.length) := rfl
@[simp] theorem gLen_scr (xs : List Int) : gLen (.scr xs) = some (.int xs.length) := rfl
@[simp] theorem gLen_str (s : Str) : gLen (.str s) = some (.int s.length) := rfl
@[simp] theorem gLen_dk (xs : List (Key × D)) : gLen (.dk xs) = some (.int xs.length) := rfl
@[simp] theorem gLen_dt (xs : List (List Key × D)) : gLen (.dt xs) = some (.int xs.length) := rfl
@[simp] theorem gMax2_int (i j : Int) : gMax2 (.int i) (.int j) = some (.int (if j > i then j else i)) := rfl
@[simp] theorem gMin2_int (i j : Int) : gMin2 (.int i) (.int j) = some (.int (if j < i then j else i)) := rfl
@[simp] theorem gAbs_int (i : Int) : gAbs (.int i) = some (.int (if i < 0 then -i else i)) := rfl
@[simp] theorem gIsi_tup (T : String) (xs : List D) : gIsi T (.tup xs) = some (.bl (isTy T (.tup xs))) := rfl
@[simp] theorem gIsi_lst (T : String) (xs : List D) : gIsi T (.lst xs) = some (.bl (isTy T (.lst xs))) := rfl
@[simp] theorem gIsi_int (T : String) (i : Int) : gIsi T (.int i) = some (.bl (isTy T (.int i))) := rfl
@[simp] theorem gIsi_str (T : String) (i : Str) : gIsi T (.str i) = some (.bl (isTy T (.str i))) := rfl
@[simp] theorem gIsi_non (T : String) : gIsi T .non = some (.bl (isTy T .non)) := rfl
@[simp] theorem gIsi_bl (T : String) (b : Bool) : gIsi T (.bl b) = some (.bl (isTy T (.bl b))) := rfl
@[simp] theorem isTy_tt (xs : List D) : isTy "tuple" (.tup xs) = true := rfl
@[simp] theorem isTy_ll (xs : List D) : isTy "list" (.lst xs) = true := rfl
@[simp] theorem isTy_lt (xs : List D) : isTy "list" (.tup xs) = false := rfl
@[simp] theorem isTy_ls (s : Str) : isTy "list" (.str s) = false := rfl
@[simp] theorem isTy_ln : isTy "list" .non = false := rfl
@[simp] theorem isTy_ss (s : Str) : isTy "str" (.str s) = true := rfl
@[simp] theorem isTy_sl (xs : List D) : isTy "str" (.lst xs) = false := rfl
@[simp] theorem isTy_ii (i : Int) : isTy "int" (.int i) = true := rfl
@[simp] theorem isTy_bi (i : Int) : isTy "bool" (.int i) = false := rfl
@[simp] theorem isTy_bb (i : Bool) : isTy "bool" (.bl i) = true := rfl
@[simp] theorem isTy_tn : isTy "tuple" .non = false := rfl
def fListD (μ : Mu) : Option D → R Cell
  | some (.lst xs) => .ok (.lst xs) μ
  | some (.tup xs) => .ok (.lst xs) μ
  | some (.dk kvs) => .ok (.lst (kvs.map fun kv => match kv.1 with | .inl i => .int i | .inr s => .str s)) μ
  | _ => .no
@[simp] theorem fList_eq (a : Sv) (μ : Mu) : fList a μ = fListD μ (look μ a) := by
  unfold fList
  cases look μ a with
  | none => rfl
  | some d => cases d <;> rfl
@[simp] theorem fListD_lst (μ : Mu) (xs : List D) : fListD μ (some (.lst xs)) = .ok (.lst xs) μ := rfl
@[simp] theorem fListD_tup (μ : Mu) (xs : List D) : fListD μ (some (.tup xs)) = .ok (.lst xs) μ := rfl
theorem atI_int {α : Type} (xs : List α) (k : Nat) : atI xs (k : Int) = xs[k]? := by
  unfold atI ixN
  rw [if_pos (Int.natCast_nonneg k)]
  by_cases h : k < xs.length
  · rw [if_pos (by omega)]; simp
  · rw [if_neg (by omega), List.getElem?_eq_none (by omega)]; rfl
theorem atI_of {α : Type} (xs : List α) (i : Int) (h : 0 ≤ i) : atI xs i = xs[i.toNat]? := by
  obtain ⟨k, rfl⟩ := Int.eq_ofNat_of_zero_le h
  rw [atI_int]; simp
@[simp] theorem atI_0 {α : Type} (a : α) (r : List α) : atI (a :: r) 0 = some a := by
  rw [atI_of _ _ (by decide)]; rfl
@[simp] theorem atI_1 {α : Type} (a b : α) (r : List α) : atI (a :: b :: r) 1 = some b := by
  rw [atI_of _ _ (by decide)]; rfl
@[simp] theorem atI_2 {α : Type} (a b c : α) (r : List α) : atI (a :: b :: c :: r) 2 = some c := by
  rw [atI_of _ _ (by decide)]; rfl
@[simp] theorem atI_3 {α : Type} (a b c d : α) (r : List α) : atI (a :: b :: c :: d :: r) 3 = some d := by
  rw [atI_of _ _ (by decide)]; rfl
/-! ### cells by place -/
@[simp] theorem get_c0 (μ : Mu) (a : Cell) (r : Mu) : (μ ++ a :: r)[μ.length]? = some a := by simp
@[simp] theorem get_c1 (μ : Mu) (a b : Cell) (r : Mu) : (μ ++ a :: b :: r)[μ.length + 1]? = some b := by simp
@[simp] theorem get_c2 (μ : Mu) (a b c : Cell) (r : Mu) : (μ ++ a :: b :: c :: r)[μ.length + 2]? = some c := by simp
@[simp] theorem set_c0 (μ : Mu) (a x : Cell) (r : Mu) : (μ ++ a :: r).set μ.length x = μ ++ x :: r := by simp
@[simp] theorem set_c1 (μ : Mu) (a b x : Cell) (r : Mu) : (μ ++ a :: b :: r).set (μ.length + 1) x = μ ++ a :: x :: r := by simp
@[simp] theorem set_c2 (μ : Mu) (a b c x : Cell) (r : Mu) : (μ ++ a :: b :: c :: r).set (μ.length + 2) x = μ ++ a :: b :: x :: r := by simp
@[simp] theorem take_c (μ r : Mu) : (μ ++ r).take μ.length = μ := by simp
/-! ### defs -/
/-- all cells point at cells -/
def Low (μ : Mu) : Prop := μ.all (Cell.low μ.length) = true
@[simp] theorem low_nil : Low [] := rfl
theorem Low.flat {μ : Mu} (h : ∀ c ∈ μ, ∀ n, Cell.low n c = true) : Low μ := List.all_eq_true.mpr fun c hc => h c hc _
theorem cell_low_mono {m n : Nat} (h : m ≤ n) {c : Cell} (l : c.low m = true) : c.low n = true := by
  cases c with
  | ob fs =>
    unfold Cell.low at l ⊢
    rw [List.all_eq_true] at l ⊢
    intro p hp
    have q := l p hp
    cases hs : p.2 with
    | im d => rfl
    | rf k => rw [hs] at q; simp only [Sv.low, decide_eq_true_eq] at q ⊢; omega
  | lst _ => rfl
  | dk _ => rfl
  | dt _ => rfl
  | fz _ => rfl
theorem Low.push {μ : Mu} (h : Low μ) {c : Cell} (hc : c.low (μ.length + 1) = true) : Low (μ ++ [c]) := by
  unfold Low at h ⊢
  rw [List.all_eq_true] at h ⊢
  intro x hx
  rw [List.length_append]
  rcases List.mem_append.mp hx with q | q
  · exact cell_low_mono (Nat.le_add_right _ _) (h x q)
  · have : x = c := by simpa using q
    rw [this]; exact hc
theorem Low.push2 {μ : Mu} (h : Low μ) {c d : Cell} (hc : ∀ n, c.low n = true) (hd : ∀ n, d.low n = true) : Low (μ ++ [c, d]) := by
  have := (h.push (hc _)).push (hd _)
  simpa using this
@[simp] theorem low_lst (n : Nat) (xs : List D) : Cell.low n (.lst xs) = true := rfl
@[simp] theorem low_dk (n : Nat) (xs : List (Key × D)) : Cell.low n (.dk xs) = true := rfl
@[simp] theorem low_dt (n : Nat) (xs : List (List Key × D)) : Cell.low n (.dt xs) = true := rfl
@[simp] theorem low_fz (n : Nat) (d : D) : Cell.low n (.fz d) = true := rfl
theorem dFn_im {m : Nat} {b : EvS} {vs : List Sv} {μ : Mu} {d : D} {r : Mu} (hμ : Low μ) (h : b (vs.map some ++ List.replicate (m - vs.length) none) μ = .rt (.im d) (μ ++ r)) : dFn m b vs μ = .ok (.im d) μ := by
  unfold dFn
  rw [h]
  have h2 : (List.take μ.length (μ ++ r)).all (Cell.low μ.length) = true := by rw [take_c]; exact hμ
  simp only [frz_im]
  rw [h2, take_c]
  simp
theorem dFn_im0 {m : Nat} {b : EvS} {vs : List Sv} {μ : Mu} {d : D} (hμ : Low μ) (h : b (vs.map some ++ List.replicate (m - vs.length) none) μ = .rt (.im d) μ) : dFn m b vs μ = .ok (.im d) μ := dFn_im (r := []) hμ (by simpa using h)
theorem dFn_rf {m : Nat} {b : EvS} {vs : List Sv} {μ : Mu} {d : D} {r r' : Mu} {n : Nat} (hμ : Low μ) (h : b (vs.map some ++ List.replicate (m - vs.length) none) μ = .rt (.rf n) (μ ++ r)) (hf : frz (μ ++ r) (.rf n) = some (d, μ ++ r')) : dFn m b vs μ = .ok (.im d) μ := by
  unfold dFn
  rw [h]
  have h2 : (List.take μ.length (μ ++ r')).all (Cell.low μ.length) = true := by rw [take_c]; exact hμ
  dsimp only
  rw [hf]
  dsimp only
  rw [h2, take_c]
  simp
theorem dFn_lst {m : Nat} {b : EvS} {vs : List Sv} {μ : Mu} {xs : List D} {r : Mu} (hμ : Low μ) (h : b (vs.map some ++ List.replicate (m - vs.length) none) μ = .rt (.rf μ.length) (μ ++ .lst xs :: r)) : dFn m b vs μ = .ok (.im (.lst xs)) μ :=
  dFn_rf hμ h (r' := .fz (.lst xs) :: r) (by simp only [frz, get_c0, set_c0])
theorem dFn_dk {m : Nat} {b : EvS} {vs : List Sv} {μ : Mu} {xs : List (Key × D)} {r : Mu} (hμ : Low μ) (h : b (vs.map some ++ List.replicate (m - vs.length) none) μ = .rt (.rf μ.length) (μ ++ .dk xs :: r)) : dFn m b vs μ = .ok (.im (.dk xs)) μ :=
  dFn_rf hμ h (r' := .fz (.dk xs) :: r) (by simp only [frz, get_c0, set_c0])
theorem dFn_dt {m : Nat} {b : EvS} {vs : List Sv} {μ : Mu} {xs : List (List Key × D)} {r : Mu} (hμ : Low μ) (h : b (vs.map some ++ List.replicate (m - vs.length) none) μ = .rt (.rf μ.length) (μ ++ .dt xs :: r)) : dFn m b vs μ = .ok (.im (.dt xs)) μ :=
  dFn_rf hμ h (r' := .fz (.dt xs) :: r) (by simp only [frz, get_c0, set_c0])
theorem dFn_nx {m : Nat} {b : EvS} {vs : List Sv} {μ : Mu} {ρ : Rho} {r : Mu} (hμ : Low μ) (h : b (vs.map some ++ List.replicate (m - vs.length) none) μ = .nx ρ (μ ++ r)) : dFn m b vs μ = .ok (.im .non) μ := by
  unfold dFn
  rw [h]
  have h2 : (List.take μ.length (μ ++ r)).all (Cell.low μ.length) = true := by rw [take_c]; exact hμ
  dsimp only
  rw [h2, take_c]
  simp
theorem dFn_ex {m : Nat} {b : EvS} {vs : List Sv} {μ : Mu} {ρ : Rho} {r : Mu} {c : Xn} (hμ : Low μ) (h : b (vs.map some ++ List.replicate (m - vs.length) none) μ = .ex c ρ (μ ++ r)) : dFn m b vs μ = .ex c μ := by
  unfold dFn
  rw [h]
  have h2 : (List.take μ.length (μ ++ r)).all (Cell.low μ.length) = true := by rw [take_c]; exact hμ
  dsimp only
  rw [h2, take_c]
  simp
/-! ### loops -/
theorem loop_any {i : Nat} {body : EvS} (S : Nat → Rho → Mu → Prop) (Rz : O → Prop) : ∀ (ds : List D) (k0 : Nat) (ρ : Rho) (μ : Mu), S k0 ρ μ →
    (∀ k d ρ μ, k0 ≤ k → ds[k - k0]? = some d → S k ρ μ → (∃ ρ' μ', (body (ρ.set i (some (.im d))) μ = .nx ρ' μ' ∨ body (ρ.set i (some (.im d))) μ = .ct ρ' μ') ∧ S (k + 1) ρ' μ') ∨ (∃ v μ', body (ρ.set i (some (.im d))) μ = .rt v μ' ∧ Rz (.rt v μ')) ∨ (∃ c ρ' μ', body (ρ.set i (some (.im d))) μ = .ex c ρ' μ' ∧ Rz (.ex c ρ' μ'))) →
    (∀ ρ μ, S (k0 + ds.length) ρ μ → Rz (.nx ρ μ)) → Rz (loopL i body ds ρ μ)
  | [], k0, ρ, μ, h0, _, hd => hd ρ μ (by simpa using h0)
  | d :: r, k0, ρ, μ, h0, hs, hd => by
    unfold loopL
    have rest : ∀ ρ' μ', S (k0 + 1) ρ' μ' → Rz (loopL i body r ρ' μ') := fun ρ' μ' s1 =>
      loop_any S Rz r (k0 + 1) ρ' μ' s1 (fun k d' ρ μ hk e s => hs k d' ρ μ (by omega) (by
        have e2 : k - k0 = (k - (k0 + 1)) + 1 := by omega
        rw [e2, List.getElem?_cons_succ]; exact e) s) fun ρ μ s => hd ρ μ (by rw [List.length_cons, ← Nat.add_assoc, Nat.add_right_comm]; exact s)
    rcases hs k0 d ρ μ (Nat.le_refl _) (by simp) h0 with ⟨ρ', μ', e, s1⟩ | ⟨v, μ', e, q⟩ | ⟨c, ρ', μ', e, q⟩
    · rcases e with e | e <;> rw [e] <;> exact rest ρ' μ' s1
    · rw [e]; exact q
    · rw [e]; exact q
/-- every turn goes on -/
theorem loop_nx {i : Nat} {body : EvS} {ds : List D} {ρ : Rho} {μ : Mu} (S : Nat → Rho → Mu → Prop) (h0 : S 0 ρ μ) (hs : ∀ k d ρ μ, ds[k]? = some d → S k ρ μ → ∃ ρ' μ', body (ρ.set i (some (.im d))) μ = .nx ρ' μ' ∧ S (k + 1) ρ' μ') :
    ∃ ρ' μ', loopL i body ds ρ μ = .nx ρ' μ' ∧ S ds.length ρ' μ' :=
  loop_any S (fun o => ∃ ρ' μ', o = .nx ρ' μ' ∧ S ds.length ρ' μ') ds 0 ρ μ h0 (fun k d ρ μ _ e s => .inl (by
    obtain ⟨ρ', μ', q, s'⟩ := hs k d ρ μ e s
    exact ⟨ρ', μ', .inl q, s'⟩)) fun ρ μ s => ⟨ρ, μ, rfl, by simpa using s⟩
/-- a loop, then the rest -/
theorem loop_then {i : Nat} {body : EvS} {ds : List D} {ρ : Rho} {μ : Mu} {g : EvS} (Rz : O → Prop) (S : Nat → Rho → Mu → Prop) (h0 : S 0 ρ μ)
    (hs : ∀ k d ρ μ, ds[k]? = some d → S k ρ μ → ∃ ρ' μ', body (ρ.set i (some (.im d))) μ = .nx ρ' μ' ∧ S (k + 1) ρ' μ') (hd : ∀ ρ' μ', S ds.length ρ' μ' → Rz (g ρ' μ')) : Rz ((loopL i body ds ρ μ).seq g) := by
  obtain ⟨ρ', μ', e, s⟩ := loop_nx S h0 hs
  rw [e]
  exact hd ρ' μ' s
theorem range_get {lo : Int} {n k : Nat} {d : D} (h : (rangeD lo n)[k]? = some d) : k < n ∧ d = .int (lo + (k : Int)) := by
  unfold rangeD at h
  rw [List.getElem?_map] at h
  by_cases hk : k < n
  · rw [List.getElem?_range hk] at h
    exact ⟨hk, (Option.some.inj h).symm⟩
  · rw [List.getElem?_eq_none (by simp; omega)] at h; cases h
@[simp] theorem range_len (lo : Int) (n : Nat) : (rangeD lo n).length = n := by simp [rangeD]
theorem map_get {α : Type} {f : α → D} {xs : List α} {k : Nat} {d : D} (h : (xs.map f)[k]? = some d) : ∃ a, xs[k]? = some a ∧ d = f a := by
  rw [List.getElem?_map] at h
  cases e : xs[k]? with
  | none => rw [e] at h; cases h
  | some a => rw [e] at h; exact ⟨a, rfl, (Option.some.inj h).symm⟩
/-! ### comprehensions -/
theorem lc_pure {α : Type} {i : Nat} {t : EvT} {e : Ev} {ρ : Rho} {μ : Mu} (enc : α → D) (p : α → Bool) (g : α → D) : ∀ (as : List α),
    (∀ a ∈ as, t (ρ.set i (some (.im (enc a)))) μ = .ok (p a) μ) → (∀ a ∈ as, p a = true → e (ρ.set i (some (.im (enc a)))) μ = .ok (.im (g a)) μ) → lcL i t e (as.map enc) ρ μ = .ok ((as.filter p).map g) μ
  | [], _, _ => rfl
  | a :: r, ht, he => by
    have ih := lc_pure enc p g r (fun x hx => ht x (List.mem_cons_of_mem _ hx)) (fun x hx => he x (List.mem_cons_of_mem _ hx))
    simp only [List.map_cons, lcL]
    rw [ht a List.mem_cons_self]
    simp only [quiet_ok, bind_ok]
    cases q : p a with
    | true =>
      rw [if_pos rfl, he a List.mem_cons_self q]
      simp only [quiet_ok, bind_ok]
      rw [ih]
      simp [q]
    | false =>
      rw [if_neg (by simp)]
      rw [ih]
      simp [q]
theorem lc_map {α : Type} {i : Nat} {e : Ev} {ρ : Rho} {μ : Mu} (enc : α → D) (g : α → D) (as : List α) (he : ∀ a ∈ as, e (ρ.set i (some (.im (enc a)))) μ = .ok (.im (g a)) μ) : lcL i dYes e (as.map enc) ρ μ = .ok (as.map g) μ := by
  rw [lc_pure enc (fun _ => true) g as (fun _ _ => rfl) fun a h _ => he a h]
  rw [List.filter_eq_self.mpr (fun _ _ => rfl)]
/-! ### == -/
mutual
theorem eqv_same : ∀ (n : Nat) (d : D), D.eqok n d = true → PyData.eqv d.py d.py = true
  | _, .non, _ => by simp [D.py, PyData.eqv]
  | _, .bl b, _ => by simp [D.py, PyData.eqv]
  | _, .int i, _ => by simp [D.py, PyData.eqv]
  | _, .str s, _ => by simp [D.py, PyData.eqv]
  | n + 1, .tup xs, h => by simp only [D.py, PyData.eqv]; exact eqvs_same n xs h
  | n + 1, .lst xs, h => by simp only [D.py, PyData.eqv]; exact eqvs_same n xs h
  | 0, .tup _, h => by simp [D.eqok] at h
  | 0, .lst _, h => by simp [D.eqok] at h
  | 0, .dk _, h => by simp [D.eqok] at h
  | 0, .dt _, h => by simp [D.eqok] at h
  | 0, .scr _, h => by simp [D.eqok] at h
  | _ + 1, .dk _, h => by simp [D.eqok] at h
  | _ + 1, .dt _, h => by simp [D.eqok] at h
  | _ + 1, .scr _, h => by simp [D.eqok] at h
theorem eqvs_same : ∀ (n : Nat) (d : List D), D.eqoks n d = true → PyData.eqvAll (D.pys d) (D.pys d) = true
  | _, [], _ => by simp [D.pys, PyData.eqvAll]
  | n, d :: r, h => by
    simp only [D.eqoks, Bool.and_eq_true] at h
    simp only [D.pys, PyData.eqvAll, eqv_same n d h.1, eqvs_same n r h.2]; rfl
end
theorem eqoks_map {α : Type} {n : Nat} {f : α → D} (h : ∀ a, D.eqok n (f a) = true) : ∀ xs : List α, D.eqoks n (xs.map f) = true
  | [] => by simp [D.eqoks]
  | a :: r => by simp only [List.map_cons, D.eqoks, h a, eqoks_map h r]; rfl
theorem eqvs_map {α : Type} [DecidableEq α] {f : α → D} (h : ∀ a b, PyData.eqv (f a).py (f b).py = decide (a = b)) : ∀ xs ys : List α, PyData.eqvAll (D.pys (xs.map f)) (D.pys (ys.map f)) = decide (xs = ys)
  | [], [] => by simp [D.pys, PyData.eqvAll]
  | [], _ :: _ => by simp [D.pys, PyData.eqvAll]
  | _ :: _, [] => by simp [D.pys, PyData.eqvAll]
  | a :: r, b :: s => by
    simp only [List.map_cons, D.pys, PyData.eqvAll, h a b, eqvs_map h r s]
    by_cases e : a = b <;> by_cases e2 : r = s <;> simp [e, e2]
theorem gEq_of {a b : D} (ha : D.eqok 9 a = true) (hb : D.eqok 9 b = true) : gEq a b = some (.bl (PyData.eqv a.py b.py)) := by
  unfold gEq; rw [ha, hb]; rfl
theorem gNe_of {a b : D} (ha : D.eqok 9 a = true) (hb : D.eqok 9 b = true) : gNe a b = some (.bl (!PyData.eqv a.py b.py)) := by
  unfold gNe; rw [ha, hb]; rfl
@[simp] theorem gEq_int (i j : Int) : gEq (.int i) (.int j) = some (.bl (decide (i = j))) := by
  rw [gEq_of rfl rfl]
  simp only [D.py, PyData.eqv]
  by_cases h : i = j <;> simp [h]
@[simp] theorem gNe_int (i j : Int) : gNe (.int i) (.int j) = some (.bl (!decide (i = j))) := by
  rw [gNe_of rfl rfl]
  simp only [D.py, PyData.eqv]
  by_cases h : i = j <;> simp [h]
@[simp] theorem gEq_str (i j : Str) : gEq (.str i) (.str j) = some (.bl (decide (i = j))) := by
  rw [gEq_of rfl rfl]
  simp only [D.py, PyData.eqv]
  by_cases h : i = j <;> simp [h]
@[simp] theorem gNe_str (i j : Str) : gNe (.str i) (.str j) = some (.bl (!decide (i = j))) := by
  rw [gNe_of rfl rfl]
  simp only [D.py, PyData.eqv]
  by_cases h : i = j <;> simp [h]
/-- runs and blocks -/
abbrev Rn := Int × Int × Int
def dRun (r : Rn) : D := .tup [.int r.1, .int r.2.1, .int r.2.2]
def dRuns (rs : List Rn) : D := .lst (rs.map dRun)
theorem run_eqok (n : Nat) (r : Rn) : D.eqok (n + 1) (dRun r) = true := by simp [dRun, D.eqok, D.eqoks]
theorem run_eqv (a b : Rn) : PyData.eqv (dRun a).py (dRun b).py = decide (a = b) := by
  obtain ⟨a1, a2, a3⟩ := a
  obtain ⟨b1, b2, b3⟩ := b
  simp only [dRun, D.py, D.pys, PyData.eqv, PyData.eqvAll, Prod.mk.injEq]
  by_cases h1 : a1 = b1 <;> by_cases h2 : a2 = b2 <;> by_cases h3 : a3 = b3 <;> simp [h1, h2, h3]
theorem runs_eqok (rs : List Rn) : D.eqok 9 (dRuns rs) = true := eqoks_map (run_eqok 7) rs
theorem runs_eqv (a b : List Rn) : PyData.eqv (dRuns a).py (dRuns b).py = decide (a = b) := eqvs_map run_eqv a b
theorem lc_end_pure {α : Type} {i : Nat} {t : EvT} {e : Ev} {ρ : Rho} {μ : Mu} (enc : α → D) (p : α → Bool) (g : α → D) (as : List α) (ht : ∀ a ∈ as, t (ρ.set i (some (.im (enc a)))) μ = .ok (p a) μ) (he : ∀ a ∈ as, p a = true → e (ρ.set i (some (.im (enc a)))) μ = .ok (.im (g a)) μ) :
    lcEnd (lcL i t e (as.map enc) ρ μ) = .ok (.lst ((as.filter p).map g)) μ := by rw [lc_pure enc p g as ht he]; rfl
theorem lc_end_map {α : Type} {i : Nat} {e : Ev} {ρ : Rho} {μ : Mu} (enc : α → D) (g : α → D) (as : List α) (he : ∀ a ∈ as, e (ρ.set i (some (.im (enc a)))) μ = .ok (.im (g a)) μ) :
    lcEnd (lcL i dYes e (as.map enc) ρ μ) = .ok (.lst (as.map g)) μ := by rw [lc_map enc g as he]; rfl
theorem ints_map (ns : List Int) : asInts (ns.map D.int) = some ns := by
  induction ns with
  | nil => rfl
  | cons a r ih => simp [asInts, ih]
theorem gMin1_eq {ns : List Int} {m : Int} (h : m ∈ ns) (hl : ∀ y ∈ ns, m ≤ y) : gMin1 (.lst (ns.map D.int)) = some (.int m) := by
  unfold gMin1
  simp only [ints_map]
  cases ns with
  | nil => cases h
  | cons a r =>
    obtain ⟨h1, h2⟩ := leastI_ok r a
    have : leastI a r = m := Int.le_antisymm (h2 _ h) (hl _ h1)
    simp [this]
theorem gMax1_eq {ns : List Int} {m : Int} (h : m ∈ ns) (hl : ∀ y ∈ ns, y ≤ m) : gMax1 (.lst (ns.map D.int)) = some (.int m) := by
  unfold gMax1
  simp only [ints_map]
  cases ns with
  | nil => cases h
  | cons a r =>
    obtain ⟨h1, h2⟩ := mostI_ok r a
    have : mostI a r = m := Int.le_antisymm (hl _ h1) (h2 _ h)
    simp [this]
theorem gSum_eq (ns : List Int) : gSum (.lst (ns.map D.int)) = some (.int ns.sum) := by
  unfold gSum; simp [ints_map]
end SP

/-! SPn: more equations; rows of signs as lists of truth values. -/
namespace SP
open PySem L2
/-! ### not, parts of texts and lists, methods of texts -/
def R.notE : R Sv → R Sv
  | .ok (.im (.bl b)) μ => .ok (.im (.bl (!b))) μ
  | .ex c μ => .ex c μ
  | _ => .no
@[simp] theorem dNotE_eq (f : Ev) (ρ : Rho) (μ : Mu) : dNotE f ρ μ = (f ρ μ).notE := by
  unfold dNotE
  cases f ρ μ with
  | ok v μ1 =>
    cases v with
    | im d => cases d <;> rfl
    | rf n => rfl
  | ex c μ1 => rfl
  | no => rfl
@[simp] theorem notE_ok (b : Bool) (μ : Mu) : (R.ok (.im (.bl b)) μ).notE = .ok (.im (.bl (!b))) μ := rfl
def R.opM2 (g : D → D → Option D) (z : Str) : R Sv → R Sv
  | .ok (.im (.str w)) μ => ofO μ (g (.str z) (.str w))
  | .ex c μ => .ex c μ
  | _ => .no
def R.opM (g : D → D → Option D) (fb : Ev) (ρ : Rho) : R Sv → R Sv
  | .ok (.im (.str z)) μ => (fb ρ μ).opM2 g z
  | .ex c μ => .ex c μ
  | _ => .no
@[simp] theorem dOpM_eq (g : D → D → Option D) (fa fb : Ev) (ρ : Rho) (μ : Mu) : dOpM g fa fb ρ μ = (fa ρ μ).opM g fb ρ := by
  unfold dOpM
  cases fa ρ μ with
  | ok a μ1 =>
    cases a with
    | im d =>
      cases d with
      | str z =>
        show (fb ρ μ1).bind _ = (fb ρ μ1).opM2 g z
        cases fb ρ μ1 with
        | ok b μ2 =>
          cases b with
          | im e =>
            cases e with
            | str w => show (match g (.str z) (.str w) with | some r => _ | none => _) = ofO μ2 (g (.str z) (.str w)); cases g (.str z) (.str w) <;> rfl
            | _ => rfl
          | rf n => rfl
        | ex c μ2 => rfl
        | no => rfl
      | _ => rfl
    | rf n => rfl
  | ex c μ1 => rfl
  | no => rfl
@[simp] theorem opM_ok (g : D → D → Option D) (fb : Ev) (ρ : Rho) (z : Str) (μ : Mu) : (R.ok (.im (.str z)) μ).opM g fb ρ = (fb ρ μ).opM2 g z := rfl
@[simp] theorem opM2_ok (g : D → D → Option D) (z w : Str) (μ : Mu) : (R.ok (.im (.str w)) μ).opM2 g z = ofO μ (g (.str z) (.str w)) := rfl
def R.part : R Sv → R (Option Int)
  | .ok (.im (.int i)) μ => .ok (some i) μ
  | .ex c μ => .ex c μ
  | _ => .no
@[simp] theorem dPart_none (ρ : Rho) (μ : Mu) : dPart none ρ μ = .ok none μ := rfl
@[simp] theorem dPart_some (f : Ev) (ρ : Rho) (μ : Mu) : dPart (some f) ρ μ = (f ρ μ).part := by
  show (f ρ μ).bind _ = _
  cases f ρ μ with
  | ok v μ1 =>
    cases v with
    | im d => cases d <;> rfl
    | rf n => rfl
  | ex c μ1 => rfl
  | no => rfl
@[simp] theorem part_ok (i : Int) (μ : Mu) : (R.ok (.im (.int i)) μ).part = .ok (some i) μ := rfl
def slO (l h : Option Int) (μ : Mu) : Option D → R Sv
  | some d => ofO μ (gSl d l h)
  | none => .no
@[simp] theorem slO_ok (l h : Option Int) (μ : Mu) (d : D) : slO l h μ (some d) = ofO μ (gSl d l h) := rfl
def R.sl3 (a : Sv) (l : Option Int) : R (Option Int) → R Sv
  | .ok h μ => slO l h μ (look μ a)
  | .ex c μ => .ex c μ
  | .no => .no
def R.sl2 (a : Sv) (hi : Option Ev) (ρ : Rho) : R (Option Int) → R Sv
  | .ok l μ => (dPart hi ρ μ).sl3 a l
  | .ex c μ => .ex c μ
  | .no => .no
def R.sl (lo hi : Option Ev) (ρ : Rho) : R Sv → R Sv
  | .ok a μ => (dPart lo ρ μ).sl2 a hi ρ
  | .ex c μ => .ex c μ
  | .no => .no
@[simp] theorem dSl_eq (fa : Ev) (lo hi : Option Ev) (ρ : Rho) (μ : Mu) : dSl fa lo hi ρ μ = (fa ρ μ).sl lo hi ρ := by
  unfold dSl
  cases fa ρ μ with
  | ok a μ1 =>
    show (dPart lo ρ μ1).bind _ = (dPart lo ρ μ1).sl2 a hi ρ
    cases dPart lo ρ μ1 with
    | ok l μ2 =>
      show (dPart hi ρ μ2).bind _ = (dPart hi ρ μ2).sl3 a l
      cases dPart hi ρ μ2 with
      | ok h μ3 =>
        show (match look μ3 a with | some d => _ | none => _) = slO l h μ3 (look μ3 a)
        cases look μ3 a with
        | none => rfl
        | some d => show (match gSl d l h with | some r => _ | none => _) = ofO μ3 (gSl d l h); cases gSl d l h <;> rfl
      | ex c μ3 => rfl
      | no => rfl
    | ex c μ2 => rfl
    | no => rfl
  | ex c μ1 => rfl
  | no => rfl
@[simp] theorem sl_ok (lo hi : Option Ev) (ρ : Rho) (a : Sv) (μ : Mu) : (R.ok a μ).sl lo hi ρ = (dPart lo ρ μ).sl2 a hi ρ := rfl
@[simp] theorem sl2_ok (a : Sv) (hi : Option Ev) (ρ : Rho) (l : Option Int) (μ : Mu) : (R.ok l μ).sl2 a hi ρ = (dPart hi ρ μ).sl3 a l := rfl
@[simp] theorem sl3_ok (a : Sv) (l h : Option Int) (μ : Mu) : (R.ok h μ).sl3 a l = slO l h μ (look μ a) := rfl
@[simp] theorem gNeg_int (i : Int) : gNeg (.int i) = some (.int (-i)) := rfl
@[simp] theorem dIfE_ok (f g : Ev) (ρ : Rho) (b : Bool) (μ : Mu) : (R.ok b μ).ife f g ρ = if b = true then f ρ μ else g ρ μ := rfl
@[simp] theorem orT_ex (g : EvT) (ρ : Rho) (c : Xn) (μ : Mu) : (R.ex c μ).orT g ρ = .ex c μ := rfl
@[simp] theorem andT_ex (g : EvT) (ρ : Rho) (c : Xn) (μ : Mu) : (R.ex c μ).andT g ρ = .ex c μ := rfl
theorem small64_small {i : Int} (h : -1000000 ≤ i) (h2 : i ≤ 1000000) : SP.small64 i = true := by
  exact Nat.ble_eq_true_of_le (by omega)
theorem atI_two {α : Type} (a b : α) {x : Int} (h : 0 ≤ x) (h2 : x < 2) : atI [a, b] x = some (if x = 0 then a else b) := by
  have : x = 0 ∨ x = 1 := by omega
  rcases this with rfl | rfl <;> simp
@[simp] theorem gPow_10_12 : gPow (.int 10) (.int 12) = some (.int 1000000000000) := by
  show (if (0 : Int) ≤ 12 ∧ (12 : Int) ≤ 1000000 ∧ (10 : Int).natAbs < 2 ^ 64 then some (D.int (10 ^ (12 : Int).toNat)) else none) = _
  rw [if_pos (by decide)]; rfl
@[simp] theorem gEq_bl (i j : Bool) : gEq (.bl i) (.bl j) = some (.bl (i == j)) := by
  rw [gEq_of rfl rfl]
  simp only [D.py, PyData.eqv]
@[simp] theorem gNe_bl (i j : Bool) : gNe (.bl i) (.bl j) = some (.bl (!(i == j))) := by
  rw [gNe_of rfl rfl]
  simp only [D.py, PyData.eqv]
/-! ### signs -/
def sgS (b : Bool) : Str := if b then ⟨#[111]⟩ else ⟨#[46]⟩
def sgN (b : Bool) : Nat := if b then 111 else 46
def rowS (bs : List Bool) : Str := ⟨(bs.map sgN).toArray⟩
abbrev dRow (bs : List Bool) : D := .str (rowS bs)
abbrev dHall (hs : List (List Bool)) : D := .lst (hs.map fun bs => .str (rowS bs))
@[simp] theorem lit_o : Str.ofString "o" = sgS true := by rw [Str.ofString_eq_toList]; rfl
@[simp] theorem lit_dot : Str.ofString "." = sgS false := by rw [Str.ofString_eq_toList]; rfl
@[simp] theorem lit_e : Str.ofString "" = rowS [] := by rw [Str.ofString_eq_toList]; rfl
@[simp] theorem sg_inj (a b : Bool) : (sgS a = sgS b) ↔ a = b := by cases a <;> cases b <;> decide
@[simp] theorem rowS_app (a : List Bool) (b : Bool) : rowS a ++ sgS b = rowS (a ++ [b]) := by
  show Str.append _ _ = _
  unfold Str.append rowS sgS
  cases b <;> simp [sgN]
@[simp] theorem rowS_len (a : List Bool) : (rowS a).length = a.length := by simp [rowS, Str.length]
@[simp] theorem sgS_len (a : Bool) : (sgS a).length = 1 := by cases a <;> rfl
theorem sgN_inj {a b : Bool} (h : sgN a = sgN b) : a = b := by cases a <;> cases b <;> first | rfl | cases h
theorem map_sgN_inj : ∀ {a b : List Bool}, a.map sgN = b.map sgN → a = b
  | [], [], _ => rfl
  | [], _ :: _, h => by cases h
  | _ :: _, [], h => by cases h
  | x :: r, y :: s, h => by
    simp only [List.map_cons, List.cons.injEq] at h
    rw [sgN_inj h.1, map_sgN_inj h.2]
@[simp] theorem row_inj (a b : List Bool) : (rowS a = rowS b) ↔ a = b := by
  constructor
  · intro h
    have : (a.map sgN).toArray = (b.map sgN).toArray := congrArg Str.cps h
    exact map_sgN_inj (by simpa using this)
  · rintro rfl; rfl
theorem sg_one (b : Bool) : (⟨#[sgN b]⟩ : Str) = sgS b := by cases b <;> rfl
@[simp] theorem row_signs (bs : List Bool) : (rowS bs).cps.toList = bs.map sgN := by simp [rowS]
@[simp] theorem row_walk (bs : List Bool) : (bs.map sgN).map (fun c => D.str ⟨#[c]⟩) = bs.map fun b => D.str (sgS b) := by
  rw [List.map_map]
  exact List.map_congr_left fun b _ => by simp [sg_one]
@[simp] theorem row_walk2 (bs : List Bool) : bs.map ((fun c => D.str ⟨#[c]⟩) ∘ sgN) = bs.map fun b => D.str (sgS b) := List.map_congr_left fun b _ => by simp [sg_one]
theorem atI_map {α β : Type} (f : α → β) (xs : List α) (i : Int) : atI (xs.map f) i = (atI xs i).map f := by
  unfold atI
  rw [List.length_map]
  cases ixN xs.length i with
  | none => rfl
  | some n => simp
@[simp] theorem row_ix (bs : List Bool) (i : Int) : (atI (bs.map sgN) i).map (fun c => D.str ⟨#[c]⟩) = (atI bs i).map fun b => D.str (sgS b) := by
  rw [atI_map, Option.map_map]
  congr 1
  funext b
  simp [sg_one]
theorem row_get {bs : List Bool} {i : Int} (h0 : 0 ≤ i) (h : i < bs.length) : atI bs i = some (bs.getD i.toNat false) := by
  rw [atI_of _ _ h0, List.getD_eq_getElem?_getD]
  have : i.toNat < bs.length := by omega
  rw [List.getElem?_eq_getElem this]; rfl
@[simp] theorem row_part (bs : List Bool) (k : Nat) : gSl (.str (rowS bs)) none (some (k : Int)) = some (.str (rowS (bs.take k))) := by
  unfold gSl cutS
  simp only [HT.sIx_none, HT.sIx_nat, rowS_len, row_signs, List.drop_zero, Nat.sub_zero]
  unfold rowS
  rw [← List.map_take]
  congr 4
  simp [List.take_eq_take_iff]
@[simp] theorem row_part11 (bs : List Bool) : gSl (.str (rowS bs)) none (some 11) = some (.str (rowS (bs.take 11))) := row_part bs 11
theorem count_cs (c : Nat) : ∀ cs : List Nat, Spec.countIn (.str ⟨#[c]⟩) (cs.map fun n => PyData.str ⟨#[n]⟩) = (cs.count c : Nat)
  | [] => rfl
  | a :: r => by
    simp only [List.map_cons, Spec.countIn]
    rw [count_cs c r, List.count_cons]
    by_cases h : a = c
    · subst h; simp [Spec.same]; omega
    · simp [Spec.same, h]
@[simp] theorem row_count (bs : List Bool) : gCount (.str (rowS bs)) (.str (sgS true)) = some (.int (bs.count true)) := by
  rw [← sg_one]
  show some (D.int (Txt.count (rowS bs) ⟨#[sgN true]⟩)) = _
  rw [PyProof.Rows.count_is, count_cs]
  congr 3
  rw [row_signs]
  induction bs with
  | nil => rfl
  | cons b r ih => rw [List.map_cons, List.count_cons, List.count_cons, ih]; cases b <;> rfl
theorem hall_eqok (hs : List (List Bool)) : D.eqok 9 (dHall hs) = true := eqoks_map (fun a => by simp [D.eqok]) hs
theorem hall_ne (hs : List (List Bool)) : gNe (.lst (hs.map fun bs => .str (rowS bs))) (.lst (hs.map fun bs => .str (rowS bs))) = some (.bl false) := by
  rw [gNe_of (hall_eqok hs) (hall_eqok hs), eqv_same 9 _ (hall_eqok hs)]; rfl
end SP

/-! SPo: the blocks of a hall, in plain Lean. -/
namespace SP
open PySem L2
/-- a seat stands at place i of the row -/
def st (bs : List Bool) (i : Int) : Bool := decide (0 ≤ i) && bs.getD i.toNat false
def seatB (hs : List (List Bool)) (r i : Int) : Bool := decide (0 ≤ r) && st (hs.getD r.toNat []) i
theorem st_nat (bs : List Bool) (k : Nat) : st bs (k : Int) = bs.getD k false := by simp [st]
/-- the blocks of a row from place p on, m seats standing just ahead -/
def gob (r : Int) : List Bool → Nat → Nat → List Rn
  | [], p, m => if 0 < m then [(r, (p : Int) - m, (m : Int))] else []
  | true :: t, p, m => gob r t (p + 1) (m + 1)
  | false :: t, p, m => (if 0 < m then [(r, (p : Int) - m, (m : Int))] else []) ++ gob r t (p + 1) 0
def blks (r : Int) : List (List Bool) → List Rn
  | [] => []
  | b :: t => gob r b 0 0 ++ blks (r + 1) t
theorem gob_len (r : Int) : ∀ (t : List Bool) (p m : Nat), (gob r t p m).length ≤ t.length + 1
  | [], p, m => by unfold gob; split <;> simp
  | true :: t, p, m => by unfold gob; have := gob_len r t (p + 1) (m + 1); simp; omega
  | false :: t, p, m => by
    unfold gob
    have := gob_len r t (p + 1) 0
    rw [List.length_append, List.length_cons]
    split <;> simp <;> omega
theorem blks_len : ∀ (hs : List (List Bool)) (r : Int), (∀ b ∈ hs, b.length ≤ 60) → (blks r hs).length ≤ 61 * hs.length
  | [], r, _ => by simp [blks]
  | b :: t, r, h => by
    have h1 := gob_len r b 0 0
    have h2 := blks_len t (r + 1) fun x hx => h x (List.mem_cons_of_mem _ hx)
    have h3 := h b List.mem_cons_self
    simp only [blks, List.length_append, List.length_cons]
    omega
def lexP (a b : Rn) : Prop := a.1 < b.1 ∨ a.1 = b.1 ∧ a.2.1 < b.2.1
structure GB (bs : List Bool) (s m : Int) : Prop where
  m1 : 1 ≤ m
  s0 : 0 ≤ s
  hi : s + m ≤ bs.length
  all : ∀ i, s ≤ i → i < s + m → st bs i = true
  lo : st bs (s - 1) = false
  up : st bs (s + m) = false
theorem st_rep {pre rest : List Bool} {m : Nat} {i : Int} (h : (pre.length : Int) ≤ i) (h2 : i < pre.length + m) : st (pre ++ (List.replicate m true ++ rest)) i = true := by
  obtain ⟨k, rfl⟩ := Int.eq_ofNat_of_zero_le (show 0 ≤ i by omega)
  rw [st_nat, List.getD_eq_getElem?_getD, List.getElem?_append_right (by omega), List.getElem?_append_left (by simp; omega), List.getElem?_replicate, if_pos (by omega)]
  rfl
theorem st_pre {pre rest : List Bool} (h : pre = [] ∨ ∃ q, pre = q ++ [false]) : st (pre ++ rest) ((pre.length : Int) - 1) = false := by
  rcases h with rfl | ⟨q, rfl⟩
  · simp [st]
  · have : ((q ++ [false]).length : Int) - 1 = (q.length : Nat) := by simp
    rw [this, st_nat]
    simp [List.getD_eq_getElem?_getD, List.append_assoc]
theorem gob_good (r : Int) : ∀ (t pre : List Bool) (m : Nat), (pre = [] ∨ ∃ q, pre = q ++ [false]) → ∀ x ∈ gob r t (pre.length + m) m, x.1 = r ∧ (pre.length : Int) ≤ x.2.1 ∧ GB (pre ++ (List.replicate m true ++ t)) x.2.1 x.2.2
  | [], pre, m, h, x, hx => by
    unfold gob at hx
    split at hx
    · rename_i hm
      have : x = (r, ((pre.length + m : Nat) : Int) - m, (m : Int)) := by simpa using hx
      subst this
      have e : ((pre.length + m : Nat) : Int) - m = pre.length := by omega
      refine ⟨rfl, by simp only [e]; omega, ?_⟩
      simp only [e]
      refine ⟨by omega, by omega, by simp, fun i h1 h2 => st_rep h1 h2, st_pre h, ?_⟩
      have : (pre.length : Int) + m = ((pre.length + m : Nat) : Int) := by omega
      rw [this, st_nat, List.getD_eq_getElem?_getD, List.getElem?_eq_none (by simp)]; rfl
    · cases hx
  | true :: t, pre, m, h, x, hx => by
    unfold gob at hx
    have := gob_good r t pre (m + 1) h x hx
    rwa [List.replicate_succ', List.append_assoc] at this
  | false :: t, pre, m, h, x, hx => by
    unfold gob at hx
    rcases List.mem_append.mp hx with q | q
    · split at q
      · rename_i hm
        have : x = (r, ((pre.length + m : Nat) : Int) - m, (m : Int)) := by simpa using q
        subst this
        have e : ((pre.length + m : Nat) : Int) - m = pre.length := by omega
        refine ⟨rfl, by simp only [e]; omega, ?_⟩
        simp only [e]
        refine ⟨by omega, by omega, by simp; omega, fun i h1 h2 => st_rep h1 h2, st_pre h, ?_⟩
        have : (pre.length : Int) + m = ((pre.length + m : Nat) : Int) := by omega
        rw [this, st_nat, List.getD_eq_getElem?_getD, List.getElem?_append_right (by omega), List.getElem?_append_right (by simp)]
        simp
      · cases q
    · have e : pre.length + m + 1 = (pre ++ (List.replicate m true ++ [false])).length + 0 := by simp; omega
      rw [e] at q
      have := gob_good r t (pre ++ (List.replicate m true ++ [false])) 0 (.inr ⟨pre ++ List.replicate m true, by simp⟩) x q
      refine ⟨this.1, by have := this.2.1; simp at this; omega, ?_⟩
      have := this.2.2
      simpa using this
theorem gob_rise (r : Int) : ∀ (t : List Bool) (p m : Nat), m ≤ p → (gob r t p m).Pairwise lexP ∧ ∀ x ∈ gob r t p m, x.1 = r ∧ (p : Int) - m ≤ x.2.1
  | [], p, m, h => by
    unfold gob
    split
    · simp
    · simp
  | true :: t, p, m, h => by
    unfold gob
    have ih := gob_rise r t (p + 1) (m + 1) (by omega)
    refine ⟨ih.1, fun x hx => ?_⟩
    have := ih.2 x hx
    exact ⟨this.1, by have := this.2; omega⟩
  | false :: t, p, m, h => by
    unfold gob
    have ih := gob_rise r t (p + 1) 0 (by omega)
    split
    · rename_i hm
      refine ⟨?_, fun x hx => ?_⟩
      · rw [List.singleton_append, List.pairwise_cons]
        refine ⟨fun x hx => ?_, ih.1⟩
        have := ih.2 x hx
        refine .inr ⟨this.1.symm, ?_⟩
        have := this.2
        show (p : Int) - m < x.2.1
        omega
      · rcases List.mem_append.mp hx with q | q
        · have : x = (r, (p : Int) - m, (m : Int)) := by simpa using q
          subst this
          exact ⟨rfl, Int.le_refl _⟩
        · have := ih.2 x q
          exact ⟨this.1, by have := this.2; omega⟩
    · refine ⟨by simpa using ih.1, fun x hx => ?_⟩
      have := ih.2 x (by simpa using hx)
      exact ⟨this.1, by have := this.2; omega⟩
theorem blks_rise : ∀ (hs : List (List Bool)) (r : Int), (blks r hs).Pairwise lexP ∧ ∀ x ∈ blks r hs, r ≤ x.1
  | [], r => by simp [blks]
  | b :: t, r => by
    have h1 := gob_rise r b 0 0 (Nat.le_refl _)
    have h2 := blks_rise t (r + 1)
    refine ⟨?_, fun x hx => ?_⟩
    · unfold blks
      rw [List.pairwise_append]
      refine ⟨h1.1, h2.1, fun x hx y hy => .inl ?_⟩
      have := (h1.2 x hx).1
      have := h2.2 y hy
      omega
    · unfold blks at hx
      rcases List.mem_append.mp hx with q | q
      · rw [(h1.2 x q).1]; exact Int.le_refl _
      · have := h2.2 x q; omega
theorem blks_good : ∀ (hs pre : List (List Bool)), ∀ x ∈ blks (pre.length : Nat) hs, 0 ≤ x.1 ∧ x.1.toNat < (pre ++ hs).length ∧ GB ((pre ++ hs).getD x.1.toNat []) x.2.1 x.2.2
  | [], pre, x, hx => by simp [blks] at hx
  | b :: t, pre, x, hx => by
    unfold blks at hx
    rcases List.mem_append.mp hx with q | q
    · have := gob_good (pre.length : Nat) b [] 0 (.inl rfl) x (by simpa using q)
      have e : x.1.toNat = pre.length := by rw [this.1]; simp
      refine ⟨by rw [this.1]; omega, by rw [e]; simp, ?_⟩
      rw [e]
      have g := this.2.2
      simpa [List.getD_eq_getElem?_getD] using g
    · have e : ((pre.length : Nat) : Int) + 1 = ((pre ++ [b]).length : Nat) := by simp
      rw [e] at q
      have := blks_good t (pre ++ [b]) x q
      simpa using this
/-- what blocks hold -/
def heldI : List Rn → Int
  | [] => 0
  | b :: t => b.2.2 + heldI t
theorem heldI_app (a b : List Rn) : heldI (a ++ b) = heldI a + heldI b := by
  induction a with
  | nil => simp [heldI]
  | cons x t ih => simp only [List.cons_append, heldI, ih]; omega
theorem gob_held (r : Int) : ∀ (t : List Bool) (p m : Nat), heldI (gob r t p m) = m + (t.count true : Nat)
  | [], p, m => by
    unfold gob
    split
    · simp [heldI]
    · simp [heldI]; omega
  | true :: t, p, m => by
    unfold gob
    rw [gob_held r t, List.count_cons]; simp; omega
  | false :: t, p, m => by
    unfold gob
    rw [heldI_app, gob_held r t, List.count_cons]
    split
    · simp [heldI]
    · simp [heldI]; omega
theorem blks_held : ∀ (hs : List (List Bool)) (r : Int), heldI (blks r hs) = (hs.map fun b => ((b.count true : Nat) : Int)).sum
  | [], r => rfl
  | b :: t, r => by
    simp only [blks, heldI_app, gob_held, blks_held t, List.map_cons, List.sum_cons]
    simp
theorem hall_get {hs : List (List Bool)} {i : Int} (h0 : 0 ≤ i) (h : i < hs.length) : atI (hs.map fun bs => D.str (rowS bs)) i = some (.str (rowS (hs.getD i.toNat []))) := by
  rw [atI_map, atI_of _ _ h0, List.getD_eq_getElem?_getD]
  have : i.toNat < hs.length := by omega
  rw [List.getElem?_eq_getElem this]; rfl
theorem seat_neg {hs : List (List Bool)} {r i : Int} (h : r < 0) : seatB hs r i = false := by
  unfold seatB; rw [decide_eq_false (by omega)]; rfl
theorem seat_over {hs : List (List Bool)} {r i : Int} (h : hs.length ≤ r) : seatB hs r i = false := by
  unfold seatB st
  rw [List.getD_eq_getElem?_getD (l := hs), List.getElem?_eq_none (by omega)]; simp
theorem seat_left {hs : List (List Bool)} {r i : Int} (h : i < 0) : seatB hs r i = false := by
  unfold seatB st; rw [decide_eq_false (show ¬ 0 ≤ i by omega)]; simp
theorem seat_right {hs : List (List Bool)} {r i : Int} (h : (hs.getD r.toNat []).length ≤ i) : seatB hs r i = false := by
  unfold seatB st
  rw [List.getD_eq_getElem?_getD (l := hs.getD r.toNat []), List.getElem?_eq_none (by omega)]; simp
theorem seat_in {hs : List (List Bool)} {r i : Int} (h : 0 ≤ r) (h2 : 0 ≤ i) : (hs.getD r.toNat []).getD i.toNat false = seatB hs r i := by
  unfold seatB st; rw [decide_eq_true h, decide_eq_true h2]; rfl
@[simp] theorem gLtT_2 (a b c d : Int) : gLtT (.tup [.int a, .int b]) (.tup [.int c, .int d]) = some (.bl (decide (a < c ∨ a = c ∧ b < d))) := by
  show some (D.bl (HT.lexLt [a, b] [c, d])) = _
  simp only [HT.lexLt]
  by_cases h : a = c
  · subst h
    by_cases h2 : b = d
    · subst h2; simp
    · simp [h2]
  · simp [h]
end SP

/-! SPp: while; dicts of taken seats. -/
namespace SP
open PySem L2
theorem while_then {c : EvT} {body g : EvS} (Rz : O → Prop) (S : Nat → Rho → Mu → Prop) (hs : ∀ m ρ μ, S m ρ μ → (c ρ μ = .ok false μ ∧ Rz (g ρ μ)) ∨ (c ρ μ = .ok true μ ∧ ∃ ρ' μ' m', m' < m ∧ body ρ μ = .nx ρ' μ' ∧ S m' ρ' μ')) :
    ∀ (n m : Nat) (ρ : Rho) (μ : Mu), m < n → S m ρ μ → Rz ((sWhile c body n ρ μ).seq g)
  | 0, _, _, _, h, _ => absurd h (Nat.not_lt_zero _)
  | n + 1, m, ρ, μ, h, s => by
    unfold sWhile
    rcases hs m ρ μ s with ⟨e, z⟩ | ⟨e, ρ', μ', m', hm, eb, s'⟩
    · rw [e]; exact z
    · rw [e]
      dsimp only
      rw [eb]
      exact while_then Rz S hs n m' ρ' μ' (by omega) s'
/-! ### d[k] = v -/
def R.put3 (n : Nat) (dv : D) (ρ : Rho) : R Sv → O
  | .ok y μ => match look μ y with
    | some k => putCell n k dv ρ μ
    | none => .no
  | .ex c μ => .ex c ρ μ
  | .no => .no
def R.put2 (fk : Ev) (dv : D) (ρ : Rho) : R Sv → O
  | .ok (.rf n) μ => (fk ρ μ).put3 n dv ρ
  | .ex c μ => .ex c ρ μ
  | _ => .no
def R.put1 (fd fk : Ev) (ρ : Rho) : R Sv → O
  | .ok (.im dv) μ => (fd ρ μ).put2 fk dv ρ
  | .ex c μ => .ex c ρ μ
  | _ => .no
@[simp] theorem sDPut_eq (fd fk fv : Ev) (ρ : Rho) (μ : Mu) : sDPut fd fk fv ρ μ = (fv ρ μ).put1 fd fk ρ := by
  unfold sDPut sE
  cases fv ρ μ with
  | ok v μ1 =>
    cases v with
    | im dv =>
      show (match fd ρ μ1 with | .ok v μ1 => _ | .ex c μ1 => _ | .no => _) = (fd ρ μ1).put2 fk dv ρ
      cases fd ρ μ1 with
      | ok x μ2 =>
        cases x with
        | im d => rfl
        | rf n =>
          show (match fk ρ μ2 with | .ok v μ1 => _ | .ex c μ1 => _ | .no => _) = (fk ρ μ2).put3 n dv ρ
          cases fk ρ μ2 <;> rfl
      | ex c μ2 => rfl
      | no => rfl
    | rf n => rfl
  | ex c μ1 => rfl
  | no => rfl
@[simp] theorem put1_ok (fd fk : Ev) (ρ : Rho) (dv : D) (μ : Mu) : (R.ok (.im dv) μ).put1 fd fk ρ = (fd ρ μ).put2 fk dv ρ := rfl
@[simp] theorem put2_ok (fk : Ev) (ρ : Rho) (n : Nat) (dv : D) (μ : Mu) : (R.ok (.rf n) μ).put2 fk dv ρ = (fk ρ μ).put3 n dv ρ := rfl
@[simp] theorem put3_im (ρ : Rho) (n : Nat) (dv k : D) (μ : Mu) : (R.ok (.im k) μ).put3 n dv ρ = putCell n k dv ρ μ := rfl
/-! ### seats taken -/
abbrev Pl := Int × Int
abbrev Tk := List (Pl × Str)
def kT (p : Pl × Str) : List Key × D := ([.inl p.1.1, .inl p.1.2], .str p.2)
def cTak (t : Tk) : Cell := .dt (t.map kT)
def dTak (t : Tk) : D := .dt (t.map kT)
def inT (t : Tk) (p : Pl) : Bool := t.any fun q => decide (q.1 = p)
def putT (t : Tk) (k : Pl) (v : Str) : Tk := if inT t k then t.map (fun q => if q.1 = k then (q.1, v) else q) else t ++ [(k, v)]
theorem key2 {a b c d : Int} : (([.inl a, .inl b] : List Key) = [.inl c, .inl d]) ↔ (a, b) = (c, d) := by simp
theorem any_kT (t : Tk) (a b : Int) : ((t.map kT).any fun kv => decide (kv.1 = [.inl a, .inl b])) = inT t (a, b) := by
  unfold inT
  induction t with
  | nil => rfl
  | cons q r ih =>
    rw [List.map_cons, List.any_cons, List.any_cons, ih]
    congr 1
    unfold kT
    simp only [key2]
theorem valD_some {t : Tk} {a b : Int} : (valD (t.map kT) [.inl a, .inl b]).isSome = inT t (a, b) := by
  rw [← any_kT]
  unfold valD
  rw [Option.isSome_map, Bool.eq_iff_iff, List.find?_isSome, List.any_eq_true]
@[simp] theorem gIn_tak (t : Tk) (a b : Int) : gIn (.tup [.int a, .int b]) (.dt (t.map kT)) = some (.bl (inT t (a, b))) := by
  show some (D.bl (valD (t.map kT) [.inl a, .inl b]).isSome) = _
  rw [valD_some]
@[simp] theorem gNotIn_tak (t : Tk) (a b : Int) : gNotIn (.tup [.int a, .int b]) (.dt (t.map kT)) = some (.bl (!inT t (a, b))) := by
  show some (D.bl (!(valD (t.map kT) [.inl a, .inl b]).isSome)) = _
  rw [valD_some]
theorem putD_tak (t : Tk) (a b : Int) (v : Str) : putD (t.map kT) [.inl a, .inl b] (.str v) = (putT t (a, b) v).map kT := by
  unfold putD putT
  rw [any_kT]
  split
  · rw [List.map_map, List.map_map]
    refine List.map_congr_left fun q _ => ?_
    simp only [Function.comp]
    unfold kT
    simp only [key2]
    split
    · rfl
    · rfl
  · rw [List.map_append]; rfl
def putO (t : Tk) (a b : Int) (v : Str) (n : Nat) (ρ : Rho) (μ : Mu) : O := if t.length < maxN then .nx ρ (μ.set n (cTak (putT t (a, b) v))) else .no
theorem putCell_tak {t : Tk} {n : Nat} {a b : Int} {v : Str} {ρ : Rho} {μ : Mu} (h : μ[n]? = some (cTak t)) (hl : t.length < maxN) : putCell n (.tup [.int a, .int b]) (.str v) ρ μ = .nx ρ (μ.set n (cTak (putT t (a, b) v))) := by
  have e : putCell n (.tup [.int a, .int b]) (.str v) ρ μ = if (t.map kT).length < maxN then O.nx ρ (μ.set n (.dt (putD (t.map kT) [.inl a, .inl b] (.str v)))) else .no := by
    unfold putCell
    rw [h]
    rfl
  rw [e, List.length_map, if_pos hl, putD_tak]
  rfl
@[simp] theorem inT_put (t : Tk) (k p : Pl) (v : Str) : inT (putT t k v) p = (inT t p || decide (k = p)) := by
  unfold putT
  split
  · rename_i h
    have e : inT (t.map fun q => if q.1 = k then (q.1, v) else q) p = inT t p := by
      unfold inT
      rw [List.any_map]
      congr 1
      funext q
      simp only [Function.comp]
      split <;> rfl
    rw [e]
    by_cases hk : k = p
    · subst hk; rw [h]; simp
    · simp [hk]
  · unfold inT
    rw [List.any_append]
    simp
theorem putT_len (t : Tk) (k : Pl) (v : Str) : (putT t k v).length ≤ t.length + 1 := by
  unfold putT
  split
  · rw [List.length_map]; omega
  · simp
theorem putT_new {t : Tk} {k : Pl} (v : Str) (h : inT t k = false) : putT t k v = t ++ [(k, v)] := by unfold putT; rw [h]; rfl
theorem putT_keys (t : Tk) (k : Pl) (v : Str) : ∀ q ∈ putT t k v, q.1 = k ∨ ∃ q' ∈ t, q'.1 = q.1 := by
  intro q hq
  unfold putT at hq
  split at hq
  · obtain ⟨a, ha, e⟩ := List.mem_map.mp hq
    split at e
    · rename_i h
      subst e
      exact .inl h
    · subst e
      exact .inr ⟨_, ha, rfl⟩
  · rcases List.mem_append.mp hq with h | h
    · exact .inr ⟨_, h, rfl⟩
    · have : q = (k, v) := by simpa using h
      rw [this]; exact .inl rfl
def okT (t : Tk) : Prop := ∀ q ∈ t, 0 ≤ q.1.1 ∧ q.1.1 < 64 ∧ 0 ≤ q.1.2 ∧ q.1.2 < 128
theorem okT.put {t : Tk} {k : Pl} {v : Str} (h : okT t) (hk : 0 ≤ k.1 ∧ k.1 < 64 ∧ 0 ≤ k.2 ∧ k.2 < 128) : okT (putT t k v) := by
  intro q hq
  rcases putT_keys t k v q hq with e | ⟨q', hq', e⟩
  · rw [e]; exact hk
  · rw [← e]; exact h q' hq'
def fDictD (μ : Mu) : Option D → R Cell
  | some (.dk kvs) => .ok (.dk kvs) μ
  | some (.dt kvs) => if kvs.all (fun p => pairK p.1) then .ok (.dt kvs) μ else .no
  | _ => .no
@[simp] theorem fDict_eq (a : Sv) (μ : Mu) : fDict a μ = fDictD μ (look μ a) := by
  unfold fDict
  cases look μ a with
  | none => rfl
  | some d => cases d <;> rfl
@[simp] theorem fDictD_dk (μ : Mu) (kvs : List (Key × D)) : fDictD μ (some (.dk kvs)) = .ok (.dk kvs) μ := rfl
theorem fDictD_tak {t : Tk} (μ : Mu) (h : okT t) : fDictD μ (some (.dt (t.map kT))) = .ok (.dt (t.map kT)) μ := by
  show (if (t.map kT).all (fun p => pairK p.1) = true then R.ok (Cell.dt (t.map kT)) μ else .no) = _
  rw [if_pos]
  rw [List.all_eq_true]
  intro p hp
  obtain ⟨q, hq, rfl⟩ := List.mem_map.mp hp
  have := h q hq
  simp [kT, pairK, this]
theorem strsT_tak : ∀ t : Tk, strsT (t.map kT) = some (t.map fun p => ([.inl p.1.1, .inl p.1.2], p.2))
  | [] => rfl
  | p :: r => by
    show (strsT (r.map kT)).map _ = _
    rw [strsT_tak r]; rfl
@[simp] theorem gNeT_tak (t : Tk) : gNeT (.dt (t.map kT)) (.dt (t.map kT)) = some (.bl false) := by
  show (match strsT (t.map kT), strsT (t.map kT) with
    | some x, some y => if x = y then some (D.bl false) else none
    | _, _ => none) = _
  rw [strsT_tak]
  dsimp only
  rw [if_pos rfl]
theorem small_mul {i j : Int} (h : SP.small64 j = true) : gMul (.int i) (.int j) = some (.int (i * j)) := by
  rw [gMul_int, h, Bool.or_true, if_pos rfl]
end SP

/-! SPq: free runs, in plain Lean. -/
namespace SP
open PySem L2
/-- the row's free seats, from place i on -/
def frR (t : Tk) (r : Int) : Nat → List Bool → List Bool
  | _, [] => []
  | i, b :: s => (b && !inT t (r, (i : Int))) :: frR t r (i + 1) s
def frH (t : Tk) : Nat → List (List Bool) → List (List Bool)
  | _, [] => []
  | k, b :: s => frR t (k : Int) 0 b :: frH t (k + 1) s
/-- what is free of m places from s on -/
def fl (t : Tk) (r : Int) (s m : Nat) : List Bool := (List.range m).map fun k => !inT t (r, ((s + k : Nat) : Int))
@[simp] theorem frR_len (t : Tk) (r : Int) : ∀ (bs : List Bool) (i : Nat), (frR t r i bs).length = bs.length
  | [], _ => rfl
  | _ :: s, i => by simp [frR, frR_len t r s]
@[simp] theorem frH_len (t : Tk) : ∀ (hs : List (List Bool)) (k : Nat), (frH t k hs).length = hs.length
  | [], _ => rfl
  | _ :: s, k => by simp [frH, frH_len t s]
@[simp] theorem fl_len (t : Tk) (r : Int) (s m : Nat) : (fl t r s m).length = m := by simp [fl]
theorem fl_zero (t : Tk) (r : Int) (s : Nat) : fl t r s 0 = [] := rfl
theorem fl_succ (t : Tk) (r : Int) (s m : Nat) : fl t r s (m + 1) = fl t r s m ++ [!inT t (r, ((s + m : Nat) : Int))] := by
  unfold fl; rw [List.range_succ, List.map_append]; rfl
theorem fl_get (t : Tk) (r : Int) (s m k : Nat) (h : k < m) : (fl t r s m).drop k = (!inT t (r, ((s + k : Nat) : Int))) :: (fl t r s m).drop (k + 1) := by
  rw [List.drop_eq_getElem_cons (by simpa using h)]
  congr 1
  simp [fl]
theorem frR_get (t : Tk) (r : Int) : ∀ (bs : List Bool) (i k : Nat), (frR t r i bs).getD k false = (bs.getD k false && !inT t (r, ((i + k : Nat) : Int)))
  | [], i, k => by simp [frR]
  | b :: s, i, 0 => by simp [frR]
  | b :: s, i, k + 1 => by
    have := frR_get t r s (i + 1) k
    rw [show i + 1 + k = i + (k + 1) by omega] at this
    simpa [frR] using this
theorem frH_get (t : Tk) : ∀ (hs : List (List Bool)) (k j : Nat), j < hs.length → (frH t k hs).getD j [] = frR t ((k + j : Nat) : Int) 0 (hs.getD j [])
  | [], k, j, h => by simp at h
  | b :: s, k, 0, h => by simp [frH]
  | b :: s, k, j + 1, h => by
    have := frH_get t s (k + 1) j (by simpa using h)
    rw [show k + 1 + j = k + (j + 1) by omega] at this
    simpa [frH] using this
theorem frH_mem (t : Tk) : ∀ (hs : List (List Bool)) (k : Nat), (∀ b ∈ hs, b.length ≤ 60) → ∀ b ∈ frH t k hs, b.length ≤ 60
  | [], _, _, b, hb => by simp [frH] at hb
  | a :: s, k, h, b, hb => by
    simp only [frH, List.mem_cons] at hb
    rcases hb with rfl | hb
    · rw [frR_len]; exact h a List.mem_cons_self
    · exact frH_mem t s (k + 1) (fun x hx => h x (List.mem_cons_of_mem _ hx)) b hb
theorem gob_split (r : Int) (s : List Bool) : ∀ (f : List Bool) (q k : Nat), gob r (f ++ false :: s) q k = gob r f q k ++ gob r s (q + f.length + 1) 0
  | [], q, k => by simp [gob]
  | true :: f, q, k => by
    have := gob_split r s f (q + 1) (k + 1)
    rw [show q + 1 + f.length + 1 = q + (true :: f).length + 1 by simp; omega] at this
    simpa [gob] using this
  | false :: f, q, k => by
    have := gob_split r s f (q + 1) 0
    rw [show q + 1 + f.length + 1 = q + (false :: f).length + 1 by simp; omega] at this
    simp only [List.cons_append, gob, this, List.append_assoc]
/-- the free runs of a block -/
def rIn (t : Tk) (b : Rn) : List Rn := gob b.1 (fl t b.1 b.2.1.toNat b.2.2.toNat) b.2.1.toNat 0
theorem runs_row (t : Tk) (r : Int) : ∀ (bs : List Bool) (p m : Nat), m ≤ p → (gob r bs p m).flatMap (rIn t) = gob r (fl t r (p - m) m ++ frR t r p bs) (p - m) 0
  | [], p, m, h => by
    by_cases h0 : 0 < m
    · have e : ((p : Int) - (m : Int)).toNat = p - m := by omega
      simp [gob, h0, rIn, e, frR]
    · have : m = 0 := by omega
      subst this
      simp [gob, fl_zero, frR]
  | true :: s, p, m, h => by
    have ih := runs_row t r s (p + 1) (m + 1) (by omega)
    rw [show p + 1 - (m + 1) = p - m by omega, fl_succ, show p - m + m = p by omega] at ih
    simpa [gob, frR] using ih
  | false :: s, p, m, h => by
    have ih := runs_row t r s (p + 1) 0 (by omega)
    simp only [fl_zero, List.nil_append, Nat.sub_zero] at ih
    simp only [gob, frR, Bool.false_and, List.flatMap_append, ih]
    rw [gob_split, fl_len, show p - m + m + 1 = p + 1 by omega]
    congr 1
    by_cases h0 : 0 < m
    · have e : ((p : Int) - (m : Int)).toNat = p - m := by omega
      simp [h0, rIn, e]
    · have : m = 0 := by omega
      subst this
      simp [fl_zero, gob]
theorem runs_hall (t : Tk) : ∀ (hs : List (List Bool)) (k : Nat), (blks (k : Int) hs).flatMap (rIn t) = blks (k : Int) (frH t k hs)
  | [], _ => rfl
  | b :: s, k => by
    have h1 := runs_row t (k : Int) b 0 0 (Nat.le_refl _)
    have h2 := runs_hall t s (k + 1)
    simp only [fl_zero, List.nil_append, Nat.sub_zero] at h1
    simp only [blks, frH, List.flatMap_append, h1]
    have e : ((k + 1 : Nat) : Int) = (k : Int) + 1 := by omega
    rw [e] at h2
    rw [h2]
/-! ### counting -/
def seatsR (r : Int) : Nat → List Bool → List Pl
  | _, [] => []
  | i, true :: s => (r, (i : Int)) :: seatsR r (i + 1) s
  | i, false :: s => seatsR r (i + 1) s
def seatsH : Nat → List (List Bool) → List Pl
  | _, [] => []
  | k, b :: s => seatsR (k : Int) 0 b ++ seatsH (k + 1) s
def lexQ (a b : Pl) : Prop := a.1 < b.1 ∨ a.1 = b.1 ∧ a.2 < b.2
theorem seatsR_rise (r : Int) : ∀ (bs : List Bool) (i : Nat), (seatsR r i bs).Pairwise lexQ ∧ ∀ x ∈ seatsR r i bs, x.1 = r ∧ (i : Int) ≤ x.2
  | [], i => by simp [seatsR]
  | true :: s, i => by
    have ih := seatsR_rise r s (i + 1)
    unfold seatsR
    rw [List.pairwise_cons]
    refine ⟨⟨fun x hx => .inr ⟨(ih.2 x hx).1.symm, ?_⟩, ih.1⟩, fun x hx => ?_⟩
    · have := (ih.2 x hx).2
      show (i : Int) < x.2
      omega
    · rcases List.mem_cons.mp hx with rfl | hx
      · exact ⟨rfl, Int.le_refl _⟩
      · have := ih.2 x hx
        exact ⟨this.1, by have := this.2; omega⟩
  | false :: s, i => by
    have ih := seatsR_rise r s (i + 1)
    unfold seatsR
    exact ⟨ih.1, fun x hx => ⟨(ih.2 x hx).1, by have := (ih.2 x hx).2; omega⟩⟩
theorem seatsH_rise : ∀ (hs : List (List Bool)) (k : Nat), (seatsH k hs).Pairwise lexQ ∧ ∀ x ∈ seatsH k hs, (k : Int) ≤ x.1
  | [], k => by simp [seatsH]
  | b :: s, k => by
    have h1 := seatsR_rise (k : Int) b 0
    have h2 := seatsH_rise s (k + 1)
    unfold seatsH
    rw [List.pairwise_append]
    refine ⟨⟨h1.1, h2.1, fun x hx y hy => .inl ?_⟩, fun x hx => ?_⟩
    · have := (h1.2 x hx).1
      have := h2.2 y hy
      omega
    · rcases List.mem_append.mp hx with q | q
      · rw [(h1.2 x q).1]; exact Int.le_refl _
      · have := h2.2 x q; omega
theorem seatsH_nodup (hs : List (List Bool)) (k : Nat) : (seatsH k hs).Nodup := by
  have := (seatsH_rise hs k).1
  refine this.imp fun {a b} h e => ?_
  subst e
  rcases h with h | ⟨_, h⟩ <;> exact absurd h (Int.lt_irrefl _)
theorem seatsR_free (t : Tk) (r : Int) : ∀ (bs : List Bool) (i : Nat), (frR t r i bs).count true = ((seatsR r i bs).filter fun p => !inT t p).length
  | [], i => rfl
  | true :: s, i => by
    have ih := seatsR_free t r s (i + 1)
    unfold frR seatsR
    rw [List.count_cons, ih, List.filter_cons]
    cases h : inT t (r, (i : Int)) <;> simp
  | false :: s, i => by
    have ih := seatsR_free t r s (i + 1)
    unfold frR seatsR
    rw [List.count_cons, ih]
    simp
theorem seatsR_len (r : Int) : ∀ (bs : List Bool) (i : Nat), (seatsR r i bs).length = bs.count true
  | [], i => rfl
  | true :: s, i => by
    unfold seatsR
    rw [List.length_cons, seatsR_len r s, List.count_cons]; simp
  | false :: s, i => by
    unfold seatsR
    rw [seatsR_len r s, List.count_cons]; simp
theorem seatsH_free (t : Tk) : ∀ (hs : List (List Bool)) (k : Nat), ((frH t k hs).map fun b => ((b.count true : Nat) : Int)).sum = (((seatsH k hs).filter fun p => !inT t p).length : Nat)
  | [], _ => rfl
  | b :: s, k => by
    unfold frH seatsH
    rw [List.map_cons, List.sum_cons, seatsH_free t s, seatsR_free, List.filter_append, List.length_append]
    omega
theorem seatsH_len : ∀ (hs : List (List Bool)) (k : Nat), ((seatsH k hs).length : Int) = (hs.map fun b => ((b.count true : Nat) : Int)).sum
  | [], _ => rfl
  | b :: s, k => by
    have := seatsH_len s (k + 1)
    unfold seatsH
    rw [List.map_cons, List.sum_cons, ← this, List.length_append, seatsR_len]
    omega
theorem sub_count {α : Type} {p : α → Bool} : ∀ {ks l : List α}, ks.Sublist l → l.Nodup → (∀ x ∈ l, p x = true ↔ x ∈ ks) → (l.filter fun x => !p x).length + ks.length = l.length
  | _, _, .slnil, _, _ => rfl
  | ks, _, .cons (l₂ := l) a h, hn, hp => by
    rw [List.nodup_cons] at hn
    have ha : a ∉ ks := fun z => hn.1 (h.subset z)
    have pa : p a = false := by
      cases e : p a with
      | false => rfl
      | true => exact absurd ((hp a List.mem_cons_self).mp e) ha
    have ih := sub_count h hn.2 fun x hx => hp x (List.mem_cons_of_mem _ hx)
    rw [List.filter_cons, pa]
    simp
    omega
  | _, _, .cons₂ (l₁ := ks) (l₂ := l) a h, hn, hp => by
    rw [List.nodup_cons] at hn
    have pa : p a = true := (hp a List.mem_cons_self).mpr List.mem_cons_self
    have ih := sub_count h hn.2 fun x hx => by
      rw [hp x (List.mem_cons_of_mem _ hx), List.mem_cons]
      constructor
      · rintro (rfl | q)
        · exact absurd hx hn.1
        · exact q
      · exact .inr
    rw [List.filter_cons, pa]
    simp
    omega
theorem inT_mem (t : Tk) (p : Pl) : inT t p = true ↔ p ∈ t.map (·.1) := by
  unfold inT
  rw [List.any_eq_true, List.mem_map]
  constructor
  · rintro ⟨q, hq, e⟩; exact ⟨q, hq, by simpa using e⟩
  · rintro ⟨q, hq, e⟩; exact ⟨q, hq, by simpa using e⟩
theorem free_held {t : Tk} {hs : List (List Bool)} (h : (t.map (·.1)).Sublist (seatsH 0 hs)) : heldI (blks 0 (frH t 0 hs)) = heldI (blks 0 hs) - t.length := by
  rw [blks_held, blks_held, seatsH_free, ← seatsH_len hs 0]
  have := sub_count (p := inT t) h (seatsH_nodup hs 0) fun x _ => inT_mem t x
  rw [List.length_map] at this
  omega
theorem seatsR_snoc (r : Int) (b : Bool) : ∀ (bs : List Bool) (i : Nat), seatsR r i (bs ++ [b]) = seatsR r i bs ++ if b then [(r, ((i + bs.length : Nat) : Int))] else []
  | [], i => by cases b <;> simp [seatsR]
  | true :: s, i => by
    have := seatsR_snoc r b s (i + 1)
    rw [show i + 1 + s.length = i + (true :: s).length by simp; omega] at this
    simp only [List.cons_append, seatsR, this]
  | false :: s, i => by
    have := seatsR_snoc r b s (i + 1)
    rw [show i + 1 + s.length = i + (false :: s).length by simp; omega] at this
    simp only [List.cons_append, seatsR, this]
theorem seatsH_snoc (b : List Bool) : ∀ (hs : List (List Bool)) (k : Nat), seatsH k (hs ++ [b]) = seatsH k hs ++ seatsR ((k + hs.length : Nat) : Int) 0 b
  | [], k => by simp [seatsH]
  | a :: s, k => by
    have := seatsH_snoc b s (k + 1)
    rw [show k + 1 + s.length = k + (a :: s).length by simp; omega] at this
    simp only [List.cons_append, seatsH, this, List.append_assoc]
end SP

namespace LW
open PySem L2 SP
def top (i : Nat) : Stmt := PySem.Challenge.pw_seatplan_k02_free_runs.main.body.getD i (.Pass ⟨0, 0, 0, 0⟩)

/-! ### the evaluators -/
/-! blocks_in -/
def fb_blocks_in : EvS := (sSeq (sAsg 2 (dN (dLst dANil))) (sSeq (sAsg 3 (dC (.int 0))) (sSeq (sForR1 4 (dOp2 (p2 gAdd) (dOp1 (p1 gLen) (dVar 1)) (dC (.int 1))) (sIf (dAndT (dTest (dOp2 (p2 gLtT) (dVar 4) (dOp1 (p1 gLen) (dVar 1)))) (dTest (dOp2 (p2 gEq) (dOp2 (p2 gIx) (dVar 1) (dVar 4)) (dC (.str "o"))))) (sAsg 3 (dOp2 (p2 gAdd) (dVar 3) (dC (.int 1)))) (sSeq (sIf (dTest (dOp2 (p2 gGt) (dVar 3) (dC (.int 0)))) (sApp (dVar 2) (dTup (dACons (dVar 0) (dACons (dOp2 (p2 gSub) (dVar 4) (dVar 3)) (dACons (dVar 3) dANil))))) sNext) (sAsg 3 (dC (.int 0)))))) (sRet (dVar 2)))))
def F_blocks_in : List Sv → Mu → R Sv := dFn 5 fb_blocks_in

/-! blocks_of -/
def fb_blocks_of : EvS := (sSeq (sAsg 1 (dI (dLst dANil))) (sSeq (sForR1 2 (dOp1 (p1 gLen) (dVar 0)) (sAsg 1 (dOp2 (p2 gAdd) (dVar 1) (dCall F_blocks_in (dACons (dVar 2) (dACons (dOp2 (p2 gIx) (dVar 0) (dVar 2)) dANil)))))) (sRet (dVar 1))))
def F_blocks_of : List Sv → Mu → R Sv := dFn 3 fb_blocks_of

/-! runs_in -/
def fb_runs_in : EvS := (sSeq (sAsg 2 (dN (dLst dANil))) (sSeq (sAsg 3 (dC (.int 0))) (sSeq (sForR2 4 (dOp2 (p2 gIx) (dVar 0) (dC (.int 1))) (dOp2 (p2 gAdd) (dOp2 (p2 gAdd) (dOp2 (p2 gIx) (dVar 0) (dC (.int 1))) (dOp2 (p2 gIx) (dVar 0) (dC (.int 2)))) (dC (.int 1))) (sIf (dAndT (dTest (dOp2 (p2 gLtT) (dVar 4) (dOp2 (p2 gAdd) (dOp2 (p2 gIx) (dVar 0) (dC (.int 1))) (dOp2 (p2 gIx) (dVar 0) (dC (.int 2)))))) (dTest (dOp2 (p2 gNotIn) (dTup (dACons (dOp2 (p2 gIx) (dVar 0) (dC (.int 0))) (dACons (dVar 4) dANil))) (dVar 1)))) (sAsg 3 (dOp2 (p2 gAdd) (dVar 3) (dC (.int 1)))) (sSeq (sIf (dTest (dOp2 (p2 gGt) (dVar 3) (dC (.int 0)))) (sApp (dVar 2) (dTup (dACons (dOp2 (p2 gIx) (dVar 0) (dC (.int 0))) (dACons (dOp2 (p2 gSub) (dVar 4) (dVar 3)) (dACons (dVar 3) dANil))))) sNext) (sAsg 3 (dC (.int 0)))))) (sRet (dVar 2)))))
def F_runs_in : List Sv → Mu → R Sv := dFn 5 fb_runs_in

/-! runs_of -/
def fb_runs_of : EvS := (sSeq (sAsg 2 (dI (dLst dANil))) (sSeq (sForL 3 (dCall F_blocks_of (dACons (dVar 0) dANil)) (sAsg 2 (dOp2 (p2 gAdd) (dVar 2) (dCall F_runs_in (dACons (dVar 3) (dACons (dVar 1) dANil)))))) (sRet (dVar 2))))
def F_runs_of : List Sv → Mu → R Sv := dFn 4 fb_runs_of

/-! _law_cell_at -/
def fb_law_cell_at : EvS := (sSeq (sIf (dTest (dOp2 (p2 gLtT) (dVar 1) (dOp1 (p1 gLen) (dVar 0)))) (sRet (dOp2 (p2 gIx) (dVar 0) (dVar 1))) sNext) (sRet (dC (.int 0))))
def F_law_cell_at : List Sv → Mu → R Sv := dFn 2 fb_law_cell_at

/-! _law_whole -/
def fb_law_whole : EvS := (sRet (dAnd (dOp1 (p1 (gIsi "int")) (dVar 0)) (dNotE (dOp1 (p1 (gIsi "bool")) (dVar 0)))))
def F_law_whole : List Sv → Mu → R Sv := dFn 1 fb_law_whole

/-! _law_row_by -/
def fb_law_row_by : EvS := (sSeq (sAsg 0 (dOp2 (p2 gMod) (dOp2 (p2 gMul) (dVar 0) (dC (.int 48271))) (dC (.int 2147483647)))) (sSeq (sAsg 1 (dOp2 (p2 gMod) (dVar 0) (dC (.int 12)))) (sSeq (sIf (dTest (dOp2 (p2 gEq) (dOp2 (p2 gMod) (dOp2 (p2 gDiv) (dVar 0) (dC (.int 12))) (dC (.int 9))) (dC (.int 1)))) (sAsg 1 (dOp2 (p2 gSub) (dC (.int 60)) (dOp2 (p2 gMod) (dOp2 (p2 gDiv) (dVar 0) (dC (.int 108))) (dC (.int 3))))) sNext) (sSeq (sAsg 2 (dOp2 (p2 gAdd) (dC (.int 2)) (dOp2 (p2 gMod) (dOp2 (p2 gDiv) (dVar 0) (dC (.int 324))) (dC (.int 7))))) (sSeq (sAsg 3 (dC (.str ""))) (sSeq (sForR1 4 (dVar 1) (sIf (dOrT (dAndT (dTest (dOp2 (p2 gGt) (dOp2 (p2 gMod) (dOp2 (p2 gDiv) (dVar 0) (dC (.int 15876))) (dC (.int 3))) (dC (.int 0)))) (dTest (dOp2 (p2 gEq) (dOp2 (p2 gMod) (dOp2 (p2 gAdd) (dVar 4) (dOp2 (p2 gDiv) (dVar 0) (dC (.int 2268)))) (dVar 2)) (dC (.int 0))))) (dTest (dOp2 (p2 gEq) (dOp2 (p2 gMod) (dOp2 (p2 gMul) (dVar 4) (dVar 4)) (dC (.int 11))) (dOp2 (p2 gMod) (dOp2 (p2 gDiv) (dVar 0) (dC (.int 47628))) (dC (.int 13)))))) (sAsg 3 (dOp2 (p2 gAdd) (dVar 3) (dC (.str ".")))) (sAsg 3 (dOp2 (p2 gAdd) (dVar 3) (dC (.str "o")))))) (sRet (dVar 3))))))))
def F_law_row_by : List Sv → Mu → R Sv := dFn 5 fb_law_row_by

/-! _law_hall_by -/
def fb_law_hall_by : EvS := (sSeq (sAsg 2 (dOp2 (p2 gAdd) (dC (.int 1)) (dOp2 (p2 gMod) (dCall F_law_cell_at (dACons (dVar 0) (dACons (dVar 1) dANil))) (dC (.int 5))))) (sSeq (sIf (dTest (dOp2 (p2 gEq) (dOp2 (p2 gMod) (dOp2 (p2 gDiv) (dCall F_law_cell_at (dACons (dVar 0) (dACons (dVar 1) dANil))) (dC (.int 5))) (dC (.int 11))) (dC (.int 1)))) (sAsg 2 (dC (.int 40))) sNext) (sSeq (sAsg 3 (dN (dLst dANil))) (sSeq (sForR1 4 (dVar 2) (sSeq (sAsg 5 (dOp2 (p2 gAdd) (dCall F_law_cell_at (dACons (dVar 0) (dACons (dOp2 (p2 gAdd) (dOp2 (p2 gAdd) (dVar 1) (dC (.int 1))) (dOp2 (p2 gMod) (dVar 4) (dC (.int 3)))) dANil))) (dOp2 (p2 gMul) (dC (.int 7919)) (dOp2 (p2 gDiv) (dVar 4) (dC (.int 3)))))) (sIf (dTest (dOp2 (p2 gEq) (dVar 2) (dC (.int 40)))) (sApp (dVar 3) (dSl (dCall F_law_row_by (dACons (dVar 5) dANil)) none (some (dC (.int 11))))) (sApp (dVar 3) (dCall F_law_row_by (dACons (dVar 5) dANil)))))) (sRet (dVar 3))))))
def F_law_hall_by : List Sv → Mu → R Sv := dFn 6 fb_law_hall_by

/-! _law_taken_by -/
def fb_law_taken_by : EvS := (sSeq (sAsg 1 (dOp2 (p2 gMod) (dOp2 (p2 gMul) (dVar 1) (dC (.int 48271))) (dC (.int 2147483647)))) (sSeq (sAsg 2 (dN dDt)) (sSeq (sAsg 3 (dC (.int 0))) (sSeq (sForR1 4 (dOp1 (p1 gLen) (dVar 0)) (sForR1 5 (dOp1 (p1 gLen) (dOp2 (p2 gIx) (dVar 0) (dVar 4))) (sIf (dTest (dOp2 (p2 gEq) (dOp2 (p2 gIx) (dOp2 (p2 gIx) (dVar 0) (dVar 4)) (dVar 5)) (dC (.str "o")))) (sSeq (sIf (dTest (dOp2 (p2 gLtT) (dOp2 (p2 gMod) (dOp2 (p2 gMod) (dOp2 (p2 gMul) (dOp2 (p2 gAdd) (dVar 1) (dOp2 (p2 gMul) (dC (.int 31)) (dOp2 (p2 gDiv) (dVar 3) (dOp2 (p2 gAdd) (dC (.int 1)) (dOp2 (p2 gMod) (dVar 1) (dC (.int 6))))))) (dC (.int 48271))) (dC (.int 10007))) (dC (.int 7))) (dOp2 (p2 gMod) (dOp2 (p2 gDiv) (dVar 1) (dC (.int 6))) (dC (.int 8))))) (sDPut (dVar 2) (dTup (dACons (dVar 4) (dACons (dVar 5) dANil))) (dC (.str "a"))) sNext) (sAsg 3 (dOp2 (p2 gAdd) (dVar 3) (dC (.int 1))))) sNext))) (sRet (dVar 2))))))
def F_law_taken_by : List Sv → Mu → R Sv := dFn 6 fb_law_taken_by

/-! _law_free -/
def fb_law_free : EvS := (sSeq (sIf (dOrT (dTest (dOp2 (p2 gLtT) (dVar 3) (dC (.int 0)))) (dOrT (dTest (dOp2 (p2 gGe) (dVar 3) (dOp1 (p1 gLen) (dOp2 (p2 gIx) (dVar 0) (dVar 2))))) (dTest (dOp2 (p2 gNe) (dOp2 (p2 gIx) (dOp2 (p2 gIx) (dVar 0) (dVar 2)) (dVar 3)) (dC (.str "o")))))) (sRet (dC (.bl false))) sNext) (sRet (dOp2 (p2 gNotIn) (dTup (dACons (dVar 2) (dACons (dVar 3) dANil))) (dVar 1))))
def F_law_free : List Sv → Mu → R Sv := dFn 4 fb_law_free

/-! _law_run -/
def fb_law_run : EvS := (sSeq (sIf (dOrT (dNotT (dTest (dOp1 (p1 (gIsi "tuple")) (dVar 2)))) (dTest (dOp2 (p2 gNe) (dOp1 (p1 gLen) (dVar 2)) (dC (.int 3))))) (sRet (dC (.bl false))) sNext) (sSeq (sIf (dOrT (dNotT (dTest (dCall F_law_whole (dACons (dOp2 (p2 gIx) (dVar 2) (dC (.int 0))) dANil)))) (dOrT (dNotT (dTest (dCall F_law_whole (dACons (dOp2 (p2 gIx) (dVar 2) (dC (.int 1))) dANil)))) (dNotT (dTest (dCall F_law_whole (dACons (dOp2 (p2 gIx) (dVar 2) (dC (.int 2))) dANil)))))) (sRet (dC (.bl false))) sNext) (sSeq (sIf (dOrT (dTest (dOp2 (p2 gLtT) (dOp2 (p2 gIx) (dVar 2) (dC (.int 2))) (dC (.int 1)))) (dOrT (dTest (dOp2 (p2 gGt) (dOp2 (p2 gIx) (dVar 2) (dC (.int 2))) (dC (.int 60)))) (dOrT (dNotT (dTest (dOp2 (p2 gLtT) (dVar 3) (dTup (dACons (dOp2 (p2 gIx) (dVar 2) (dC (.int 0))) (dACons (dOp2 (p2 gIx) (dVar 2) (dC (.int 1))) dANil)))))) (dTest (dOp2 (p2 gGe) (dOp2 (p2 gIx) (dVar 2) (dC (.int 0))) (dOp1 (p1 gLen) (dVar 0))))))) (sRet (dC (.bl false))) sNext) (sSeq (sForR2 4 (dOp2 (p2 gIx) (dVar 2) (dC (.int 1))) (dOp2 (p2 gAdd) (dOp2 (p2 gIx) (dVar 2) (dC (.int 1))) (dOp2 (p2 gIx) (dVar 2) (dC (.int 2)))) (sIf (dNotT (dTest (dCall F_law_free (dACons (dVar 0) (dACons (dVar 1) (dACons (dOp2 (p2 gIx) (dVar 2) (dC (.int 0))) (dACons (dVar 4) dANil))))))) (sRet (dC (.bl false))) sNext)) (sRet (dAnd (dNotE (dCall F_law_free (dACons (dVar 0) (dACons (dVar 1) (dACons (dOp2 (p2 gIx) (dVar 2) (dC (.int 0))) (dACons (dOp2 (p2 gSub) (dOp2 (p2 gIx) (dVar 2) (dC (.int 1))) (dC (.int 1))) dANil)))))) (dNotE (dCall F_law_free (dACons (dVar 0) (dACons (dVar 1) (dACons (dOp2 (p2 gIx) (dVar 2) (dC (.int 0))) (dACons (dOp2 (p2 gAdd) (dOp2 (p2 gIx) (dVar 2) (dC (.int 1))) (dOp2 (p2 gIx) (dVar 2) (dC (.int 2)))) dANil))))))))))))
def F_law_run : List Sv → Mu → R Sv := dFn 5 fb_law_run

/-! law -/
def fb_law : EvS := (sSeq (sAsg 1 (dCall F_law_hall_by (dACons (dVar 0) (dACons (dC (.int 0)) dANil)))) (sSeq (sAsg 2 (dCall F_law_taken_by (dACons (dVar 1) (dACons (dCall F_law_cell_at (dACons (dVar 0) (dACons (dC (.int 4)) dANil))) dANil)))) (sSeq (sAsg 3 (dI (dLst (dACons (dI (dOpF fList (dVar 1))) (dACons (dI (dOpF fDict (dVar 2))) dANil))))) (sSeq (sAsg 4 (dCall F_runs_of (dACons (dOp2 (p2 gIx) (dVar 3) (dC (.int 0))) (dACons (dOp2 (p2 gIx) (dVar 3) (dC (.int 1))) dANil)))) (sSeq (sIf (dOrT (dNotT (dTest (dOp1 (p1 (gIsi "list")) (dVar 4)))) (dOrT (dTest (dOp2 (p2 gNe) (dOp2 (p2 gIx) (dVar 3) (dC (.int 0))) (dVar 1))) (dTest (dOp2 (p2 gNeT) (dOp2 (p2 gIx) (dVar 3) (dC (.int 1))) (dVar 2))))) (sRet (dC (.bl false))) sNext) (sSeq (sAsg 5 (dTup (dACons (dOp1 (p1 gNeg) (dC (.int 1))) (dACons (dOp1 (p1 gNeg) (dC (.int 1))) dANil)))) (sSeq (sAsg 6 (dOp2 (p2 gSub) (dOp1 (p1 gSum) (dI (dLcL 8 (dVar 1) dYes (dOpM gCount (dVar 8) (dC (.str "o")))))) (dOp1 (p1 gLen) (dVar 2)))) (sSeq (sForL 7 (dVar 4) (sSeq (sIf (dNotT (dTest (dCall F_law_run (dACons (dVar 1) (dACons (dVar 2) (dACons (dVar 7) (dACons (dVar 5) dANil))))))) (sRet (dC (.bl false))) sNext) (sSeq (sAsg 5 (dTup (dACons (dOp2 (p2 gIx) (dVar 7) (dC (.int 0))) (dACons (dOp2 (p2 gIx) (dVar 7) (dC (.int 1))) dANil)))) (sAsg 6 (dOp2 (p2 gSub) (dVar 6) (dOp2 (p2 gIx) (dVar 7) (dC (.int 2)))))))) (sRet (dOp2 (p2 gEq) (dVar 6) (dC (.int 0))))))))))))
def F_law : List Sv → Mu → R Sv := dFn 9 fb_law

end LW

namespace LW
open PySem L2 SP

abbrev s_blocks_in : Stmt := top 2
theorem sc_blocks_in : FnScope ["row", "line", "found", "many", "place"] ["row", "line"] (defScope s_blocks_in) := ⟨rfl, rfl, rfl, by decide +kernel, rfl, by decide +kernel, by decide +kernel⟩

abbrev s_blocks_of : Stmt := top 3
theorem sc_blocks_of : FnScope ["rows", "found", "row"] ["rows"] (defScope s_blocks_of) := ⟨rfl, rfl, rfl, by decide +kernel, rfl, by decide +kernel, by decide +kernel⟩

abbrev s_runs_in : Stmt := top 5
theorem sc_runs_in : FnScope ["block", "taken", "found", "many", "place"] ["block", "taken"] (defScope s_runs_in) := ⟨rfl, rfl, rfl, by decide +kernel, rfl, by decide +kernel, by decide +kernel⟩

abbrev s_runs_of : Stmt := top 6
theorem sc_runs_of : FnScope ["rows", "taken", "found", "block"] ["rows", "taken"] (defScope s_runs_of) := ⟨rfl, rfl, rfl, by decide +kernel, rfl, by decide +kernel, by decide +kernel⟩

abbrev s_law_cell_at : Stmt := top 8
theorem sc_law_cell_at : FnScope ["_law_script", "_law_k"] ["_law_script", "_law_k"] (defScope s_law_cell_at) := ⟨rfl, rfl, rfl, by decide +kernel, rfl, by decide +kernel, by decide +kernel⟩

abbrev s_law_whole : Stmt := top 9
theorem sc_law_whole : FnScope ["_law_found"] ["_law_found"] (defScope s_law_whole) := ⟨rfl, rfl, rfl, by decide +kernel, rfl, by decide +kernel, by decide +kernel⟩

abbrev s_law_row_by : Stmt := top 10
theorem sc_law_row_by : FnScope ["_law_n", "_law_many", "_law_gap", "_law_signs", "_law_place"] ["_law_n"] (defScope s_law_row_by) := ⟨rfl, rfl, rfl, by decide +kernel, rfl, by decide +kernel, by decide +kernel⟩

abbrev s_law_hall_by : Stmt := top 11
theorem sc_law_hall_by : FnScope ["_law_script", "_law_k", "_law_many", "_law_rows", "_law_j", "_law_n"] ["_law_script", "_law_k"] (defScope s_law_hall_by) := ⟨rfl, rfl, rfl, by decide +kernel, rfl, by decide +kernel, by decide +kernel⟩

abbrev s_law_taken_by : Stmt := top 12
theorem sc_law_taken_by : FnScope ["_law_rows", "_law_n", "_law_taken", "_law_at", "_law_row", "_law_place"] ["_law_rows", "_law_n"] (defScope s_law_taken_by) := ⟨rfl, rfl, rfl, by decide +kernel, rfl, by decide +kernel, by decide +kernel⟩

abbrev s_law_free : Stmt := top 13
theorem sc_law_free : FnScope ["_law_rows", "_law_taken", "_law_row", "_law_place"] ["_law_rows", "_law_taken", "_law_row", "_law_place"] (defScope s_law_free) := ⟨rfl, rfl, rfl, by decide +kernel, rfl, by decide +kernel, by decide +kernel⟩

abbrev s_law_run : Stmt := top 14
theorem sc_law_run : FnScope ["_law_rows", "_law_taken", "_law_run_here", "_law_ahead", "_law_place"] ["_law_rows", "_law_taken", "_law_run_here", "_law_ahead"] (defScope s_law_run) := ⟨rfl, rfl, rfl, by decide +kernel, rfl, by decide +kernel, by decide +kernel⟩

abbrev s_law : Stmt := top 15
theorem sc_law : FnScope ["_law_script", "_law_rows", "_law_taken", "_law_handed", "_law_found", "_law_ahead", "_law_left", "_law_run_here", "_law_line"] ["_law_script"] (defScope s_law) := ⟨rfl, rfl, rfl, by decide +kernel, rfl, by decide +kernel, by decide +kernel⟩

structure Ad where
  blocks_in : Addr
  blocks_of : Addr
  runs_in : Addr
  runs_of : Addr
  law_cell_at : Addr
  law_whole : Addr
  law_row_by : Addr
  law_hall_by : Addr
  law_taken_by : Addr
  law_free : Addr
  law_run : Addr
  law : Addr

structure Fd where
  blocks_in : FuncData
  blocks_of : FuncData
  runs_in : FuncData
  runs_of : FuncData
  law_cell_at : FuncData
  law_whole : FuncData
  law_row_by : FuncData
  law_hall_by : FuncData
  law_taken_by : FuncData
  law_free : FuncData
  law_run : FuncData
  law : FuncData

def gm (K : PySem.W.Frag) (a : Ad) : Gm := ⟨K, 0, fun x => match x with | _ => .none⟩
structure Txt (K : PySem.W.Frag) (mg : Str → Option Value) (a : Ad) (d : Fd) : Prop where
  F_blocks_in : Fun K "blocks_in" "blocks_in" s_blocks_in a.blocks_in d.blocks_in
  b_blocks_in : Binds K d.blocks_in ["row", "line"] []
  m_blocks_in : mg "blocks_in" = some (.ref a.blocks_in)
  F_blocks_of : Fun K "blocks_of" "blocks_of" s_blocks_of a.blocks_of d.blocks_of
  b_blocks_of : Binds K d.blocks_of ["rows"] []
  m_blocks_of : mg "blocks_of" = some (.ref a.blocks_of)
  F_runs_in : Fun K "runs_in" "runs_in" s_runs_in a.runs_in d.runs_in
  b_runs_in : Binds K d.runs_in ["block", "taken"] []
  m_runs_in : mg "runs_in" = some (.ref a.runs_in)
  F_runs_of : Fun K "runs_of" "runs_of" s_runs_of a.runs_of d.runs_of
  b_runs_of : Binds K d.runs_of ["rows", "taken"] []
  m_runs_of : mg "runs_of" = some (.ref a.runs_of)
  F_law_cell_at : Fun K "_law_cell_at" "_law_cell_at" s_law_cell_at a.law_cell_at d.law_cell_at
  b_law_cell_at : Binds K d.law_cell_at ["_law_script", "_law_k"] []
  m_law_cell_at : mg "_law_cell_at" = some (.ref a.law_cell_at)
  F_law_whole : Fun K "_law_whole" "_law_whole" s_law_whole a.law_whole d.law_whole
  b_law_whole : Binds K d.law_whole ["_law_found"] []
  m_law_whole : mg "_law_whole" = some (.ref a.law_whole)
  F_law_row_by : Fun K "_law_row_by" "_law_row_by" s_law_row_by a.law_row_by d.law_row_by
  b_law_row_by : Binds K d.law_row_by ["_law_n"] []
  m_law_row_by : mg "_law_row_by" = some (.ref a.law_row_by)
  F_law_hall_by : Fun K "_law_hall_by" "_law_hall_by" s_law_hall_by a.law_hall_by d.law_hall_by
  b_law_hall_by : Binds K d.law_hall_by ["_law_script", "_law_k"] []
  m_law_hall_by : mg "_law_hall_by" = some (.ref a.law_hall_by)
  F_law_taken_by : Fun K "_law_taken_by" "_law_taken_by" s_law_taken_by a.law_taken_by d.law_taken_by
  b_law_taken_by : Binds K d.law_taken_by ["_law_rows", "_law_n"] []
  m_law_taken_by : mg "_law_taken_by" = some (.ref a.law_taken_by)
  F_law_free : Fun K "_law_free" "_law_free" s_law_free a.law_free d.law_free
  b_law_free : Binds K d.law_free ["_law_rows", "_law_taken", "_law_row", "_law_place"] []
  m_law_free : mg "_law_free" = some (.ref a.law_free)
  F_law_run : Fun K "_law_run" "_law_run" s_law_run a.law_run d.law_run
  b_law_run : Binds K d.law_run ["_law_rows", "_law_taken", "_law_run_here", "_law_ahead"] []
  m_law_run : mg "_law_run" = some (.ref a.law_run)
  F_law : Fun K "law" "law" s_law a.law d.law
  b_law : Binds K d.law ["_law_script"] []
  m_law : mg "law" = some (.ref a.law)
  z_bool : mg "bool" = none
  z_dict : mg "dict" = none
  z_int : mg "int" = none
  z_isinstance : mg "isinstance" = none
  z_len : mg "len" = none
  z_list : mg "list" = none
  z_range : mg "range" = none
  z_sum : mg "sum" = none
  z_tuple : mg "tuple" = none
  c_SEAT : ∃ t, mg "SEAT" = some (.str "o" t)
section
variable {P : Program} {w : World} {K : PySem.W.Frag} {mg : Str → Option Value} {base : Heap} {a : Ad} {d : Fd}
theorem ok_blocks_in (T : Txt K mg a d) : FnOk P w K mg base (L2.CX P w) 1 a.blocks_in d.blocks_in ["row", "line"] (spOf (gm K a) 2 F_blocks_in) := by
  refine T.F_blocks_in.okX sc_blocks_in (fun vs H Q E h => h.1) (fun cdv A outer s H vs Q E hr h => ⟨wS (gm K a) (fun cls d _ H' => E cls d H') fb_blocks_in, ?_, fn_read (N := ["row", "line", "found", "many", "place"]) (by decide) h⟩)
  have tk : Takes (cxOf (L2.CX P w) P w K mg base ["row", "line", "found", "many", "place"] "blocks_in" (defScope s_blocks_in) a.blocks_in cdv A outer s H E) (fun cls d _ H => E cls d H) := takes_of rfl rfl rfl rfl
  have hp := passes_of (X := cxOf (L2.CX P w) P w K mg base ["row", "line", "found", "many", "place"] "blocks_in" (defScope s_blocks_in) a.blocks_in cdv A outer s H E) rfl
  have hu := hr.units
  have hu0 := hr.units0
  have hu1 := hu_of hr
  exact (ss_cons (s_asg sc_blocks_in.nd rfl (Or.inl rfl) (d_new (d_lst (pe_lst d_anil)))) (ss_cons (s_asg sc_blocks_in.nd rfl (Or.inl rfl) d_int) (ss_cons (s_forR1 hp rfl sc_blocks_in.nd rfl (Or.inl rfl) rfl T.z_range (d_add (d_len T.z_len (d_var 1)) d_int) (ss_one (s_if (PW.pt (d_and (t_lt hu0 (d_var 4) (d_len T.z_len (d_var 1))) (d_and1 (t_eq hu (d_ix (d_var 1) (d_var 4)) (d_globS rfl T.c_SEAT.choose_spec ⟨_, rfl⟩))))) (ss_one (s_asg sc_blocks_in.nd rfl (Or.inl rfl) (d_add (d_var 3) d_int))) (ss_cons (s_if (t_gt (d_var 3) d_int) (ss_one (s_app (d_var 2) (d_tup (pe_tup (d_acons (d_var 0) (d_acons (d_sub (d_var 4) (d_var 3)) (d_acons (d_var 3) d_anil))))) (pe_bm PySem.F.plainAttrs_list PySem.F.slot_list_append PySem.F.type_list_append mt_append (d_var 2) (pa_cons (d_tup (pe_tup (d_acons (d_var 0) (d_acons (d_sub (d_var 4) (d_var 3)) (d_acons (d_var 3) d_anil))))) pa_nil)))) ss_nil) (ss_one (s_asg sc_blocks_in.nd rfl (Or.inl rfl) d_int)))))) (ss_one (s_ret (d_var 2))))))

theorem ok_blocks_of (T : Txt K mg a d) : FnOk P w K mg base (L2.CX P w) 2 a.blocks_of d.blocks_of ["rows"] (spOf (gm K a) 1 F_blocks_of) := by
  refine T.F_blocks_of.okX sc_blocks_of (fun vs H Q E h => h.1) (fun cdv A outer s H vs Q E hr h => ⟨wS (gm K a) (fun cls d _ H' => E cls d H') fb_blocks_of, ?_, fn_read (N := ["rows", "found", "row"]) (by decide) h⟩)
  have tk : Takes (cxOf (L2.CX P w) P w K mg base ["rows", "found", "row"] "blocks_of" (defScope s_blocks_of) a.blocks_of cdv A outer s H E) (fun cls d _ H => E cls d H) := takes_of rfl rfl rfl rfl
  have hp := passes_of (X := cxOf (L2.CX P w) P w K mg base ["rows", "found", "row"] "blocks_of" (defScope s_blocks_of) a.blocks_of cdv A outer s H E) rfl
  have hu := hr.units
  have hu0 := hr.units0
  have hu1 := hu_of hr
  exact (ss_cons (s_asg sc_blocks_of.nd rfl (Or.inl rfl) (d_imm (d_lst (pe_lst d_anil)))) (ss_cons (s_forR1 hp rfl sc_blocks_of.nd rfl (Or.inl rfl) rfl T.z_range (d_len T.z_len (d_var 0)) (ss_one (s_asg sc_blocks_of.nd rfl (Or.inl rfl) (d_add (d_var 1) (d_call (ok_blocks_in T) hr T.m_blocks_in T.F_blocks_in.kp T.b_blocks_in tk (d_acons (d_var 2) (d_acons (d_ix (d_var 0) (d_var 2)) d_anil)) (acons_len (acons_len anil_len))))))) (ss_one (s_ret (d_var 1)))))

theorem ok_runs_in (T : Txt K mg a d) : FnOk P w K mg base (L2.CX P w) 1 a.runs_in d.runs_in ["block", "taken"] (spOf (gm K a) 2 F_runs_in) := by
  refine T.F_runs_in.okX sc_runs_in (fun vs H Q E h => h.1) (fun cdv A outer s H vs Q E hr h => ⟨wS (gm K a) (fun cls d _ H' => E cls d H') fb_runs_in, ?_, fn_read (N := ["block", "taken", "found", "many", "place"]) (by decide) h⟩)
  have tk : Takes (cxOf (L2.CX P w) P w K mg base ["block", "taken", "found", "many", "place"] "runs_in" (defScope s_runs_in) a.runs_in cdv A outer s H E) (fun cls d _ H => E cls d H) := takes_of rfl rfl rfl rfl
  have hp := passes_of (X := cxOf (L2.CX P w) P w K mg base ["block", "taken", "found", "many", "place"] "runs_in" (defScope s_runs_in) a.runs_in cdv A outer s H E) rfl
  have hu := hr.units
  have hu0 := hr.units0
  have hu1 := hu_of hr
  exact (ss_cons (s_asg sc_runs_in.nd rfl (Or.inl rfl) (d_new (d_lst (pe_lst d_anil)))) (ss_cons (s_asg sc_runs_in.nd rfl (Or.inl rfl) d_int) (ss_cons (s_forR2 hp rfl sc_runs_in.nd rfl (Or.inl rfl) rfl T.z_range (d_ix (d_var 0) d_int) (d_add (d_add (d_ix (d_var 0) d_int) (d_ix (d_var 0) d_int)) d_int) (ss_one (s_if (PW.pt (d_and (t_lt hu0 (d_var 4) (d_add (d_ix (d_var 0) d_int) (d_ix (d_var 0) d_int))) (d_and1 (t_notIn hu1 (d_tup (pe_tup (d_acons (d_ix (d_var 0) d_int) (d_acons (d_var 4) d_anil)))) (d_var 1))))) (ss_one (s_asg sc_runs_in.nd rfl (Or.inl rfl) (d_add (d_var 3) d_int))) (ss_cons (s_if (t_gt (d_var 3) d_int) (ss_one (s_app (d_var 2) (d_tup (pe_tup (d_acons (d_ix (d_var 0) d_int) (d_acons (d_sub (d_var 4) (d_var 3)) (d_acons (d_var 3) d_anil))))) (pe_bm PySem.F.plainAttrs_list PySem.F.slot_list_append PySem.F.type_list_append mt_append (d_var 2) (pa_cons (d_tup (pe_tup (d_acons (d_ix (d_var 0) d_int) (d_acons (d_sub (d_var 4) (d_var 3)) (d_acons (d_var 3) d_anil))))) pa_nil)))) ss_nil) (ss_one (s_asg sc_runs_in.nd rfl (Or.inl rfl) d_int)))))) (ss_one (s_ret (d_var 2))))))

theorem ok_runs_of (T : Txt K mg a d) : FnOk P w K mg base (L2.CX P w) 3 a.runs_of d.runs_of ["rows", "taken"] (spOf (gm K a) 2 F_runs_of) := by
  refine T.F_runs_of.okX sc_runs_of (fun vs H Q E h => h.1) (fun cdv A outer s H vs Q E hr h => ⟨wS (gm K a) (fun cls d _ H' => E cls d H') fb_runs_of, ?_, fn_read (N := ["rows", "taken", "found", "block"]) (by decide) h⟩)
  have tk : Takes (cxOf (L2.CX P w) P w K mg base ["rows", "taken", "found", "block"] "runs_of" (defScope s_runs_of) a.runs_of cdv A outer s H E) (fun cls d _ H => E cls d H) := takes_of rfl rfl rfl rfl
  have hp := passes_of (X := cxOf (L2.CX P w) P w K mg base ["rows", "taken", "found", "block"] "runs_of" (defScope s_runs_of) a.runs_of cdv A outer s H E) rfl
  have hu := hr.units
  have hu0 := hr.units0
  have hu1 := hu_of hr
  exact (ss_cons (s_asg sc_runs_of.nd rfl (Or.inl rfl) (d_imm (d_lst (pe_lst d_anil)))) (ss_cons (s_forL hp rfl sc_runs_of.nd rfl (Or.inl rfl) (d_call (ok_blocks_of T) hr T.m_blocks_of T.F_blocks_of.kp T.b_blocks_of tk (d_acons (d_var 0) d_anil) (acons_len anil_len)) (ss_one (s_asg sc_runs_of.nd rfl (Or.inl rfl) (d_add (d_var 2) (d_call (ok_runs_in T) (hr.mono (by decide)) T.m_runs_in T.F_runs_in.kp T.b_runs_in tk (d_acons (d_var 3) (d_acons (d_var 1) d_anil)) (acons_len (acons_len anil_len))))))) (ss_one (s_ret (d_var 2)))))

theorem ok_law_cell_at (T : Txt K mg a d) : FnOk P w K mg base (L2.CX P w) 1 a.law_cell_at d.law_cell_at ["_law_script", "_law_k"] (spOf (gm K a) 2 F_law_cell_at) := by
  refine T.F_law_cell_at.okX sc_law_cell_at (fun vs H Q E h => h.1) (fun cdv A outer s H vs Q E hr h => ⟨wS (gm K a) (fun cls d _ H' => E cls d H') fb_law_cell_at, ?_, fn_read (N := ["_law_script", "_law_k"]) (by decide) h⟩)
  have tk : Takes (cxOf (L2.CX P w) P w K mg base ["_law_script", "_law_k"] "_law_cell_at" (defScope s_law_cell_at) a.law_cell_at cdv A outer s H E) (fun cls d _ H => E cls d H) := takes_of rfl rfl rfl rfl
  have hp := passes_of (X := cxOf (L2.CX P w) P w K mg base ["_law_script", "_law_k"] "_law_cell_at" (defScope s_law_cell_at) a.law_cell_at cdv A outer s H E) rfl
  have hu := hr.units
  have hu0 := hr.units0
  have hu1 := hu_of hr
  exact (ss_cons (s_if (t_lt hu0 (d_var 1) (d_len T.z_len (d_var 0))) (ss_one (s_ret (d_ix (d_var 0) (d_var 1)))) ss_nil) (ss_one (s_ret d_int)))

theorem ok_law_whole (T : Txt K mg a d) : FnOk P w K mg base (L2.CX P w) 1 a.law_whole d.law_whole ["_law_found"] (spOf (gm K a) 1 F_law_whole) := by
  refine T.F_law_whole.okX sc_law_whole (fun vs H Q E h => h.1) (fun cdv A outer s H vs Q E hr h => ⟨wS (gm K a) (fun cls d _ H' => E cls d H') fb_law_whole, ?_, fn_read (N := ["_law_found"]) (by decide) h⟩)
  have tk : Takes (cxOf (L2.CX P w) P w K mg base ["_law_found"] "_law_whole" (defScope s_law_whole) a.law_whole cdv A outer s H E) (fun cls d _ H => E cls d H) := takes_of rfl rfl rfl rfl
  have hp := passes_of (X := cxOf (L2.CX P w) P w K mg base ["_law_found"] "_law_whole" (defScope s_law_whole) a.law_whole cdv A outer s H E) rfl
  have hu := hr.units
  have hu0 := hr.units0
  have hu1 := hu_of hr
  exact (ss_one (s_ret (d_andV (d_isi kn_int T.z_isinstance (d_var 0) (d_tyName T.z_int PyProof.Rows.boot_int)) (d_oneV (d_notE (d_isi kn_bool T.z_isinstance (d_var 0) (d_tyName T.z_bool PyProof.Rows.boot_bool)))))))

theorem ok_law_row_by (T : Txt K mg a d) : FnOk P w K mg base (L2.CX P w) 1 a.law_row_by d.law_row_by ["_law_n"] (spOf (gm K a) 1 F_law_row_by) := by
  refine T.F_law_row_by.okX sc_law_row_by (fun vs H Q E h => h.1) (fun cdv A outer s H vs Q E hr h => ⟨wS (gm K a) (fun cls d _ H' => E cls d H') fb_law_row_by, ?_, fn_read (N := ["_law_n", "_law_many", "_law_gap", "_law_signs", "_law_place"]) (by decide) h⟩)
  have tk : Takes (cxOf (L2.CX P w) P w K mg base ["_law_n", "_law_many", "_law_gap", "_law_signs", "_law_place"] "_law_row_by" (defScope s_law_row_by) a.law_row_by cdv A outer s H E) (fun cls d _ H => E cls d H) := takes_of rfl rfl rfl rfl
  have hp := passes_of (X := cxOf (L2.CX P w) P w K mg base ["_law_n", "_law_many", "_law_gap", "_law_signs", "_law_place"] "_law_row_by" (defScope s_law_row_by) a.law_row_by cdv A outer s H E) rfl
  have hu := hr.units
  have hu0 := hr.units0
  have hu1 := hu_of hr
  exact (ss_cons (s_asg sc_law_row_by.nd rfl (Or.inl rfl) (d_mod (d_mul (d_var 0) d_int) d_int)) (ss_cons (s_asg sc_law_row_by.nd rfl (Or.inl rfl) (d_mod (d_var 0) d_int)) (ss_cons (s_if (t_eq hu (d_mod (d_div (d_var 0) d_int) d_int) d_int) (ss_one (s_asg sc_law_row_by.nd rfl (Or.inl rfl) (d_sub d_int (d_mod (d_div (d_var 0) d_int) d_int)))) ss_nil) (ss_cons (s_asg sc_law_row_by.nd rfl (Or.inl rfl) (d_add d_int (d_mod (d_div (d_var 0) d_int) d_int))) (ss_cons (s_asg sc_law_row_by.nd rfl (Or.inl rfl) d_str) (ss_cons (s_forR1 hp rfl sc_law_row_by.nd rfl (Or.inl rfl) rfl T.z_range (d_var 1) (ss_one (s_if (PW.pt (d_or (PW.pt (d_and (t_gt (d_mod (d_div (d_var 0) d_int) d_int) d_int) (d_and1 (t_eq hu (d_mod (d_add (d_var 4) (d_div (d_var 0) d_int)) (d_var 2)) d_int)))) (d_or1 (t_eq hu (d_mod (d_mul (d_var 4) (d_var 4)) d_int) (d_mod (d_div (d_var 0) d_int) d_int))))) (ss_one (s_asg sc_law_row_by.nd rfl (Or.inl rfl) (d_add (d_var 3) d_str))) (ss_one (s_asg sc_law_row_by.nd rfl (Or.inl rfl) (d_add (d_var 3) d_str)))))) (ss_one (s_ret (d_var 3)))))))))

theorem ok_law_hall_by (T : Txt K mg a d) : FnOk P w K mg base (L2.CX P w) 2 a.law_hall_by d.law_hall_by ["_law_script", "_law_k"] (spOf (gm K a) 2 F_law_hall_by) := by
  refine T.F_law_hall_by.okX sc_law_hall_by (fun vs H Q E h => h.1) (fun cdv A outer s H vs Q E hr h => ⟨wS (gm K a) (fun cls d _ H' => E cls d H') fb_law_hall_by, ?_, fn_read (N := ["_law_script", "_law_k", "_law_many", "_law_rows", "_law_j", "_law_n"]) (by decide) h⟩)
  have tk : Takes (cxOf (L2.CX P w) P w K mg base ["_law_script", "_law_k", "_law_many", "_law_rows", "_law_j", "_law_n"] "_law_hall_by" (defScope s_law_hall_by) a.law_hall_by cdv A outer s H E) (fun cls d _ H => E cls d H) := takes_of rfl rfl rfl rfl
  have hp := passes_of (X := cxOf (L2.CX P w) P w K mg base ["_law_script", "_law_k", "_law_many", "_law_rows", "_law_j", "_law_n"] "_law_hall_by" (defScope s_law_hall_by) a.law_hall_by cdv A outer s H E) rfl
  have hu := hr.units
  have hu0 := hr.units0
  have hu1 := hu_of hr
  exact (ss_cons (s_asg sc_law_hall_by.nd rfl (Or.inl rfl) (d_add d_int (d_mod (d_call (ok_law_cell_at T) hr T.m_law_cell_at T.F_law_cell_at.kp T.b_law_cell_at tk (d_acons (d_var 0) (d_acons (d_var 1) d_anil)) (acons_len (acons_len anil_len))) d_int))) (ss_cons (s_if (t_eq hu (d_mod (d_div (d_call (ok_law_cell_at T) hr T.m_law_cell_at T.F_law_cell_at.kp T.b_law_cell_at tk (d_acons (d_var 0) (d_acons (d_var 1) d_anil)) (acons_len (acons_len anil_len))) d_int) d_int) d_int) (ss_one (s_asg sc_law_hall_by.nd rfl (Or.inl rfl) d_int)) ss_nil) (ss_cons (s_asg sc_law_hall_by.nd rfl (Or.inl rfl) (d_new (d_lst (pe_lst d_anil)))) (ss_cons (s_forR1 hp rfl sc_law_hall_by.nd rfl (Or.inl rfl) rfl T.z_range (d_var 2) (ss_cons (s_asg sc_law_hall_by.nd rfl (Or.inl rfl) (d_add (d_call (ok_law_cell_at T) hr T.m_law_cell_at T.F_law_cell_at.kp T.b_law_cell_at tk (d_acons (d_var 0) (d_acons (d_add (d_add (d_var 1) d_int) (d_mod (d_var 4) d_int)) d_anil)) (acons_len (acons_len anil_len))) (d_mul d_int (d_div (d_var 4) d_int)))) (ss_one (s_if (t_eq hu (d_var 2) d_int) (ss_one (s_app (d_var 3) (d_sl (d_call (ok_law_row_by T) hr T.m_law_row_by T.F_law_row_by.kp T.b_law_row_by tk (d_acons (d_var 5) d_anil) (acons_len anil_len)) d_ponone (d_posome d_int)) (pe_bm PySem.F.plainAttrs_list PySem.F.slot_list_append PySem.F.type_list_append mt_append (d_var 3) (pa_cons (d_sl (d_call (ok_law_row_by T) hr T.m_law_row_by T.F_law_row_by.kp T.b_law_row_by tk (d_acons (d_var 5) d_anil) (acons_len anil_len)) d_ponone (d_posome d_int)) pa_nil)))) (ss_one (s_app (d_var 3) (d_call (ok_law_row_by T) hr T.m_law_row_by T.F_law_row_by.kp T.b_law_row_by tk (d_acons (d_var 5) d_anil) (acons_len anil_len)) (pe_bm PySem.F.plainAttrs_list PySem.F.slot_list_append PySem.F.type_list_append mt_append (d_var 3) (pa_cons (d_call (ok_law_row_by T) hr T.m_law_row_by T.F_law_row_by.kp T.b_law_row_by tk (d_acons (d_var 5) d_anil) (acons_len anil_len)) pa_nil)))))))) (ss_one (s_ret (d_var 3)))))))

theorem ok_law_taken_by (T : Txt K mg a d) : FnOk P w K mg base (L2.CX P w) 1 a.law_taken_by d.law_taken_by ["_law_rows", "_law_n"] (spOf (gm K a) 2 F_law_taken_by) := by
  refine T.F_law_taken_by.okX sc_law_taken_by (fun vs H Q E h => h.1) (fun cdv A outer s H vs Q E hr h => ⟨wS (gm K a) (fun cls d _ H' => E cls d H') fb_law_taken_by, ?_, fn_read (N := ["_law_rows", "_law_n", "_law_taken", "_law_at", "_law_row", "_law_place"]) (by decide) h⟩)
  have tk : Takes (cxOf (L2.CX P w) P w K mg base ["_law_rows", "_law_n", "_law_taken", "_law_at", "_law_row", "_law_place"] "_law_taken_by" (defScope s_law_taken_by) a.law_taken_by cdv A outer s H E) (fun cls d _ H => E cls d H) := takes_of rfl rfl rfl rfl
  have hp := passes_of (X := cxOf (L2.CX P w) P w K mg base ["_law_rows", "_law_n", "_law_taken", "_law_at", "_law_row", "_law_place"] "_law_taken_by" (defScope s_law_taken_by) a.law_taken_by cdv A outer s H E) rfl
  have hu := hr.units
  have hu0 := hr.units0
  have hu1 := hu_of hr
  exact (ss_cons (s_asg sc_law_taken_by.nd rfl (Or.inl rfl) (d_mod (d_mul (d_var 1) d_int) d_int)) (ss_cons (s_asg sc_law_taken_by.nd rfl (Or.inl rfl) (d_new d_dt)) (ss_cons (s_asg sc_law_taken_by.nd rfl (Or.inl rfl) d_int) (ss_cons (s_forR1 hp rfl sc_law_taken_by.nd rfl (Or.inl rfl) rfl T.z_range (d_len T.z_len (d_var 0)) (ss_one (s_forR1 hp rfl sc_law_taken_by.nd rfl (Or.inl rfl) rfl T.z_range (d_len T.z_len (d_ix (d_var 0) (d_var 4))) (ss_one (s_if (t_eq hu (d_ix (d_ix (d_var 0) (d_var 4)) (d_var 5)) d_str) (ss_cons (s_if (t_lt hu0 (d_mod (d_mod (d_mul (d_add (d_var 1) (d_mul d_int (d_div (d_var 3) (d_add d_int (d_mod (d_var 1) d_int))))) d_int) d_int) d_int) (d_mod (d_div (d_var 1) d_int) d_int)) (ss_one (s_dput hu1 (d_var 2) (d_tup (pe_tup (d_acons (d_var 4) (d_acons (d_var 5) d_anil)))) d_str)) ss_nil) (ss_one (s_asg sc_law_taken_by.nd rfl (Or.inl rfl) (d_add (d_var 3) d_int)))) ss_nil))))) (ss_one (s_ret (d_var 2)))))))

theorem ok_law_free (T : Txt K mg a d) : FnOk P w K mg base (L2.CX P w) 1 a.law_free d.law_free ["_law_rows", "_law_taken", "_law_row", "_law_place"] (spOf (gm K a) 4 F_law_free) := by
  refine T.F_law_free.okX sc_law_free (fun vs H Q E h => h.1) (fun cdv A outer s H vs Q E hr h => ⟨wS (gm K a) (fun cls d _ H' => E cls d H') fb_law_free, ?_, fn_read (N := ["_law_rows", "_law_taken", "_law_row", "_law_place"]) (by decide) h⟩)
  have tk : Takes (cxOf (L2.CX P w) P w K mg base ["_law_rows", "_law_taken", "_law_row", "_law_place"] "_law_free" (defScope s_law_free) a.law_free cdv A outer s H E) (fun cls d _ H => E cls d H) := takes_of rfl rfl rfl rfl
  have hp := passes_of (X := cxOf (L2.CX P w) P w K mg base ["_law_rows", "_law_taken", "_law_row", "_law_place"] "_law_free" (defScope s_law_free) a.law_free cdv A outer s H E) rfl
  have hu := hr.units
  have hu0 := hr.units0
  have hu1 := hu_of hr
  exact (ss_cons (s_if (PW.pt (d_or (t_lt hu0 (d_var 3) d_int) (d_or (t_ge (d_var 3) (d_len T.z_len (d_ix (d_var 0) (d_var 2)))) (d_or1 (t_ne hu (d_ix (d_ix (d_var 0) (d_var 2)) (d_var 3)) d_str))))) (ss_one (s_ret d_bl)) ss_nil) (ss_one (s_ret (d_notIn hu1 (d_tup (pe_tup (d_acons (d_var 2) (d_acons (d_var 3) d_anil)))) (d_var 1)))))

theorem ok_law_run (T : Txt K mg a d) : FnOk P w K mg base (L2.CX P w) 2 a.law_run d.law_run ["_law_rows", "_law_taken", "_law_run_here", "_law_ahead"] (spOf (gm K a) 4 F_law_run) := by
  refine T.F_law_run.okX sc_law_run (fun vs H Q E h => h.1) (fun cdv A outer s H vs Q E hr h => ⟨wS (gm K a) (fun cls d _ H' => E cls d H') fb_law_run, ?_, fn_read (N := ["_law_rows", "_law_taken", "_law_run_here", "_law_ahead", "_law_place"]) (by decide) h⟩)
  have tk : Takes (cxOf (L2.CX P w) P w K mg base ["_law_rows", "_law_taken", "_law_run_here", "_law_ahead", "_law_place"] "_law_run" (defScope s_law_run) a.law_run cdv A outer s H E) (fun cls d _ H => E cls d H) := takes_of rfl rfl rfl rfl
  have hp := passes_of (X := cxOf (L2.CX P w) P w K mg base ["_law_rows", "_law_taken", "_law_run_here", "_law_ahead", "_law_place"] "_law_run" (defScope s_law_run) a.law_run cdv A outer s H E) rfl
  have hu := hr.units
  have hu0 := hr.units0
  have hu1 := hu_of hr
  exact (ss_cons (s_if (PW.pt (d_or (d_not (d_test (d_isi kn_tuple T.z_isinstance (d_var 2) (d_tyName T.z_tuple PyProof.Rows.boot_tuple)))) (d_or1 (t_ne hu (d_len T.z_len (d_var 2)) d_int)))) (ss_one (s_ret d_bl)) ss_nil) (ss_cons (s_if (PW.pt (d_or (d_not (d_test (d_call (ok_law_whole T) hr T.m_law_whole T.F_law_whole.kp T.b_law_whole tk (d_acons (d_ix (d_var 2) d_int) d_anil) (acons_len anil_len)))) (d_or (d_not (d_test (d_call (ok_law_whole T) hr T.m_law_whole T.F_law_whole.kp T.b_law_whole tk (d_acons (d_ix (d_var 2) d_int) d_anil) (acons_len anil_len)))) (d_or1 (d_not (d_test (d_call (ok_law_whole T) hr T.m_law_whole T.F_law_whole.kp T.b_law_whole tk (d_acons (d_ix (d_var 2) d_int) d_anil) (acons_len anil_len)))))))) (ss_one (s_ret d_bl)) ss_nil) (ss_cons (s_if (PW.pt (d_or (t_lt hu0 (d_ix (d_var 2) d_int) d_int) (d_or (t_gt (d_ix (d_var 2) d_int) d_int) (d_or (d_not (t_lt hu0 (d_var 3) (d_tup (pe_tup (d_acons (d_ix (d_var 2) d_int) (d_acons (d_ix (d_var 2) d_int) d_anil)))))) (d_or1 (t_ge (d_ix (d_var 2) d_int) (d_len T.z_len (d_var 0)))))))) (ss_one (s_ret d_bl)) ss_nil) (ss_cons (s_forR2 hp rfl sc_law_run.nd rfl (Or.inl rfl) rfl T.z_range (d_ix (d_var 2) d_int) (d_add (d_ix (d_var 2) d_int) (d_ix (d_var 2) d_int)) (ss_one (s_if (d_not (d_test (d_call (ok_law_free T) hr T.m_law_free T.F_law_free.kp T.b_law_free tk (d_acons (d_var 0) (d_acons (d_var 1) (d_acons (d_ix (d_var 2) d_int) (d_acons (d_var 4) d_anil)))) (acons_len (acons_len (acons_len (acons_len anil_len))))))) (ss_one (s_ret d_bl)) ss_nil))) (ss_one (s_ret (d_andV (d_notE (d_call (ok_law_free T) hr T.m_law_free T.F_law_free.kp T.b_law_free tk (d_acons (d_var 0) (d_acons (d_var 1) (d_acons (d_ix (d_var 2) d_int) (d_acons (d_sub (d_ix (d_var 2) d_int) d_int) d_anil)))) (acons_len (acons_len (acons_len (acons_len anil_len)))))) (d_oneV (d_notE (d_call (ok_law_free T) hr T.m_law_free T.F_law_free.kp T.b_law_free tk (d_acons (d_var 0) (d_acons (d_var 1) (d_acons (d_ix (d_var 2) d_int) (d_acons (d_add (d_ix (d_var 2) d_int) (d_ix (d_var 2) d_int)) d_anil)))) (acons_len (acons_len (acons_len (acons_len anil_len))))))))))))))

theorem ok_law (T : Txt K mg a d) : FnOk P w K mg base (L2.CX P w) 4 a.law d.law ["_law_script"] (spOf (gm K a) 1 F_law) := by
  refine T.F_law.okX sc_law (fun vs H Q E h => h.1) (fun cdv A outer s H vs Q E hr h => ⟨wS (gm K a) (fun cls d _ H' => E cls d H') fb_law, ?_, fn_read (N := ["_law_script", "_law_rows", "_law_taken", "_law_handed", "_law_found", "_law_ahead", "_law_left", "_law_run_here", "_law_line"]) (by decide) h⟩)
  have tk : Takes (cxOf (L2.CX P w) P w K mg base ["_law_script", "_law_rows", "_law_taken", "_law_handed", "_law_found", "_law_ahead", "_law_left", "_law_run_here", "_law_line"] "law" (defScope s_law) a.law cdv A outer s H E) (fun cls d _ H => E cls d H) := takes_of rfl rfl rfl rfl
  have hp := passes_of (X := cxOf (L2.CX P w) P w K mg base ["_law_script", "_law_rows", "_law_taken", "_law_handed", "_law_found", "_law_ahead", "_law_left", "_law_run_here", "_law_line"] "law" (defScope s_law) a.law cdv A outer s H E) rfl
  have hu := hr.units
  have hu0 := hr.units0
  have hu1 := hu_of hr
  exact (ss_cons (s_asg sc_law.nd rfl (Or.inl rfl) (d_call (ok_law_hall_by T) (hr.mono (by decide)) T.m_law_hall_by T.F_law_hall_by.kp T.b_law_hall_by tk (d_acons (d_var 0) (d_acons d_int d_anil)) (acons_len (acons_len anil_len)))) (ss_cons (s_asg sc_law.nd rfl (Or.inl rfl) (d_call (ok_law_taken_by T) (hr.mono (by decide)) T.m_law_taken_by T.F_law_taken_by.kp T.b_law_taken_by tk (d_acons (d_var 1) (d_acons (d_call (ok_law_cell_at T) (hr.mono (by decide)) T.m_law_cell_at T.F_law_cell_at.kp T.b_law_cell_at tk (d_acons (d_var 0) (d_acons d_int d_anil)) (acons_len (acons_len anil_len))) d_anil)) (acons_len (acons_len anil_len)))) (ss_cons (s_asg sc_law.nd rfl (Or.inl rfl) (d_imm (d_lst (pe_lst (d_acons (d_imm (d_list rfl T.z_list (d_var 1))) (d_acons (d_imm (d_dict hu T.z_dict (d_var 2))) d_anil)))))) (ss_cons (s_asg sc_law.nd rfl (Or.inl rfl) (d_call (ok_runs_of T) hr T.m_runs_of T.F_runs_of.kp T.b_runs_of tk (d_acons (d_ix (d_var 3) d_int) (d_acons (d_ix (d_var 3) d_int) d_anil)) (acons_len (acons_len anil_len)))) (ss_cons (s_if (PW.pt (d_or (d_not (d_test (d_isi kn_list T.z_isinstance (d_var 4) (d_tyName T.z_list PyProof.Rows.boot_list)))) (d_or (t_ne hu (d_ix (d_var 3) d_int) (d_var 1)) (d_or1 (t_neT hu (d_ix (d_var 3) d_int) (d_var 2)))))) (ss_one (s_ret d_bl)) ss_nil) (ss_cons (s_asg sc_law.nd rfl (Or.inl rfl) (d_tup (pe_tup (d_acons (d_neg d_int) (d_acons (d_neg d_int) d_anil))))) (ss_cons (s_asg sc_law.nd rfl (Or.inl rfl) (d_sub (d_sum rfl T.z_sum (d_imm (d_lcL rfl sc_law.nd (d_var 1) (blkOk_by (own := [("_law_line", 8)]) (N := ["_law_script", "_law_rows", "_law_taken", "_law_handed", "_law_found", "_law_ahead", "_law_left", "_law_run_here", "_law_line"]) (sc := defScope s_law) (by decide +kernel)) (fun _ _ _ _ _ => pg_name (i := 8) sc_law.nd rfl (Or.inl rfl)) (fun _ _ _ _ _ => d_if0) (fun _ _ _ _ _ => (d_count (d_var 8) d_str (pe_m1 PySem.F.slot_str_count PySem.F.type_str_count mt_count (d_var 8) d_str)))))) (d_len T.z_len (d_var 2)))) (ss_cons (s_forL hp rfl sc_law.nd rfl (Or.inl rfl) (d_var 4) (ss_cons (s_if (d_not (d_test (d_call (ok_law_run T) (hr.mono (by decide)) T.m_law_run T.F_law_run.kp T.b_law_run tk (d_acons (d_var 1) (d_acons (d_var 2) (d_acons (d_var 7) (d_acons (d_var 5) d_anil)))) (acons_len (acons_len (acons_len (acons_len anil_len))))))) (ss_one (s_ret d_bl)) ss_nil) (ss_cons (s_asg sc_law.nd rfl (Or.inl rfl) (d_tup (pe_tup (d_acons (d_ix (d_var 7) d_int) (d_acons (d_ix (d_var 7) d_int) d_anil))))) (ss_one (s_asg sc_law.nd rfl (Or.inl rfl) (d_sub (d_var 6) (d_ix (d_var 7) d_int))))))) (ss_one (s_ret (d_eq hu (d_var 6) d_int)))))))))))

end
end LW
namespace LW
open PySem L2 SP
def cell (ns : List Int) (k : Nat) : Int := ns.getD k 0
theorem cell_at (ns : List Int) (k : Nat) (μ : Mu) (hμ : Low μ) : F_law_cell_at [.im (.scr ns), .im (.int k)] μ = .ok (.im (.int (cell ns k))) μ := by
  refine dFn_im0 hμ ?_
  unfold fb_law_cell_at
  by_cases h : k < ns.length
  · simp [h, atI_int, cell]
  · simp [h, cell]
theorem cell_atI (ns : List Int) (i : Int) (μ : Mu) (hμ : Low μ) (hi : 0 ≤ i) : F_law_cell_at [.im (.scr ns), .im (.int i)] μ = .ok (.im (.int (cell ns i.toNat))) μ := by
  obtain ⟨k, rfl⟩ := Int.eq_ofNat_of_zero_le hi
  exact cell_at ns k μ hμ
theorem low_one (c : Cell) (h : ∀ n, c.low n = true) : Low [c] := Low.flat fun x hx n => by
  have : x = c := by simpa using hx
  rw [this]; exact h n
theorem row_by (n : Int) (μ : Mu) (hμ : Low μ) : ∃ bs : List Bool, bs.length ≤ 60 ∧ F_law_row_by [.im (.int n)] μ = .ok (.im (.str (rowS bs))) μ := by
  suffices hs : ∃ bs : List Bool, bs.length ≤ 60 ∧ fb_law_row_by ([Sv.im (.int n)].map some ++ List.replicate 4 none) μ = .rt (.im (.str (rowS bs))) μ by
    obtain ⟨bs, hl, e⟩ := hs
    exact ⟨bs, hl, dFn_im0 hμ e⟩
  unfold fb_law_row_by
  simp [SP.small64]
  generalize n * 48271 % 2147483647 = z
  have hz : 0 < 2 + z / 324 % 7 := by omega
  generalize hm : (if z / 12 % 9 = 1 then 60 - z / 108 % 3 else z % 12) = m
  have hm1 : 0 ≤ m ∧ m ≤ 60 := by subst hm; split <;> omega
  rw [if_pos (in62_small (by omega) (by omega))]
  refine loop_then (fun o => ∃ bs : List Bool, bs.length ≤ 60 ∧ o = O.rt (.im (.str (rowS bs))) μ)
    (fun k ρ μ' => ∃ (bs : List Bool) (v4 : Option Sv), bs.length = k ∧ ρ = [some (.im (.int z)), some (.im (.int m)), some (.im (.int (2 + z / 324 % 7))), some (.im (.str (rowS bs))), v4] ∧ μ' = μ)
    ⟨[], none, rfl, rfl, rfl⟩ ?_ ?_
  · rintro k d ρ μ' hd ⟨bs, v4, hk, rfl, rfl⟩
    obtain ⟨hk2, rfl⟩ := range_get hd
    obtain ⟨p, hp⟩ : ∃ p : Int, 0 + (k : Int) = p := ⟨_, rfl⟩
    have s1 : (SP.small64 p) = true := small64_small (by omega) (by omega)
    rw [hp]
    have hl : bs.length + 1 ≤ maxN := by rw [hk]; simp only [maxN]; omega
    by_cases h1 : 0 < z / 15876 % 3 <;> by_cases h2 : (p + z / 2268) % (2 + z / 324 % 7) = 0 <;> by_cases h3 : p * p % 11 = z / 47628 % 13 <;> simp [s1, hz, h1, h2, h3, hl] <;>
      exact ⟨_, _, ⟨rfl, rfl⟩, bs ++ [_], by rw [List.length_append, hk]; rfl, ⟨_, rfl⟩, rfl⟩
  · rintro ρ μ' ⟨bs, v4, hk, rfl, rfl⟩
    exact ⟨bs, by rw [hk, range_len]; omega, by simp⟩
theorem hall_by (ns : List Int) : ∃ hs : List (List Bool), 1 ≤ hs.length ∧ hs.length ≤ 40 ∧ (∀ b ∈ hs, b.length ≤ 60) ∧ F_law_hall_by [.im (.scr ns), .im (.int 0)] [] = .ok (.im (dHall hs)) [] := by
  have c0 := cell_at ns 0 [] low_nil
  simp at c0
  suffices hs : ∃ hs : List (List Bool), 1 ≤ hs.length ∧ hs.length ≤ 40 ∧ (∀ b ∈ hs, b.length ≤ 60) ∧ ∃ r, fb_law_hall_by ([Sv.im (.scr ns), .im (.int 0)].map some ++ List.replicate 4 none) [] = .rt (.rf 0) ([] ++ .lst (hs.map fun bs => .str (rowS bs)) :: r) by
    obtain ⟨hs, h1, h2, h3, r, e⟩ := hs
    exact ⟨hs, h1, h2, h3, dFn_lst low_nil e⟩
  unfold fb_law_hall_by
  simp [c0]
  generalize hm : (if cell ns 0 / 5 % 11 = 1 then 40 else 1 + cell ns 0 % 5) = m
  have hm1 : 1 ≤ m ∧ m ≤ 40 := by subst hm; split <;> omega
  rw [if_pos (in62_small (by omega) (by omega))]
  refine loop_then (fun o => ∃ hs : List (List Bool), 1 ≤ hs.length ∧ hs.length ≤ 40 ∧ (∀ b ∈ hs, b.length ≤ 60) ∧ ∃ r, o = O.rt (.rf 0) (.lst (hs.map fun bs => .str (rowS bs)) :: r))
    (fun k ρ μ => ∃ (hs : List (List Bool)) (v4 v5 : Option Sv), hs.length = k ∧ (∀ b ∈ hs, b.length ≤ 60) ∧ ρ = [some (.im (.scr ns)), some (.im (.int 0)), some (.im (.int m)), some (.rf 0), v4, v5] ∧ μ = [.lst (hs.map fun bs => .str (rowS bs))])
    ⟨[], none, none, rfl, by simp, rfl, rfl⟩ ?_ ?_
  · rintro k d ρ μ hd ⟨hs, v4, v5, hk, hb, rfl, rfl⟩
    obtain ⟨hk2, rfl⟩ := range_get hd
    have hc := cell_atI ns (1 + (k : Int) % 3) [.lst (hs.map fun bs => .str (rowS bs))] (low_one _ fun _ => rfl) (by omega)
    obtain ⟨bs, hl, hr⟩ := row_by (cell ns (1 + (k : Int) % 3).toNat + 7919 * ((k : Int) / 3)) [.lst (hs.map fun bs => .str (rowS bs))] (low_one _ fun _ => rfl)
    have hl2 : hs.length < maxN := by rw [hk]; simp only [maxN]; omega
    by_cases h1 : m = 40
    · simp [SP.small64, hc, hr, hl2, h1]
      exact ⟨_, _, ⟨rfl, rfl⟩, hs ++ [bs.take 11], by rw [List.length_append, hk]; rfl, by
        intro b hx
        rcases List.mem_append.mp hx with q | q
        · exact hb b q
        · have : b = bs.take 11 := by simpa using q
          rw [this, List.length_take]; omega, ⟨_, _, rfl⟩, by rw [List.map_append]; rfl⟩
    · simp [SP.small64, hc, hr, hl2, h1]
      exact ⟨_, _, ⟨rfl, rfl⟩, hs ++ [bs], by rw [List.length_append, hk]; rfl, by
        intro b hx
        rcases List.mem_append.mp hx with q | q
        · exact hb b q
        · have : b = bs := by simpa using q
          rw [this]; exact hl, ⟨_, _, rfl⟩, by rw [List.map_append]; rfl⟩
  · rintro ρ μ ⟨hs, v4, v5, hk, hb, rfl, rfl⟩
    rw [range_len] at hk
    exact ⟨hs, by omega, by omega, hb, [], by simp⟩
theorem blocks_in (r : Int) (bs : List Bool) (hb : bs.length ≤ 60) (μ : Mu) (hμ : Low μ) : F_blocks_in [.im (.int r), .im (.str (rowS bs))] μ = .ok (.im (dRuns (gob r bs 0 0))) μ := by
  suffices hs : ∃ z, fb_blocks_in ([Sv.im (.int r), .im (.str (rowS bs))].map some ++ List.replicate 3 none) μ = .rt (.rf μ.length) (μ ++ .lst ((gob r bs 0 0).map dRun) :: z) by
    obtain ⟨z, e⟩ := hs
    exact dFn_lst hμ e
  unfold fb_blocks_in
  simp
  rw [if_pos (in62_small (by omega) (by omega))]
  refine loop_then (fun o => ∃ z, o = O.rt (.rf μ.length) (μ ++ .lst ((gob r bs 0 0).map dRun) :: z))
    (fun k ρ μ' => ∃ (f : List Rn) (m : Nat) (v : Option Sv), m ≤ k ∧ (k ≤ bs.length → f ++ gob r (bs.drop k) k m = gob r bs 0 0) ∧ (bs.length < k → f = gob r bs 0 0) ∧ ρ = [some (.im (.int r)), some (.im (.str (rowS bs))), some (.rf μ.length), some (.im (.int m)), v] ∧ μ' = μ ++ [.lst (f.map dRun)])
    ⟨[], 0, none, Nat.le_refl _, by simp, by simp, rfl, rfl⟩ ?_ ?_
  · rintro k d ρ μ' hd ⟨f, m, v, hm, h1, h2, rfl, rfl⟩
    obtain ⟨hk, rfl⟩ := range_get hd
    have hk : k < bs.length + 1 := by omega
    have h1 := h1 (by omega)
    have hl : f.length < maxN := by
      have e := congrArg List.length h1
      have := gob_len r bs 0 0
      rw [List.length_append] at e
      simp only [maxN]; omega
    have go : ∀ (f' : List Rn) (m' : Nat) (v' : Option Sv) , m' ≤ k + 1 → (k + 1 ≤ bs.length → f' ++ gob r (bs.drop (k + 1)) (k + 1) m' = gob r bs 0 0) → (bs.length < k + 1 → f' = gob r bs 0 0) → ∀ {o : O}, o = .nx [some (.im (.int r)), some (.im (.str (rowS bs))), some (.rf μ.length), some (.im (.int (m' : Int))), v'] (μ ++ [.lst (f'.map dRun)]) →
        ∃ ρ' μ', o = .nx ρ' μ' ∧ ∃ (f : List Rn) (m : Nat) (v : Option Sv), m ≤ k + 1 ∧ (k + 1 ≤ bs.length → f ++ gob r (bs.drop (k + 1)) (k + 1) m = gob r bs 0 0) ∧ (bs.length < k + 1 → f = gob r bs 0 0) ∧ ρ' = [some (.im (.int r)), some (.im (.str (rowS bs))), some (.rf μ.length), some (.im (.int m)), v] ∧ μ' = μ ++ [.lst (f.map dRun)] :=
      fun f' m' v' q1 q2 q3 _ e => ⟨_, _, e, f', m', v', q1, q2, q3, rfl, rfl⟩
    by_cases hk2 : k < bs.length
    · have g := row_get (bs := bs) (i := (k : Int)) (by omega) (by omega)
      have hd : bs.drop k = bs.getD k false :: bs.drop (k + 1) := by
        rw [List.drop_eq_getElem_cons hk2, List.getD_eq_getElem?_getD, List.getElem?_eq_getElem hk2]; rfl
      rw [hd] at h1
      rw [Int.toNat_natCast] at g
      cases hb2 : bs.getD k false with
      | true =>
        rw [hb2] at h1 g
        exact go f (m + 1) (some (.im (.int k))) (by omega) (fun _ => h1) (fun _ => by omega) (by simp [hk2, g])
      | false =>
        rw [hb2] at h1 g
        by_cases hm0 : 0 < m
        · refine go (f ++ [(r, (k : Int) - m, (m : Int))]) 0 (some (.im (.int k))) (by omega) (fun _ => ?_) (fun _ => by omega) (by simp [hk2, g, hm0, hl, dRun])
          rw [← h1]
          simp [gob, hm0]
        · refine go f 0 (some (.im (.int k))) (by omega) (fun _ => ?_) (fun _ => by omega) (by simp [hk2, g, hm0])
          rw [← h1]
          simp [gob, hm0]
    · have hk3 : k = bs.length := by omega
      subst hk3
      rw [List.drop_length] at h1
      by_cases hm0 : 0 < m
      · refine go (f ++ [(r, (bs.length : Int) - m, (m : Int))]) 0 (some (.im (.int bs.length))) (by omega) (fun _ => by omega) (fun _ => ?_) (by simp [hm0, hl, dRun])
        rw [← h1]
        simp [gob, hm0]
      · refine go f 0 (some (.im (.int bs.length))) (by omega) (fun _ => by omega) (fun _ => ?_) (by simp [hm0])
        rw [← h1]
        simp [gob, hm0]
  · rintro ρ μ' ⟨f, m, v, hm, h1, h2, rfl, rfl⟩
    rw [range_len] at h2
    rw [h2 (by omega)]
    exact ⟨[], by simp⟩
theorem blocks_of (hs : List (List Bool)) (h2 : hs.length ≤ 40) (hb : ∀ b ∈ hs, b.length ≤ 60) : F_blocks_of [.im (dHall hs)] [] = .ok (.im (dRuns (blks 0 hs))) [] := by
  refine dFn_im0 low_nil ?_
  unfold fb_blocks_of
  simp
  rw [if_pos (in62_small (by omega) (by omega))]
  refine loop_then (fun o => o = O.rt (.im (dRuns (blks 0 hs))) [])
    (fun k ρ μ => ∃ (f : List Rn) (v : Option Sv), (k ≤ hs.length → f ++ blks k (hs.drop k) = blks 0 hs) ∧ ρ = [some (.im (dHall hs)), some (.im (dRuns f)), v] ∧ μ = []) ⟨[], none, by simp, rfl, rfl⟩ ?_ ?_
  · rintro k d ρ μ hd ⟨f, v, h1, rfl, rfl⟩
    obtain ⟨hk, rfl⟩ := range_get hd
    have hk : k < hs.length := by omega
    have h1 := h1 (by omega)
    have g := hall_get (hs := hs) (i := (k : Int)) (by omega) (by omega)
    rw [Int.toNat_natCast] at g
    have hd : hs.drop k = hs.getD k [] :: hs.drop (k + 1) := by
      rw [List.drop_eq_getElem_cons hk, List.getD_eq_getElem?_getD, List.getElem?_eq_getElem hk]; rfl
    rw [hd] at h1
    have hbk : (hs.getD k []).length ≤ 60 := by
      rw [List.getD_eq_getElem?_getD, List.getElem?_eq_getElem hk]
      exact hb _ (List.getElem_mem hk)
    have e := blocks_in k (hs.getD k []) hbk [] low_nil
    simp only [blks] at h1
    have hl : f.length + (gob k (hs.getD k []) 0 0).length ≤ maxN := by
      have e := congrArg List.length h1
      have := blks_len hs 0 hb
      rw [List.length_append, List.length_append] at e
      simp only [maxN]; omega
    generalize hs.getD k [] = bs at g h1 hl hbk e
    refine ⟨[some (.im (dHall hs)), some (.im (dRuns (f ++ gob k bs 0 0))), some (.im (.int k))], [], by simp [g, e, dRuns, hl], f ++ gob k bs 0 0, some (.im (.int k)), fun _ => ?_, rfl, rfl⟩
    rw [← h1, List.append_assoc]; simp
  · rintro ρ μ ⟨f, v, h1, rfl, rfl⟩
    rw [range_len] at h1
    have h1 := h1 (by omega)
    have : f = blks 0 hs := by simpa [blks] using h1
    simp [this]
theorem whole (i : Int) : F_law_whole [.im (.int i)] [] = .ok (.im (.bl true)) [] := by
  refine dFn_im0 low_nil ?_
  unfold fb_law_whole
  simp
theorem go_at {α : Type} {xs : List α} {k : Nat} {x : α} (hx : xs[k]? = some x) : k < xs.length ∧ xs.drop k = x :: xs.drop (k + 1) := by
  have hk : k < xs.length := by
    rcases Nat.lt_or_ge k xs.length with q | q
    · exact q
    · rw [List.getElem?_eq_none q] at hx; cases hx
  refine ⟨hk, ?_⟩
  rw [List.drop_eq_getElem_cons hk]
  rw [List.getElem?_eq_getElem hk] at hx
  cases hx; rfl
theorem runs_in (t : Tk) (r : Int) (s m : Nat) (hs : s + m ≤ 100) (μ : Mu) (hμ : Low μ) : F_runs_in [.im (.tup [.int r, .int s, .int m]), .im (.dt (t.map kT))] μ = .ok (.im (dRuns (gob r (fl t r s m) s 0))) μ := by
  suffices hs : ∃ z, fb_runs_in ([Sv.im (.tup [.int r, .int s, .int m]), .im (.dt (t.map kT))].map some ++ List.replicate 3 none) μ = .rt (.rf μ.length) (μ ++ .lst ((gob r (fl t r s m) s 0).map dRun) :: z) by
    obtain ⟨z, e⟩ := hs
    exact dFn_lst hμ e
  have i1 : in62 (s : Int) = true := in62_small (by omega) (by omega)
  have i2 : in62 ((s : Int) + (m : Int) + 1) = true := in62_small (by omega) (by omega)
  unfold fb_runs_in
  simp [i1, i2]
  have hn : ((s : Int) + (m : Int) + 1).toNat - s = m + 1 := by omega
  rw [hn]
  refine loop_then (fun o => ∃ z, o = O.rt (.rf μ.length) (μ ++ .lst ((gob r (fl t r s m) s 0).map dRun) :: z))
    (fun k ρ μ' => ∃ (f : List Rn) (c : Nat) (v : Option Sv), c ≤ k ∧ (k ≤ m → f ++ gob r ((fl t r s m).drop k) (s + k) c = gob r (fl t r s m) s 0) ∧ (m < k → f = gob r (fl t r s m) s 0) ∧ ρ = [some (.im (.tup [.int r, .int s, .int m])), some (.im (.dt (t.map kT))), some (.rf μ.length), some (.im (.int c)), v] ∧ μ' = μ ++ [.lst (f.map dRun)])
    ⟨[], 0, none, Nat.le_refl _, by simp, by simp, rfl, rfl⟩ ?_ ?_
  · rintro k d ρ μ' hd ⟨f, c, v, hm, h1, h2, rfl, rfl⟩
    obtain ⟨hk, rfl⟩ := range_get hd
    have h1 := h1 (by omega)
    have hl : f.length < maxN := by
      have e := congrArg List.length h1
      have := gob_len r (fl t r s m) s 0
      rw [List.length_append] at e
      rw [fl_len] at this
      simp only [maxN]; omega
    obtain ⟨p, hp⟩ : ∃ p : Int, (s : Int) + (k : Int) = p := ⟨_, rfl⟩
    have hp2 : p - c = ((s + k : Nat) : Int) - c := by omega
    have go : ∀ (f' : List Rn) (m' : Nat) (v' : Option Sv) , m' ≤ k + 1 → (k + 1 ≤ m → f' ++ gob r ((fl t r s m).drop (k + 1)) (s + (k + 1)) m' = gob r (fl t r s m) s 0) → (m < k + 1 → f' = gob r (fl t r s m) s 0) → ∀ {o : O}, o = .nx [some (.im (.tup [.int r, .int s, .int m])), some (.im (.dt (t.map kT))), some (.rf μ.length), some (.im (.int (m' : Int))), v'] (μ ++ [.lst (f'.map dRun)]) →
        ∃ ρ' μ', o = .nx ρ' μ' ∧ ∃ (f : List Rn) (c : Nat) (v : Option Sv), c ≤ k + 1 ∧ (k + 1 ≤ m → f ++ gob r ((fl t r s m).drop (k + 1)) (s + (k + 1)) c = gob r (fl t r s m) s 0) ∧ (m < k + 1 → f = gob r (fl t r s m) s 0) ∧ ρ' = [some (.im (.tup [.int r, .int s, .int m])), some (.im (.dt (t.map kT))), some (.rf μ.length), some (.im (.int c)), v] ∧ μ' = μ ++ [.lst (f.map dRun)] :=
      fun f' m' v' q1 q2 q3 _ e => ⟨_, _, e, f', m', v', q1, q2, q3, rfl, rfl⟩
    rw [hp]
    by_cases hk2 : k < m
    · rw [fl_get t r s m k hk2] at h1
      have hc : p < (s : Int) + m := by omega
      have e2 : ((s + k : Nat) : Int) = p := by omega
      rw [e2] at h1
      cases hb2 : inT t (r, p) with
      | false =>
        rw [hb2] at h1
        exact go f (c + 1) (some (.im (.int p))) (by omega) (fun _ => h1) (fun _ => by omega) (by simp [hc, hb2])
      | true =>
        rw [hb2] at h1
        by_cases hm0 : 0 < c
        · refine go (f ++ [(r, p - c, (c : Int))]) 0 (some (.im (.int p))) (by omega) (fun _ => ?_) (fun _ => by omega) (by simp [hc, hb2, hm0, hl, dRun])
          rw [← h1, ← e2]
          simp [gob, hm0, Nat.add_assoc]
        · refine go f 0 (some (.im (.int p))) (by omega) (fun _ => ?_) (fun _ => by omega) (by simp [hc, hb2, hm0])
          rw [← h1]
          simp [gob, hm0, Nat.add_assoc]
    · have hk3 : k = m := by omega
      have hc : ¬ p < (s : Int) + m := by omega
      have hdr : (fl t r s m).drop k = [] := by rw [hk3]; exact List.drop_eq_nil_of_le (by simp)
      rw [hdr] at h1
      by_cases hm0 : 0 < c
      · refine go (f ++ [(r, p - c, (c : Int))]) 0 (some (.im (.int p))) (by omega) (fun _ => by omega) (fun _ => ?_) (by simp [hc, hm0, hl, dRun])
        rw [← h1, hp2]
        simp [gob, hm0]
      · refine go f 0 (some (.im (.int p))) (by omega) (fun _ => by omega) (fun _ => ?_) (by simp [hc, hm0])
        rw [← h1]
        simp [gob, hm0]
  · rintro ρ μ' ⟨f, c, v, hm, h1, h2, rfl, rfl⟩
    rw [range_len] at h2
    rw [h2 (by omega)]
    exact ⟨[], by simp⟩
theorem runs_of (hs : List (List Bool)) (t : Tk) (h2 : hs.length ≤ 40) (hb : ∀ b ∈ hs, b.length ≤ 60) : F_runs_of [.im (dHall hs), .im (.dt (t.map kT))] [] = .ok (.im (dRuns (blks 0 (frH t 0 hs)))) [] := by
  refine dFn_im0 low_nil ?_
  have e := blocks_of hs h2 hb
  have hr := runs_hall t hs 0
  rw [show ((0 : Nat) : Int) = 0 from rfl] at hr
  have hlen := blks_len (frH t 0 hs) 0 (frH_mem t hs 0 hb)
  rw [frH_len] at hlen
  unfold fb_runs_of
  simp [e, dRuns]
  refine loop_then (fun o => o = O.rt (.im (dRuns (blks 0 (frH t 0 hs)))) [])
    (fun k ρ μ => ∃ (f : List Rn) (v : Option Sv), f ++ ((blks 0 hs).drop k).flatMap (SP.rIn t) = blks 0 (frH t 0 hs) ∧ ρ = [some (.im (dHall hs)), some (.im (.dt (t.map kT))), some (.im (.lst (f.map dRun))), v] ∧ μ = []) ⟨[], none, by simpa using hr, rfl, rfl⟩ ?_ ?_
  · rintro k d ρ μ hd ⟨f, v, h1, rfl, rfl⟩
    obtain ⟨x, hx, rfl⟩ := map_get hd
    obtain ⟨hk, hdr⟩ := go_at hx
    rw [hdr, List.flatMap_cons] at h1
    have good := blks_good hs [] x (List.mem_of_getElem? hx)
    simp only [List.nil_append] at good
    have hbl : (hs.getD x.1.toNat []).length ≤ 60 := by
      rw [List.getD_eq_getElem?_getD, List.getElem?_eq_getElem good.2.1]
      exact hb _ (List.getElem_mem good.2.1)
    obtain ⟨r, s, m⟩ := x
    have g := good.2.2
    have g1 := g.s0
    have g2 := g.m1
    have g3 := g.hi
    simp only at g1 g2 g3 hbl
    obtain ⟨s', rfl⟩ := Int.eq_ofNat_of_zero_le g1
    obtain ⟨m', rfl⟩ := Int.eq_ofNat_of_zero_le (show 0 ≤ m by omega)
    have ei := runs_in t r s' m' (by omega) [] low_nil
    have hri : SP.rIn t (r, (s' : Int), (m' : Int)) = gob r (fl t r s' m') s' 0 := by simp [SP.rIn]
    rw [hri] at h1
    have hl : f.length + (gob r (fl t r s' m') s' 0).length ≤ maxN := by
      have e := congrArg List.length h1
      rw [List.length_append, List.length_append] at e
      simp only [maxN]; omega
    refine ⟨[some (.im (dHall hs)), some (.im (.dt (t.map kT))), some (.im (.lst ((f ++ gob r (fl t r s' m') s' 0).map dRun))), some (.im (.tup [.int r, .int s', .int m']))], [], by simp [dRun, ei, dRuns, hl], f ++ gob r (fl t r s' m') s' 0, _, ?_, rfl, rfl⟩
    rw [← h1, List.append_assoc]
  · rintro ρ μ ⟨f, v, h1, rfl, rfl⟩
    rw [List.length_map, List.drop_length, List.flatMap_nil, List.append_nil] at h1
    simp [h1, dRuns]
theorem law_free (hs : List (List Bool)) (t : Tk) (r i : Int) (h0 : 0 ≤ r) (hn : r.toNat < hs.length) : F_law_free [.im (dHall hs), .im (.dt (t.map kT)), .im (.int r), .im (.int i)] [] = .ok (.im (.bl (st ((frH t 0 hs).getD r.toNat []) i))) [] := by
  refine dFn_im0 low_nil ?_
  have g := hall_get (hs := hs) (i := r) h0 (by omega)
  rw [frH_get t hs 0 r.toNat hn]
  have e0 : ((0 + r.toNat : Nat) : Int) = r := by omega
  rw [e0]
  generalize hs.getD r.toNat [] = bs at g
  unfold fb_law_free
  by_cases h1 : i < 0
  · have : st (frR t r 0 bs) i = false := by unfold st; rw [decide_eq_false (by omega)]; rfl
    simp [h1, this]
  · have hi : 0 ≤ i := by omega
    have e : st (frR t r 0 bs) i = (bs.getD i.toNat false && !inT t (r, i)) := by
      unfold st
      rw [decide_eq_true hi, Bool.true_and, frR_get]
      have : ((0 + i.toNat : Nat) : Int) = i := by omega
      rw [this]
    by_cases h2 : (bs.length : Int) ≤ i
    · have : bs.getD i.toNat false = false := by rw [List.getD_eq_getElem?_getD, List.getElem?_eq_none (by omega)]; rfl
      rw [this] at e
      simp [h1, h2, g, e]
    · have g2 := row_get (bs := bs) (i := i) hi (by omega)
      generalize bs.getD i.toNat false = b at e g2
      cases b with
      | false => simp [h1, h2, g, g2, e]
      | true => simp [h1, h2, g, g2, e]
theorem law_run (hs : List (List Bool)) (t : Tk) (hb : ∀ b ∈ hs, b.length ≤ 60) (x : Rn) (a1 a2 : Int) (hx : 0 ≤ x.1 ∧ x.1.toNat < (frH t 0 hs).length ∧ GB ((frH t 0 hs).getD x.1.toNat []) x.2.1 x.2.2) (ha : a1 < x.1 ∨ a1 = x.1 ∧ a2 < x.2.1) : F_law_run [.im (dHall hs), .im (.dt (t.map kT)), .im (dRun x), .im (.tup [.int a1, .int a2])] [] = .ok (.im (.bl true)) [] := by
  refine dFn_im0 low_nil ?_
  obtain ⟨r, s, m⟩ := x
  obtain ⟨h0, hn, g⟩ := hx
  rw [frH_len] at hn
  have w := whole
  have hl : ((frH t 0 hs).getD r.toNat []).length ≤ 60 := by
    rw [List.getD_eq_getElem?_getD, List.getElem?_eq_getElem (by rw [frH_len]; exact hn)]
    exact frH_mem t hs 0 hb _ (List.getElem_mem _)
  obtain ⟨m1, s0, hi, all, lo, up⟩ := g
  simp only at h0 hn m1 s0 hi all lo up ha hl
  have sb := fun i => law_free hs t r i h0 hn
  have n1 : ¬ m < 1 := by omega
  have n2 : ¬ 60 < m := by omega
  have n3 : ¬ (hs.length : Int) ≤ r := by omega
  have i1 : in62 s = true := in62_small (by omega) (by omega)
  have i2 : in62 (s + m) = true := in62_small (by omega) (by omega)
  unfold fb_law_run
  simp [dRun, w, n1, n2, n3, ha, i1, i2]
  refine loop_then (fun o => o = O.rt (.im (.bl true)) []) (fun k ρ μ => ∃ v : Option Sv, ρ = [some (.im (dHall hs)), some (.im (.dt (t.map kT))), some (.im (.tup [.int r, .int s, .int m])), some (.im (.tup [.int a1, .int a2])), v] ∧ μ = []) ⟨none, rfl, rfl⟩ ?_ ?_
  · rintro k d ρ μ hd ⟨v, rfl, rfl⟩
    obtain ⟨hk, rfl⟩ := range_get hd
    have q := sb (s + k)
    rw [all _ (by omega) (by omega)] at q
    simp [q]
  · rintro ρ μ ⟨v, rfl, rfl⟩
    have q1 := sb (s - 1)
    have q2 := sb (s + m)
    rw [lo] at q1
    rw [up] at q2
    simp [q1, q2]
/-- the keys of t are seats that stand ahead of place j of row k -/
structure TB (hs : List (List Bool)) (k : Nat) (bs : List Bool) (j : Nat) (t : Tk) : Prop where
  ok : okT t
  sub : (t.map (·.1)).Sublist (seatsH 0 (hs.take k) ++ seatsR (k : Int) 0 (bs.take j))
  lt : ∀ q ∈ t, q.1.1 < k ∨ q.1.1 = k ∧ q.1.2 < j
  len : t.length ≤ 60 * k + j
theorem TB.skip {hs : List (List Bool)} {k : Nat} {bs : List Bool} {j : Nat} {t : Tk} (h : TB hs k bs j t) (hj : j < bs.length) : TB hs k bs (j + 1) t := by
  refine ⟨h.ok, ?_, fun q hq => ?_, by have := h.len; omega⟩
  · rw [List.take_add_one, List.getElem?_eq_getElem hj]
    simp only [Option.toList_some]
    rw [seatsR_snoc, ← List.append_assoc]
    exact h.sub.trans (List.sublist_append_left _ _)
  · rcases h.lt q hq with e | ⟨e, f⟩
    · exact .inl e
    · exact .inr ⟨e, by omega⟩
theorem TB.put {hs : List (List Bool)} {k : Nat} {bs : List Bool} {j : Nat} {t : Tk} (h : TB hs k bs j t) (hj : j < bs.length) (hb : bs.getD j false = true) (v : Str) (hk : k < 64) (hj2 : j < 128) : TB hs k bs (j + 1) (putT t ((k : Int), (j : Int)) v) := by
  have hno : inT t ((k : Int), (j : Int)) = false := by
    cases e : inT t ((k : Int), (j : Int)) with
    | false => rfl
    | true =>
      obtain ⟨q, hq, e2⟩ := List.mem_map.mp ((inT_mem t _).mp e)
      rcases h.lt q hq with z | ⟨z, z2⟩
      · rw [e2] at z; exact absurd z (Int.lt_irrefl _)
      · rw [e2] at z2; exact absurd z2 (Int.lt_irrefl _)
  have hbj : bs[j] = true := by
    rw [List.getD_eq_getElem?_getD, List.getElem?_eq_getElem hj] at hb
    simpa using hb
  refine ⟨h.ok.put ⟨by show (0 : Int) ≤ (k : Int); omega, by show (k : Int) < 64; omega, by show (0 : Int) ≤ (j : Int); omega, by show (j : Int) < 128; omega⟩, ?_, fun q hq => ?_, ?_⟩
  · rw [putT_new v hno, List.map_append, List.take_add_one, List.getElem?_eq_getElem hj, hbj]
    simp only [Option.toList_some]
    rw [seatsR_snoc, ← List.append_assoc]
    have e : ((0 + (bs.take j).length : Nat) : Int) = (j : Int) := by rw [List.length_take]; omega
    rw [e]
    exact h.sub.append (List.Sublist.refl _)
  · rw [putT_new v hno] at hq
    rcases List.mem_append.mp hq with q1 | q1
    · rcases h.lt q q1 with e | ⟨e, f⟩
      · exact .inl e
      · exact .inr ⟨e, by omega⟩
    · have : q = (((k : Int), (j : Int)), v) := by simpa using q1
      subst this
      exact .inr ⟨rfl, by show (j : Int) < ((j + 1 : Nat) : Int); omega⟩
  · have := putT_len t ((k : Int), (j : Int)) v
    have := h.len
    omega
theorem taken_by (hs : List (List Bool)) (n : Int) (h2 : hs.length ≤ 40) (hb : ∀ b ∈ hs, b.length ≤ 60) : ∃ t : Tk, okT t ∧ t.length ≤ 10000 ∧ (t.map (·.1)).Sublist (seatsH 0 hs) ∧ F_law_taken_by [.im (dHall hs), .im (.int n)] [] = .ok (.im (.dt (t.map kT))) [] := by
  suffices hh : ∃ t : Tk, okT t ∧ t.length ≤ 10000 ∧ (t.map (·.1)).Sublist (seatsH 0 hs) ∧ ∃ r, fb_law_taken_by ([Sv.im (dHall hs), .im (.int n)].map some ++ List.replicate 4 none) [] = .rt (.rf 0) ([] ++ .dt (t.map kT) :: r) by
    obtain ⟨t, h1, h2, h3, r, e⟩ := hh
    exact ⟨t, h1, h2, h3, dFn_dt low_nil e⟩
  unfold fb_law_taken_by
  simp [SP.small64]
  generalize n * 48271 % 2147483647 = z
  rw [if_pos (in62_small (by omega) (by omega))]
  refine loop_then (fun o => ∃ t : Tk, okT t ∧ t.length ≤ 10000 ∧ (t.map (·.1)).Sublist (seatsH 0 hs) ∧ ∃ r, o = O.rt (.rf 0) (.dt (t.map kT) :: r))
    (fun k ρ μ => ∃ (t : Tk) (a : Int) (v4 v5 : Option Sv), TB hs k [] 0 t ∧ ρ = [some (.im (dHall hs)), some (.im (.int z)), some (.rf 0), some (.im (.int a)), v4, v5] ∧ μ = [cTak t])
    ⟨[], 0, none, none, ⟨(fun q hq => by cases hq), (by simp [seatsH, seatsR]), (fun q hq => by cases hq), (by simp)⟩, rfl, rfl⟩ ?_ ?_
  · rintro k d ρ μ hd ⟨t, a, v4, v5, tb, rfl, rfl⟩
    obtain ⟨hk, rfl⟩ := range_get hd
    have hk : k < hs.length := by simpa using hk
    obtain ⟨r, hr⟩ : ∃ r : Int, 0 + (k : Int) = r := ⟨_, rfl⟩
    have g := hall_get (hs := hs) (i := r) (by omega) (by omega)
    have e0 : r.toNat = k := by omega
    rw [e0] at g
    have hbs : (hs.getD k []).length ≤ 60 := by
      rw [List.getD_eq_getElem?_getD, List.getElem?_eq_getElem hk]
      exact hb _ (List.getElem_mem hk)
    have htk : hs.take (k + 1) = hs.take k ++ [hs.getD k []] := by
      rw [List.take_add_one, List.getElem?_eq_getElem hk, List.getD_eq_getElem?_getD, List.getElem?_eq_getElem hk]; rfl
    generalize hs.getD k [] = bs at g hbs htk
    rw [hr]
    obtain ⟨ρ', μ', e, t', a', v', tb', e1, e2⟩ := loop_nx (i := 5) (ds := rangeD 0 bs.length)
      (body := sIf (dTest (dOp2 (p2 gEq) (dOp2 (p2 gIx) (dOp2 (p2 gIx) (dVar 0) (dVar 4)) (dVar 5)) (dC (.str "o")))) (sSeq (sIf (dTest (dOp2 (p2 gLtT) (dOp2 (p2 gMod) (dOp2 (p2 gMod) (dOp2 (p2 gMul) (dOp2 (p2 gAdd) (dVar 1) (dOp2 (p2 gMul) (dC (.int 31)) (dOp2 (p2 gDiv) (dVar 3) (dOp2 (p2 gAdd) (dC (.int 1)) (dOp2 (p2 gMod) (dVar 1) (dC (.int 6))))))) (dC (.int 48271))) (dC (.int 10007))) (dC (.int 7))) (dOp2 (p2 gMod) (dOp2 (p2 gDiv) (dVar 1) (dC (.int 6))) (dC (.int 8))))) (sDPut (dVar 2) (dTup (dACons (dVar 4) (dACons (dVar 5) dANil))) (dC (.str "a"))) sNext) (sAsg 3 (dOp2 (p2 gAdd) (dVar 3) (dC (.int 1))))) sNext)
      (ρ := [some (.im (dHall hs)), some (.im (.int z)), some (.rf 0), some (.im (.int a)), some (.im (.int r)), v5]) (μ := [cTak t])
      (fun j ρ μ => ∃ (t : Tk) (a : Int) (v5 : Option Sv), TB hs k bs j t ∧ ρ = [some (.im (dHall hs)), some (.im (.int z)), some (.rf 0), some (.im (.int a)), some (.im (.int r)), v5] ∧ μ = [cTak t])
      ⟨t, a, v5, ⟨tb.ok, by simpa [seatsR] using tb.sub, fun q hq => by simpa using tb.lt q hq, tb.len⟩, rfl, rfl⟩ (by
        rintro j d ρ μ hd ⟨t, a, v5, tb, rfl, rfl⟩
        obtain ⟨hj, rfl⟩ := range_get hd
        obtain ⟨p, hp⟩ : ∃ p : Int, 0 + (j : Int) = p := ⟨_, rfl⟩
        have g2 := row_get (bs := bs) (i := p) (by omega) (by omega)
        have e0 : p.toNat = j := by omega
        rw [e0] at g2
        have hr' : (k : Int) = r := by omega
        have hp' : (j : Int) = p := by omega
        have hq : 0 < 1 + z % 6 ∧ 1 + z % 6 < 1073741824 := by omega
        have hl : t.length < maxN := by have := tb.len; simp only [maxN]; omega
        rw [hp]
        cases hbj : bs.getD j false with
        | false =>
          rw [hbj] at g2
          exact ⟨[some (.im (dHall hs)), some (.im (.int z)), some (.rf 0), some (.im (.int a)), some (.im (.int r)), some (.im (.int p))], [cTak t], by simp [g, g2], t, a, _, tb.skip hj, rfl, rfl⟩
        | true =>
          rw [hbj] at g2
          have p1 := fun ρ : Rho => putCell_tak (t := t) (n := 0) (a := r) (b := p) (v := "a") (ρ := ρ) (μ := [cTak t]) rfl hl
          have tb2 := tb.put hj hbj "a" (by omega) (by omega)
          rw [hr', hp'] at tb2
          by_cases hc : (z + 31 * (a / (1 + z % 6))) * 48271 % 10007 % 7 < z / 6 % 8
          · exact ⟨[some (.im (dHall hs)), some (.im (.int z)), some (.rf 0), some (.im (.int (a + 1))), some (.im (.int r)), some (.im (.int p))], [cTak (putT t (r, p) "a")], by simp [g, g2, SP.small64, hq, hc, p1], _, _, _, tb2, rfl, rfl⟩
          · exact ⟨[some (.im (dHall hs)), some (.im (.int z)), some (.rf 0), some (.im (.int (a + 1))), some (.im (.int r)), some (.im (.int p))], [cTak t], by simp [g, g2, SP.small64, hq, hc], t, _, _, tb.skip hj, rfl, rfl⟩)
    subst e1 e2
    refine ⟨[some (.im (dHall hs)), some (.im (.int z)), some (.rf 0), some (.im (.int a')), some (.im (.int r)), v'], [cTak t'], ?_, t', a', _, _, ?_, rfl, rfl⟩
    · simp [g]
      rw [if_pos (in62_small (by omega) (by omega))]
      exact e
    rw [range_len] at tb'
    refine ⟨tb'.ok, ?_, fun q hq => ?_, by have := tb'.len; omega⟩
    · have := tb'.sub
      rw [List.take_length] at this
      rw [htk, seatsH_snoc]
      have e3 : ((0 + (hs.take k).length : Nat) : Int) = (k : Int) := by rw [List.length_take]; omega
      rw [e3]
      simpa [seatsR] using this
    · rcases tb'.lt q hq with z | ⟨z, _⟩
      · exact .inl (by omega)
      · exact .inl (by omega)
  · rintro ρ μ ⟨t, a, v4, v5, tb, rfl, rfl⟩
    rw [range_len] at tb
    refine ⟨t, tb.ok, by have := tb.len; omega, ?_, [], by simp; rfl⟩
    simpa [seatsR] using tb.sub
theorem law_true (ns : List Int) (h : ns.length ≤ 63) : ∃ μ, F_law [.im (.scr ns)] [] = .ok (.im (.bl true)) μ := by
  obtain ⟨hs, h1, h2, hb, e1⟩ := hall_by ns
  have c4 := cell_at ns 4 [] low_nil
  simp at c4
  obtain ⟨t, ok, htl, sub, e2⟩ := taken_by hs (cell ns 4) h2 hb
  have e3 := runs_of hs t h2 hb
  have hne := hall_ne hs
  have hn : (hs.length : Nat) ≤ maxN := by simp only [maxN]; omega
  have fd := fun μ => fDictD_tak μ ok
  have hsum := gSum_eq (hs.map fun bs => ((bs.count true : Nat) : Int))
  rw [List.map_map, ← blks_held hs 0] at hsum
  simp only [Function.comp_def] at hsum
  have hf := free_held sub
  refine ⟨[], dFn_im0 low_nil ?_⟩
  unfold fb_law
  simp [e1, c4, e2, e3, hne, dRuns, hn, fd]
  rw [lc_end_map (fun bs => D.str (rowS bs)) (fun bs => D.int (bs.count true : Nat)) hs (by intro bs _; simp)]
  simp [hsum]
  rw [← hf]
  generalize hF : frH t 0 hs = fs at e3
  have rise := (blks_rise fs 0).1
  have good := fun x hx => blks_good fs [] x hx
  have ge0 := fun x hx => (blks_rise fs 0).2 x hx
  simp only [List.length_nil, List.nil_append] at good
  refine loop_then (fun o => o = O.rt (.im (.bl true)) [])
    (fun k ρ μ => ∃ (a1 a2 : Int) (v : Option Sv), (∀ x ∈ (blks 0 fs).drop k, a1 < x.1 ∨ a1 = x.1 ∧ a2 < x.2.1) ∧ ρ = [some (.im (.scr ns)), some (.im (dHall hs)), some (.im (.dt (t.map kT))), some (.im (.lst [dHall hs, .dt (t.map kT)])), some (.im (.lst ((blks 0 fs).map dRun))), some (.im (.tup [.int a1, .int a2])), some (.im (.int (heldI ((blks 0 fs).drop k)))), v, none] ∧ μ = [])
    ⟨-1, -1, none, fun x hx => .inl (by have := ge0 x hx; omega), rfl, rfl⟩ ?_ ?_
  · rintro k d ρ μ hd ⟨a1, a2, v, ha, rfl, rfl⟩
    obtain ⟨x, hx, rfl⟩ := map_get hd
    obtain ⟨hk, hdr⟩ := go_at hx
    have gx := good x (List.mem_of_getElem? hx)
    rw [← hF] at gx
    have hl := law_run hs t hb x a1 a2 gx (ha x (by rw [hdr]; exact List.mem_cons_self))
    have hp : ((blks 0 fs).drop k).Pairwise lexP := rise.sublist (List.drop_sublist _ _)
    rw [hdr, List.pairwise_cons] at hp
    rw [hdr]
    refine ⟨[some (.im (.scr ns)), some (.im (dHall hs)), some (.im (.dt (t.map kT))), some (.im (.lst [dHall hs, .dt (t.map kT)])), some (.im (.lst ((blks 0 fs).map dRun))), some (.im (.tup [.int x.1, .int x.2.1])), some (.im (.int (heldI ((blks 0 fs).drop (k + 1))))), some (.im (dRun x)), none], [], ?_, x.1, x.2.1, _, hp.1, rfl, rfl⟩
    simp only [dRun] at hl
    simp [hl, dRun, heldI]
    omega
  · rintro ρ μ ⟨a1, a2, v, ha, rfl, rfl⟩
    simp [heldI]
end LW

namespace LW
open PySem L2 SP
theorem all_mk {l : PySem.W.OpenLaw} {w : World} {K : PySem.W.Frag} {h : Heap} {mg : Str → Option Value} {fa : Addr} (X : K.In h) (G : h.Ns mainGlobals mg) (hfa : mg "law" = some (.ref fa))
    {t_SEAT : Tok}
    {f_blocks_in : Addr} {od_blocks_in an_blocks_in : Option Addr} {sl_blocks_in : Array (Option Value)} {oc_blocks_in kV_blocks_in dc_blocks_in pm_blocks_in cd_blocks_in ct_blocks_in : Value}
    {f_blocks_of : Addr} {od_blocks_of an_blocks_of : Option Addr} {sl_blocks_of : Array (Option Value)} {oc_blocks_of kV_blocks_of dc_blocks_of pm_blocks_of cd_blocks_of ct_blocks_of : Value}
    {f_runs_in : Addr} {od_runs_in an_runs_in : Option Addr} {sl_runs_in : Array (Option Value)} {oc_runs_in kV_runs_in dc_runs_in pm_runs_in cd_runs_in ct_runs_in : Value}
    {f_runs_of : Addr} {od_runs_of an_runs_of : Option Addr} {sl_runs_of : Array (Option Value)} {oc_runs_of kV_runs_of dc_runs_of pm_runs_of cd_runs_of ct_runs_of : Value}
    {f_law_cell_at : Addr} {od_law_cell_at an_law_cell_at : Option Addr} {sl_law_cell_at : Array (Option Value)} {oc_law_cell_at kV_law_cell_at dc_law_cell_at pm_law_cell_at cd_law_cell_at ct_law_cell_at : Value}
    {f_law_whole : Addr} {od_law_whole an_law_whole : Option Addr} {sl_law_whole : Array (Option Value)} {oc_law_whole kV_law_whole dc_law_whole pm_law_whole cd_law_whole ct_law_whole : Value}
    {f_law_row_by : Addr} {od_law_row_by an_law_row_by : Option Addr} {sl_law_row_by : Array (Option Value)} {oc_law_row_by kV_law_row_by dc_law_row_by pm_law_row_by cd_law_row_by ct_law_row_by : Value}
    {f_law_hall_by : Addr} {od_law_hall_by an_law_hall_by : Option Addr} {sl_law_hall_by : Array (Option Value)} {oc_law_hall_by kV_law_hall_by dc_law_hall_by pm_law_hall_by cd_law_hall_by ct_law_hall_by : Value}
    {f_law_taken_by : Addr} {od_law_taken_by an_law_taken_by : Option Addr} {sl_law_taken_by : Array (Option Value)} {oc_law_taken_by kV_law_taken_by dc_law_taken_by pm_law_taken_by cd_law_taken_by ct_law_taken_by : Value}
    {f_law_free : Addr} {od_law_free an_law_free : Option Addr} {sl_law_free : Array (Option Value)} {oc_law_free kV_law_free dc_law_free pm_law_free cd_law_free ct_law_free : Value}
    {f_law_run : Addr} {od_law_run an_law_run : Option Addr} {sl_law_run : Array (Option Value)} {oc_law_run kV_law_run dc_law_run pm_law_run cd_law_run ct_law_run : Value}
    {f_law : Addr} {od_law an_law : Option Addr} {sl_law : Array (Option Value)} {oc_law kV_law dc_law pm_law cd_law ct_law : Value}
    (ac_SEAT : PySem.W.nsIn K mainGlobals "SEAT" = some (some (.str "o" t_SEAT)))
    (a_blocks_in : PySem.W.nsIn K mainGlobals "blocks_in" = some (some (.ref f_blocks_in)))
    (l_blocks_in : K.lookup f_blocks_in = some ⟨oc_blocks_in, od_blocks_in, .func (PySem.W.fnOf "blocks_in" "blocks_in" (defArgs s_blocks_in) (defBody s_blocks_in) (defScope s_blocks_in) .none kV_blocks_in dc_blocks_in pm_blocks_in an_blocks_in cd_blocks_in ct_blocks_in), sl_blocks_in⟩)
    (c_blocks_in : PySem.W.codeIn K cd_blocks_in "blocks_in" = true)
    (k_blocks_in : PySem.W.keepIn K (.ref f_blocks_in) = true)
    (a_blocks_of : PySem.W.nsIn K mainGlobals "blocks_of" = some (some (.ref f_blocks_of)))
    (l_blocks_of : K.lookup f_blocks_of = some ⟨oc_blocks_of, od_blocks_of, .func (PySem.W.fnOf "blocks_of" "blocks_of" (defArgs s_blocks_of) (defBody s_blocks_of) (defScope s_blocks_of) .none kV_blocks_of dc_blocks_of pm_blocks_of an_blocks_of cd_blocks_of ct_blocks_of), sl_blocks_of⟩)
    (c_blocks_of : PySem.W.codeIn K cd_blocks_of "blocks_of" = true)
    (k_blocks_of : PySem.W.keepIn K (.ref f_blocks_of) = true)
    (a_runs_in : PySem.W.nsIn K mainGlobals "runs_in" = some (some (.ref f_runs_in)))
    (l_runs_in : K.lookup f_runs_in = some ⟨oc_runs_in, od_runs_in, .func (PySem.W.fnOf "runs_in" "runs_in" (defArgs s_runs_in) (defBody s_runs_in) (defScope s_runs_in) .none kV_runs_in dc_runs_in pm_runs_in an_runs_in cd_runs_in ct_runs_in), sl_runs_in⟩)
    (c_runs_in : PySem.W.codeIn K cd_runs_in "runs_in" = true)
    (k_runs_in : PySem.W.keepIn K (.ref f_runs_in) = true)
    (a_runs_of : PySem.W.nsIn K mainGlobals "runs_of" = some (some (.ref f_runs_of)))
    (l_runs_of : K.lookup f_runs_of = some ⟨oc_runs_of, od_runs_of, .func (PySem.W.fnOf "runs_of" "runs_of" (defArgs s_runs_of) (defBody s_runs_of) (defScope s_runs_of) .none kV_runs_of dc_runs_of pm_runs_of an_runs_of cd_runs_of ct_runs_of), sl_runs_of⟩)
    (c_runs_of : PySem.W.codeIn K cd_runs_of "runs_of" = true)
    (k_runs_of : PySem.W.keepIn K (.ref f_runs_of) = true)
    (a_law_cell_at : PySem.W.nsIn K mainGlobals "_law_cell_at" = some (some (.ref f_law_cell_at)))
    (l_law_cell_at : K.lookup f_law_cell_at = some ⟨oc_law_cell_at, od_law_cell_at, .func (PySem.W.fnOf "_law_cell_at" "_law_cell_at" (defArgs s_law_cell_at) (defBody s_law_cell_at) (defScope s_law_cell_at) .none kV_law_cell_at dc_law_cell_at pm_law_cell_at an_law_cell_at cd_law_cell_at ct_law_cell_at), sl_law_cell_at⟩)
    (c_law_cell_at : PySem.W.codeIn K cd_law_cell_at "_law_cell_at" = true)
    (k_law_cell_at : PySem.W.keepIn K (.ref f_law_cell_at) = true)
    (a_law_whole : PySem.W.nsIn K mainGlobals "_law_whole" = some (some (.ref f_law_whole)))
    (l_law_whole : K.lookup f_law_whole = some ⟨oc_law_whole, od_law_whole, .func (PySem.W.fnOf "_law_whole" "_law_whole" (defArgs s_law_whole) (defBody s_law_whole) (defScope s_law_whole) .none kV_law_whole dc_law_whole pm_law_whole an_law_whole cd_law_whole ct_law_whole), sl_law_whole⟩)
    (c_law_whole : PySem.W.codeIn K cd_law_whole "_law_whole" = true)
    (k_law_whole : PySem.W.keepIn K (.ref f_law_whole) = true)
    (a_law_row_by : PySem.W.nsIn K mainGlobals "_law_row_by" = some (some (.ref f_law_row_by)))
    (l_law_row_by : K.lookup f_law_row_by = some ⟨oc_law_row_by, od_law_row_by, .func (PySem.W.fnOf "_law_row_by" "_law_row_by" (defArgs s_law_row_by) (defBody s_law_row_by) (defScope s_law_row_by) .none kV_law_row_by dc_law_row_by pm_law_row_by an_law_row_by cd_law_row_by ct_law_row_by), sl_law_row_by⟩)
    (c_law_row_by : PySem.W.codeIn K cd_law_row_by "_law_row_by" = true)
    (k_law_row_by : PySem.W.keepIn K (.ref f_law_row_by) = true)
    (a_law_hall_by : PySem.W.nsIn K mainGlobals "_law_hall_by" = some (some (.ref f_law_hall_by)))
    (l_law_hall_by : K.lookup f_law_hall_by = some ⟨oc_law_hall_by, od_law_hall_by, .func (PySem.W.fnOf "_law_hall_by" "_law_hall_by" (defArgs s_law_hall_by) (defBody s_law_hall_by) (defScope s_law_hall_by) .none kV_law_hall_by dc_law_hall_by pm_law_hall_by an_law_hall_by cd_law_hall_by ct_law_hall_by), sl_law_hall_by⟩)
    (c_law_hall_by : PySem.W.codeIn K cd_law_hall_by "_law_hall_by" = true)
    (k_law_hall_by : PySem.W.keepIn K (.ref f_law_hall_by) = true)
    (a_law_taken_by : PySem.W.nsIn K mainGlobals "_law_taken_by" = some (some (.ref f_law_taken_by)))
    (l_law_taken_by : K.lookup f_law_taken_by = some ⟨oc_law_taken_by, od_law_taken_by, .func (PySem.W.fnOf "_law_taken_by" "_law_taken_by" (defArgs s_law_taken_by) (defBody s_law_taken_by) (defScope s_law_taken_by) .none kV_law_taken_by dc_law_taken_by pm_law_taken_by an_law_taken_by cd_law_taken_by ct_law_taken_by), sl_law_taken_by⟩)
    (c_law_taken_by : PySem.W.codeIn K cd_law_taken_by "_law_taken_by" = true)
    (k_law_taken_by : PySem.W.keepIn K (.ref f_law_taken_by) = true)
    (a_law_free : PySem.W.nsIn K mainGlobals "_law_free" = some (some (.ref f_law_free)))
    (l_law_free : K.lookup f_law_free = some ⟨oc_law_free, od_law_free, .func (PySem.W.fnOf "_law_free" "_law_free" (defArgs s_law_free) (defBody s_law_free) (defScope s_law_free) .none kV_law_free dc_law_free pm_law_free an_law_free cd_law_free ct_law_free), sl_law_free⟩)
    (c_law_free : PySem.W.codeIn K cd_law_free "_law_free" = true)
    (k_law_free : PySem.W.keepIn K (.ref f_law_free) = true)
    (a_law_run : PySem.W.nsIn K mainGlobals "_law_run" = some (some (.ref f_law_run)))
    (l_law_run : K.lookup f_law_run = some ⟨oc_law_run, od_law_run, .func (PySem.W.fnOf "_law_run" "_law_run" (defArgs s_law_run) (defBody s_law_run) (defScope s_law_run) .none kV_law_run dc_law_run pm_law_run an_law_run cd_law_run ct_law_run), sl_law_run⟩)
    (c_law_run : PySem.W.codeIn K cd_law_run "_law_run" = true)
    (k_law_run : PySem.W.keepIn K (.ref f_law_run) = true)
    (a_law : PySem.W.nsIn K mainGlobals "law" = some (some (.ref f_law)))
    (l_law : K.lookup f_law = some ⟨oc_law, od_law, .func (PySem.W.fnOf "law" "law" (defArgs s_law) (defBody s_law) (defScope s_law) .none kV_law dc_law pm_law an_law cd_law ct_law), sl_law⟩)
    (c_law : PySem.W.codeIn K cd_law "law" = true)
    (k_law : PySem.W.keepIn K (.ref f_law) = true)
    (z_bool : PySem.W.nsIn K mainGlobals "bool" = some none)
    (z_dict : PySem.W.nsIn K mainGlobals "dict" = some none)
    (z_int : PySem.W.nsIn K mainGlobals "int" = some none)
    (z_isinstance : PySem.W.nsIn K mainGlobals "isinstance" = some none)
    (z_len : PySem.W.nsIn K mainGlobals "len" = some none)
    (z_list : PySem.W.nsIn K mainGlobals "list" = some none)
    (z_range : PySem.W.nsIn K mainGlobals "range" = some none)
    (z_sum : PySem.W.nsIn K mainGlobals "sum" = some none)
    (z_tuple : PySem.W.nsIn K mainGlobals "tuple" = some none)
    : ∃ fd : FuncData, (∀ (s : Shared) (v : Value), BindsTo s fd ⟨[v], []⟩ [("_law_script", v)]) ∧ ∀ base : Heap, K.In base → base.Ns mainGlobals mg → FnOk l.prog w K mg base (L2.CX l.prog w) 4 fa fd ["_law_script"] (spLaw K) := by
  have e := hfa.symm.trans (PySem.W.mg_of X G a_law)
  cases e
  have T : Txt K mg ⟨f_blocks_in, f_blocks_of, f_runs_in, f_runs_of, f_law_cell_at, f_law_whole, f_law_row_by, f_law_hall_by, f_law_taken_by, f_law_free, f_law_run, fa⟩ ⟨(PySem.W.fnOf "blocks_in" "blocks_in" (defArgs s_blocks_in) (defBody s_blocks_in) (defScope s_blocks_in) .none kV_blocks_in dc_blocks_in pm_blocks_in an_blocks_in cd_blocks_in ct_blocks_in), (PySem.W.fnOf "blocks_of" "blocks_of" (defArgs s_blocks_of) (defBody s_blocks_of) (defScope s_blocks_of) .none kV_blocks_of dc_blocks_of pm_blocks_of an_blocks_of cd_blocks_of ct_blocks_of), (PySem.W.fnOf "runs_in" "runs_in" (defArgs s_runs_in) (defBody s_runs_in) (defScope s_runs_in) .none kV_runs_in dc_runs_in pm_runs_in an_runs_in cd_runs_in ct_runs_in), (PySem.W.fnOf "runs_of" "runs_of" (defArgs s_runs_of) (defBody s_runs_of) (defScope s_runs_of) .none kV_runs_of dc_runs_of pm_runs_of an_runs_of cd_runs_of ct_runs_of), (PySem.W.fnOf "_law_cell_at" "_law_cell_at" (defArgs s_law_cell_at) (defBody s_law_cell_at) (defScope s_law_cell_at) .none kV_law_cell_at dc_law_cell_at pm_law_cell_at an_law_cell_at cd_law_cell_at ct_law_cell_at), (PySem.W.fnOf "_law_whole" "_law_whole" (defArgs s_law_whole) (defBody s_law_whole) (defScope s_law_whole) .none kV_law_whole dc_law_whole pm_law_whole an_law_whole cd_law_whole ct_law_whole), (PySem.W.fnOf "_law_row_by" "_law_row_by" (defArgs s_law_row_by) (defBody s_law_row_by) (defScope s_law_row_by) .none kV_law_row_by dc_law_row_by pm_law_row_by an_law_row_by cd_law_row_by ct_law_row_by), (PySem.W.fnOf "_law_hall_by" "_law_hall_by" (defArgs s_law_hall_by) (defBody s_law_hall_by) (defScope s_law_hall_by) .none kV_law_hall_by dc_law_hall_by pm_law_hall_by an_law_hall_by cd_law_hall_by ct_law_hall_by), (PySem.W.fnOf "_law_taken_by" "_law_taken_by" (defArgs s_law_taken_by) (defBody s_law_taken_by) (defScope s_law_taken_by) .none kV_law_taken_by dc_law_taken_by pm_law_taken_by an_law_taken_by cd_law_taken_by ct_law_taken_by), (PySem.W.fnOf "_law_free" "_law_free" (defArgs s_law_free) (defBody s_law_free) (defScope s_law_free) .none kV_law_free dc_law_free pm_law_free an_law_free cd_law_free ct_law_free), (PySem.W.fnOf "_law_run" "_law_run" (defArgs s_law_run) (defBody s_law_run) (defScope s_law_run) .none kV_law_run dc_law_run pm_law_run an_law_run cd_law_run ct_law_run), (PySem.W.fnOf "law" "law" (defArgs s_law) (defBody s_law) (defScope s_law) .none kV_law dc_law pm_law an_law cd_law ct_law)⟩ := {
    F_blocks_in := fun_mk (st := s_blocks_in) l_blocks_in c_blocks_in k_blocks_in,
    b_blocks_in := (fun_mk (st := s_blocks_in) l_blocks_in c_blocks_in k_blocks_in).binds (ps := ["row", "line"]) fun _ _ _ _ _ _ us hl => match us, hl with | [_, _], _ => rfl,
    m_blocks_in := PySem.W.mg_of X G a_blocks_in,
    F_blocks_of := fun_mk (st := s_blocks_of) l_blocks_of c_blocks_of k_blocks_of,
    b_blocks_of := (fun_mk (st := s_blocks_of) l_blocks_of c_blocks_of k_blocks_of).binds (ps := ["rows"]) fun _ _ _ _ _ _ us hl => match us, hl with | [_], _ => rfl,
    m_blocks_of := PySem.W.mg_of X G a_blocks_of,
    F_runs_in := fun_mk (st := s_runs_in) l_runs_in c_runs_in k_runs_in,
    b_runs_in := (fun_mk (st := s_runs_in) l_runs_in c_runs_in k_runs_in).binds (ps := ["block", "taken"]) fun _ _ _ _ _ _ us hl => match us, hl with | [_, _], _ => rfl,
    m_runs_in := PySem.W.mg_of X G a_runs_in,
    F_runs_of := fun_mk (st := s_runs_of) l_runs_of c_runs_of k_runs_of,
    b_runs_of := (fun_mk (st := s_runs_of) l_runs_of c_runs_of k_runs_of).binds (ps := ["rows", "taken"]) fun _ _ _ _ _ _ us hl => match us, hl with | [_, _], _ => rfl,
    m_runs_of := PySem.W.mg_of X G a_runs_of,
    F_law_cell_at := fun_mk (st := s_law_cell_at) l_law_cell_at c_law_cell_at k_law_cell_at,
    b_law_cell_at := (fun_mk (st := s_law_cell_at) l_law_cell_at c_law_cell_at k_law_cell_at).binds (ps := ["_law_script", "_law_k"]) fun _ _ _ _ _ _ us hl => match us, hl with | [_, _], _ => rfl,
    m_law_cell_at := PySem.W.mg_of X G a_law_cell_at,
    F_law_whole := fun_mk (st := s_law_whole) l_law_whole c_law_whole k_law_whole,
    b_law_whole := (fun_mk (st := s_law_whole) l_law_whole c_law_whole k_law_whole).binds (ps := ["_law_found"]) fun _ _ _ _ _ _ us hl => match us, hl with | [_], _ => rfl,
    m_law_whole := PySem.W.mg_of X G a_law_whole,
    F_law_row_by := fun_mk (st := s_law_row_by) l_law_row_by c_law_row_by k_law_row_by,
    b_law_row_by := (fun_mk (st := s_law_row_by) l_law_row_by c_law_row_by k_law_row_by).binds (ps := ["_law_n"]) fun _ _ _ _ _ _ us hl => match us, hl with | [_], _ => rfl,
    m_law_row_by := PySem.W.mg_of X G a_law_row_by,
    F_law_hall_by := fun_mk (st := s_law_hall_by) l_law_hall_by c_law_hall_by k_law_hall_by,
    b_law_hall_by := (fun_mk (st := s_law_hall_by) l_law_hall_by c_law_hall_by k_law_hall_by).binds (ps := ["_law_script", "_law_k"]) fun _ _ _ _ _ _ us hl => match us, hl with | [_, _], _ => rfl,
    m_law_hall_by := PySem.W.mg_of X G a_law_hall_by,
    F_law_taken_by := fun_mk (st := s_law_taken_by) l_law_taken_by c_law_taken_by k_law_taken_by,
    b_law_taken_by := (fun_mk (st := s_law_taken_by) l_law_taken_by c_law_taken_by k_law_taken_by).binds (ps := ["_law_rows", "_law_n"]) fun _ _ _ _ _ _ us hl => match us, hl with | [_, _], _ => rfl,
    m_law_taken_by := PySem.W.mg_of X G a_law_taken_by,
    F_law_free := fun_mk (st := s_law_free) l_law_free c_law_free k_law_free,
    b_law_free := (fun_mk (st := s_law_free) l_law_free c_law_free k_law_free).binds (ps := ["_law_rows", "_law_taken", "_law_row", "_law_place"]) fun _ _ _ _ _ _ us hl => match us, hl with | [_, _, _, _], _ => rfl,
    m_law_free := PySem.W.mg_of X G a_law_free,
    F_law_run := fun_mk (st := s_law_run) l_law_run c_law_run k_law_run,
    b_law_run := (fun_mk (st := s_law_run) l_law_run c_law_run k_law_run).binds (ps := ["_law_rows", "_law_taken", "_law_run_here", "_law_ahead"]) fun _ _ _ _ _ _ us hl => match us, hl with | [_, _, _, _], _ => rfl,
    m_law_run := PySem.W.mg_of X G a_law_run,
    F_law := fun_mk (st := s_law) l_law c_law k_law,
    b_law := (fun_mk (st := s_law) l_law c_law k_law).binds (ps := ["_law_script"]) fun _ _ _ _ _ _ us hl => match us, hl with | [_], _ => rfl,
    m_law := PySem.W.mg_of X G a_law,
    z_bool := PySem.W.mg_none_of X G z_bool,
    z_dict := PySem.W.mg_none_of X G z_dict,
    z_int := PySem.W.mg_none_of X G z_int,
    z_isinstance := PySem.W.mg_none_of X G z_isinstance,
    z_len := PySem.W.mg_none_of X G z_len,
    z_list := PySem.W.mg_none_of X G z_list,
    z_range := PySem.W.mg_none_of X G z_range,
    z_sum := PySem.W.mg_none_of X G z_sum,
    z_tuple := PySem.W.mg_none_of X G z_tuple,
    c_SEAT := ⟨_, PySem.W.mg_of X G ac_SEAT⟩ }
  exact ⟨_, fun s v => .of_eq rfl, fun base _ _ => (ok_law T).imp fun vs H Q E h => sp_law h law_true⟩
theorem walk {l : PySem.W.OpenLaw} {q : Program} {loose : List Str} {XP : (Str → Option Value) → Heap → Prop} {YP : World → Heap → Prop} {d : DefRec} {K : Params → PySem.W.Frag} (hn : l.most = some 63) (hdf : d.params.defaults = [])
    (hY : ∀ (w : World) (h : Heap), YP w h → (K w.params).In h)
    (F : ∀ (w : World) (mg : Str → Option Value) (fa : Addr) (h : Heap), (K w.params).In h → h.Ns mainGlobals mg → mg d.name = some (.ref fa) →
      ∃ fd : FuncData, (∀ (s : Shared) (u : Value), BindsTo s fd ⟨[u], []⟩ [("_law_script", u)]) ∧ ∀ base : Heap, (K w.params).In base → base.Ns mainGlobals mg → FnOk l.prog w (K w.params) mg base (L2.CX l.prog w) 4 fa fd ["_law_script"] (spLaw (K w.params))) :
    PySem.W.WalkO q loose XP YP l.row.toRowW d [] (fun f vs => PySem.call f vs) :=
  L2.walk_of (n := 63) (k := 4) (x := "_law_script") (CX := fun w => L2.CX l.prog w) (sp := fun w => spLaw (K w.params)) hn (by decide) hdf ⟨rfl, by decide, by decide⟩ hY F (fun _ _ a ns hl _ hS => ⟨a, ns, rfl, hS, hl, fun _ => rfl⟩) fun _ _ _ _ _ z => by
    obtain ⟨_, _, _, _, _, _, _, _, _, _, _, _, z⟩ := z
    exact z.elim
end LW
open PySem PySem.W PyProof.Rows in
set_option maxRecDepth 100000 in
set_option maxHeartbeats 0 in
theorem PySem.Challenge.cw_seatplan_k02_free_runs_holds : PySem.Challenge.rw_seatplan_k02_free_runs.Holds := by
  w_on; o_law; k_head; (case hw => w_witness2)
  k_fill
  refine LW.walk (l := PySem.Challenge.rw_seatplan_k02_free_runs) rfl rfl (fun w h Y => PySem.W.kIn_of Y) ?F
  case F =>
    intro w mg fa h KX G hmg
    refine' LW.all_mk KX G hmg ?ac_SEAT ?a_blocks_in ?l_blocks_in ?c_blocks_in ?k_blocks_in ?a_blocks_of ?l_blocks_of ?c_blocks_of ?k_blocks_of ?a_runs_in ?l_runs_in ?c_runs_in ?k_runs_in ?a_runs_of ?l_runs_of ?c_runs_of ?k_runs_of ?a_law_cell_at ?l_law_cell_at ?c_law_cell_at ?k_law_cell_at ?a_law_whole ?l_law_whole ?c_law_whole ?k_law_whole ?a_law_row_by ?l_law_row_by ?c_law_row_by ?k_law_row_by ?a_law_hall_by ?l_law_hall_by ?c_law_hall_by ?k_law_hall_by ?a_law_taken_by ?l_law_taken_by ?c_law_taken_by ?k_law_taken_by ?a_law_free ?l_law_free ?c_law_free ?k_law_free ?a_law_run ?l_law_run ?c_law_run ?k_law_run ?a_law ?l_law ?c_law ?k_law ?z_bool ?z_dict ?z_int ?z_isinstance ?z_len ?z_list ?z_range ?z_sum ?z_tuple
    (case ac_SEAT => k_is)
    (case a_blocks_in => k_is)
    (case l_blocks_in => k_is)
    (case c_blocks_in => k_is)
    (case k_blocks_in => k_is)
    (case a_blocks_of => k_is)
    (case l_blocks_of => k_is)
    (case c_blocks_of => k_is)
    (case k_blocks_of => k_is)
    (case a_runs_in => k_is)
    (case l_runs_in => k_is)
    (case c_runs_in => k_is)
    (case k_runs_in => k_is)
    (case a_runs_of => k_is)
    (case l_runs_of => k_is)
    (case c_runs_of => k_is)
    (case k_runs_of => k_is)
    (case a_law_cell_at => k_is)
    (case l_law_cell_at => k_is)
    (case c_law_cell_at => k_is)
    (case k_law_cell_at => k_is)
    (case a_law_whole => k_is)
    (case l_law_whole => k_is)
    (case c_law_whole => k_is)
    (case k_law_whole => k_is)
    (case a_law_row_by => k_is)
    (case l_law_row_by => k_is)
    (case c_law_row_by => k_is)
    (case k_law_row_by => k_is)
    (case a_law_hall_by => k_is)
    (case l_law_hall_by => k_is)
    (case c_law_hall_by => k_is)
    (case k_law_hall_by => k_is)
    (case a_law_taken_by => k_is)
    (case l_law_taken_by => k_is)
    (case c_law_taken_by => k_is)
    (case k_law_taken_by => k_is)
    (case a_law_free => k_is)
    (case l_law_free => k_is)
    (case c_law_free => k_is)
    (case k_law_free => k_is)
    (case a_law_run => k_is)
    (case l_law_run => k_is)
    (case c_law_run => k_is)
    (case k_law_run => k_is)
    (case a_law => k_is)
    (case l_law => k_is)
    (case c_law => k_is)
    (case k_law => k_is)
    (case z_bool => k_is)
    (case z_dict => k_is)
    (case z_int => k_is)
    (case z_isinstance => k_is)
    (case z_len => k_is)
    (case z_list => k_is)
    (case z_range => k_is)
    (case z_sum => k_is)
    (case z_tuple => k_is)
#print axioms PySem.Challenge.cw_seatplan_k02_free_runs_holds
