import PyProof.Rows.All
import Wide.All
import OpenK.AllK
import Wide.FinOn
import HandS.ForMost
import HandS.Deep
import HandS.TupAny
import HandS.TupMul
import HandS.IsInst
import HandS.Dict
import HandS.Small
import HandS.Zip
import KE.GoesMore
import KE.GoesEnum
import HandS.Style
import PySem.Challenge.RW_lookedtwice_k01_systems_recognized
set_option Elab.async false
set_option linter.all false
set_option maxRecDepth 100000
/-! YLang: a small language for the programs' subset, and its evaluator (no heap). Values are PyData; a mutable local object is owned by its slot. -/
namespace Y
open PySem

/-! ### data -/
/-- an exception that is raised: its class, its arguments -/
inductive Exn where
  | mk (cls : Str) (args : List PyData)
/-- a mutable object -/
inductive O where
  | lst (ds : List PyData)
  | dic (kvs : List (PyData × PyData))
def O.data : O → PyData
  | .lst ds => .list ds
  | .dic kvs => .dict kvs
/-- a local name: nothing, data that never changes any more, an object that this def alone holds (pin: it was handed in by the caller, who gets it back) -/
inductive Slot where
  | und
  | fz (d : PyData)
  | own (pin : Bool) (o : O)
/-- an expression's value: data, or a new object -/
inductive R where
  | fz (d : PyData)
  | own (o : O)
def R.data : R → PyData
  | .fz d => d
  | .own o => o.data
abbrev Rho := List Slot
inductive Out (α : Type) where
  | ok (a : α) (ρ : Rho)
  | exn (e : Exn) (ρ : Rho)
  | bad
abbrev M (α : Type) := Rho → Out α
def ret {α : Type} (a : α) : M α := fun ρ => .ok a ρ
def bad {α : Type} : M α := fun _ => .bad
def bnd {α β : Type} (m : M α) (f : α → M β) : M β := fun ρ => match m ρ with
  | .ok a ρ' => f a ρ'
  | .exn e ρ' => .exn e ρ'
  | .bad => .bad
def ofO {α : Type} : Option α → M α
  | some a => ret a
  | none => bad

/-! ### syntax -/
inductive Bop where | add | sub | mul | fdiv | mod | pow
inductive Cop where | eq | ne | lt | le | gt | ge | inn | nin
inductive Bi where | len | all | any | list | tuple | int | abs | min | max | str | sorted
inductive Ty where | int | bool | str | tuple | list
inductive Mt where | index | get | split | join | count
inductive Pat where
  | nm (i : Nat)
  | tup (ps : List Pat)

mutual
inductive E where
  | var (i : Nat)
  | con (d : PyData)
  | glb (n : Str) (d : PyData)
  | tup (es : Es)
  | lst (es : Es)
  | bin (op : Bop) (a b : E)
  | neg (a : E)
  | not (a : E)
  | cmp (op : Cop) (a b : E)
  | chain (op op' : Cop) (a b c : E)
  | isn (a : E)
  | notn (a : E)
  | and (a b : E)
  | or (a b : E)
  | ife (c a b : E)
  | ix (a b : E)
  | sl (a : E) (lo hi : Oe)
  | rev (a : E)
  | call (f : Str) (as : As)
  | bi (b : Bi) (es : Es)
  | isi (a : E) (t : Ty)
  | meth (m : Mt) (a : E) (es : Es)
  | pop (i : Nat)
  | lc (own : List Nat) (p : Pat) (it : It) (cs : Es) (elt : E)
  | lc2 (own : List Nat) (p : Pat) (it : It) (p' : Pat) (it' : It) (cs : Es) (elt : E)
  | dlit (ks vs : Es)
  | dc (own : List Nat) (p : Pat) (it : It) (k v : E)
  | srtk (a : E) (f : Str)
inductive Es where
  | nil
  | cons (e : E) (es : Es)
inductive Oe where
  | none
  | some (e : E)
inductive As where
  | nil
  | val (e : E) (as : As)
  | mut (i : Nat) (as : As)
inductive It where
  | seq (e : E)
  | rng1 (e : E)
  | rng2 (a b : E)
  | zip (a b : E)
  | enu (e : E)
end

mutual
inductive S where
  | set (i : Nat) (e : E)
  | unp (p : Pat) (e : E)
  | par (is : List Nat) (es : Es)
  | setix (i : Nat) (k e : E)
  | app (i : Nat) (e : E)
  | exp (e : E)
  | ret (e : E)
  | retn
  | ife (c : E) (a b : Ss)
  | whl (c : E) (b : Ss)
  | frr (p : Pat) (it : It) (b : Ss)
  | rse (cls : Str) (es : Es)
  | brk
  | cnt
  | pss
inductive Ss where
  | nil
  | cons (s : S) (ss : Ss)
end

/-! ### operations on data -/
abbrev lim : Nat := 16777216
def dInt (i : Int) : R := .fz (.int i)
def dBl (b : Bool) : R := .fz (.bool b)
def bopD : Bop → PyData → PyData → Option R
  | .add, .int i, .int j => some (dInt (i + j))
  | .add, .str x, .str y => if x.length + y.length ≤ lim then some (.fz (.str (x ++ y))) else none
  | .add, .list xs, .list ys => if xs.length + ys.length ≤ lim then some (.own (.lst (xs ++ ys))) else none
  | .add, .tuple xs, .tuple ys => if xs.length + ys.length ≤ lim then some (.fz (.tuple (xs ++ ys))) else none
  | .sub, .int i, .int j => some (dInt (i - j))
  | .mul, .int i, .int j => if (-(2 ^ 64) < i ∧ i < 2 ^ 64) ∨ (-(2 ^ 64) < j ∧ j < 2 ^ 64) then some (dInt (i * j)) else none
  | .mul, .tuple xs, .int k => if xs.isEmpty = false ∧ 2 ≤ k ∧ k ≤ 1000 ∧ xs.length ≤ 1000 then some (.fz (.tuple (List.replicate k.toNat xs).flatten)) else none
  | .fdiv, .int i, .int j => if 0 < j ∧ j < 1073741824 then some (dInt (i / j)) else none
  | .mod, .int i, .int j => if 0 < j then some (dInt (i % j)) else none
  | .pow, .int i, .int j => if 0 ≤ j ∧ j ≤ 1000000 ∧ i.natAbs < 2 ^ 64 then some (dInt (i ^ j.toNat)) else none
  | _, _, _ => none
/-- neither a list nor a tuple nor a dict -/
def flatD : PyData → Bool
  | .none | .bool _ | .int _ | .str _ => true
  | _ => false
def eqD (a b : PyData) : Option Bool :=
  if SeqAt.shaped a && SeqAt.shaped b then some (PyData.eqv a b) else none
/-- a dict's key: an int or a text -/
def isKey : PyData → Bool
  | .int _ => true
  | .str _ => true
  | _ => false
def inD (x : PyData) : PyData → Option Bool
  | .list ds => if SeqAt.shaped x && SeqAt.shaped (.list ds) then some (ds.any fun z => PyData.eqv z x) else none
  | .tuple ds => if SeqAt.shaped x && SeqAt.shaped (.tuple ds) then some (ds.any fun z => PyData.eqv z x) else none
  | .str y => match x with
    | .str z => some (!(Builtin.Str.occurrences y z 0 y.length 1).isEmpty)
    | _ => none
  | .dict kvs => if isKey x then some (kvs.any fun p => PyData.eqv p.1 x) else none
  | _ => none
def ltD : PyData → PyData → Option Bool
  | .int i, .int j => some (decide (i < j))
  | .str x, .str y => some (decide (x.cps.toList < y.cps.toList))
  | _, _ => none
def leD : PyData → PyData → Option Bool
  | .int i, .int j => some (decide (i ≤ j))
  | _, _ => none
def cmpD : Cop → PyData → PyData → Option Bool
  | .eq, a, b => eqD a b
  | .ne, a, b => (eqD a b).map not
  | .lt, a, b => ltD a b
  | .gt, a, b => match a, b with
    | .int i, .int j => some (decide (j < i))
    | _, _ => none
  | .le, a, b => leD a b
  | .ge, a, b => match a, b with
    | .int i, .int j => some (decide (j ≤ i))
    | _, _ => none
  | .inn, a, b => inD a b
  | .nin, a, b => (inD a b).map not
def allB : List PyData → Option Bool
  | [] => some true
  | .bool b :: r => (allB r).map (b && ·)
  | _ :: _ => none
def anyB : List PyData → Option Bool
  | [] => some false
  | .bool b :: r => (anyB r).map (b || ·)
  | _ :: _ => none
def intsD : List PyData → Option (List Int)
  | [] => some []
  | .int i :: r => (intsD r).map (i :: ·)
  | _ :: _ => none
def maxI : List Int → Option Int
  | [] => none
  | a :: r => some (r.foldl (fun m b => if b > m then b else m) a)
def minI : List Int → Option Int
  | [] => none
  | a :: r => some (r.foldl (fun m b => if b < m then b else m) a)
def biD : Bi → List PyData → Option R
  | .len, [.list xs] => some (dInt xs.length)
  | .len, [.tuple xs] => some (dInt xs.length)
  | .len, [.str x] => if x.length ≤ lim then some (dInt x.length) else none
  | .len, [.dict kvs] => some (dInt kvs.length)
  | .all, [.list xs] => (allB xs).map dBl
  | .any, [.list xs] => (anyB xs).map dBl
  | .list, [.list xs] => some (.own (.lst xs))
  | .list, [.tuple xs] => some (.own (.lst xs))
  | .tuple, [.list xs] => some (.fz (.tuple xs))
  | .tuple, [.tuple xs] => some (.fz (.tuple xs))
  | .int, [.int i] => some (dInt i)
  | .int, [.bool b] => some (dInt (if b then 1 else 0))
  | .abs, [.int i] => some (dInt (if i < 0 then -i else i))
  | .min, [.int i, .int j] => some (dInt (if j < i then j else i))
  | .max, [.int i, .int j] => some (dInt (if j > i then j else i))
  | .max, [.list xs] => ((intsD xs).bind maxI).map dInt
  | .min, [.list xs] => ((intsD xs).bind minI).map dInt
  | _, _ => none
def isNon : PyData → Bool
  | .none => true
  | _ => false
def isTy : Ty → PyData → Bool
  | .int, .int _ => true
  | .int, .bool _ => true
  | .bool, .bool _ => true
  | .str, .str _ => true
  | .tuple, .tuple _ => true
  | .list, .list _ => true
  | _, _ => false
/-- a place of a sequence, from behind where it is negative -/
def ixD : PyData → PyData → Option PyData
  | .list xs, .int i => L2.atI xs i
  | .tuple xs, .int i => L2.atI xs i
  | .str x, .int i => if x.length ≤ lim then (L2.atI x.cps.toList i).map fun c => .str ⟨#[c]⟩ else none
  | .dict kvs, k => if isKey k then (kvs.find? fun p => PyData.eqv p.1 k).map (·.2) else none
  | _, _ => none
def cutD {α : Type} (xs : List α) (lo hi : Option Int) : List α := (xs.drop (HT.sIx xs.length 0 lo)).take (HT.sIx xs.length xs.length hi - HT.sIx xs.length 0 lo)
def slD : PyData → Option Int → Option Int → Option R
  | .list xs, lo, hi => some (.own (.lst (cutD xs lo hi)))
  | .tuple xs, lo, hi => some (.fz (.tuple (cutD xs lo hi)))
  | _, _, _ => none
def revD : PyData → Option R
  | .list xs => some (.own (.lst xs.reverse))
  | .tuple xs => some (.fz (.tuple xs.reverse))
  | _ => none
/-- the first place of an equal item -/
def indexD : List PyData → PyData → Option Nat
  | ds, k => if SeqAt.shaped k && SeqAt.shaped (.list ds) then ds.findIdx? fun z => PyData.eqv z k else none
def methD : Mt → PyData → List PyData → Option R
  | .index, .list ds, [k] => (indexD ds k).map fun n => dInt n
  | .index, .tuple ds, [k] => (indexD ds k).map fun n => dInt n
  | .get, .dict kvs, [k, d] => if isKey k then some (.fz (((kvs.find? fun p => PyData.eqv p.1 k).map (·.2)).getD d)) else none
  | _, _, _ => none
/-- d[k] = v: the place of an equal key, which stays, or the end -/
def putD (k v : PyData) (kvs : List (PyData × PyData)) : List (PyData × PyData) :=
  if (kvs.any fun p => PyData.eqv p.1 k) = true then kvs.map (fun p => if PyData.eqv p.1 k = true then (p.1, v) else p) else kvs ++ [(k, v)]
/-- what is walked -/
def seqD : PyData → Option (List PyData)
  | .list xs => some xs
  | .tuple xs => some xs
  | .str x => some (x.cps.toList.map fun c => .str ⟨#[c]⟩)
  | _ => none
def enuQ : PyData → Option (List PyData)
  | .list xs => some xs
  | .tuple xs => some xs
  | _ => none
def rngD (lo : Int) (n : Nat) : List PyData := (List.range n).map fun i => PyData.int (lo + (i : Nat))
def okRng (i : Int) : Bool := decide (-(2 ^ 62) ≤ i) && decide (i < 2 ^ 62)
def enuD : Nat → List PyData → List PyData
  | _, [] => []
  | n, d :: r => .tuple [.int (n : Nat), d] :: enuD (n + 1) r
def zipD : List PyData → List PyData → List PyData
  | a :: r, b :: q => .tuple [a, b] :: zipD r q
  | _, _ => []

def zip2D : PyData → PyData → Option (List PyData)
  | .list xs, .list ys => some (zipD xs ys)
  | .tuple xs, .tuple ys => some (zipD xs ys)
  | .tuple xs, .str y => some (zipD xs (y.cps.toList.map fun c => .str ⟨#[c]⟩))
  | _, _ => none

/-! ### slots -/
def Rho.put (ρ : Rho) (i : Nat) (s : Slot) : Rho := ρ.set i s
def R.slot : R → Slot
  | .fz d => .fz d
  | .own o => .own false o
/-- an operand: data, or a slot whose object is read later -/
inductive Opd where
  | d (d : PyData)
  | slot (i : Nat)
def getSlot (i : Nat) : M PyData := fun ρ => match ρ[i]? with
  | some (.fz d) => .ok d ρ
  | some (.own _ o) => .ok o.data ρ
  | _ => .bad
def get : Opd → M PyData
  | .d d => ret d
  | .slot i => getSlot i
/-- as an operand: an owned object stays owned -/
def asO (e : E) (m : M R) : M Opd := match e with
  | .var i => fun ρ => match ρ[i]? with
    | some (.fz d) => .ok (.d d) ρ
    | some (.own _ _) => .ok (.slot i) ρ
    | _ => .bad
  | _ => bnd m fun r => ret (.d r.data)
/-- as a value that is kept: an owned object is frozen -/
def asV (e : E) (m : M R) : M PyData := match e with
  | .var i => fun ρ => match ρ[i]? with
    | some (.fz d) => .ok d ρ
    | some (.own _ o) => .ok o.data (ρ.set i (.fz o.data))
    | _ => .bad
  | _ => bnd m fun r => ret r.data
def toB : R → M Bool
  | .fz (.bool b) => ret b
  | _ => bad
mutual
def setPat : Pat → PyData → M Unit
  | .nm i, d => fun ρ => if i < ρ.length then .ok () (ρ.set i (.fz d)) else .bad
  | .tup ps, .tuple ds => setPats ps ds
  | .tup _, _ => bad
def setPats : List Pat → List PyData → M Unit
  | [], [] => ret ()
  | p :: ps, d :: ds => bnd (setPat p d) fun _ => setPats ps ds
  | _, _ => bad
end
/-- the arguments of a call -/
inductive Arg where
  | d (d : PyData)
  | ref (i : Nat)
def argSlots (ρ : Rho) : List Arg → Option (List Slot)
  | [] => some []
  | .d d :: r => (argSlots ρ r).map (.fz d :: ·)
  | .ref i :: r => match ρ[i]? with
    | some (.own _ o) => (argSlots ρ r).map (.own true o :: ·)
    | _ => none
def argRefs : List Arg → List Nat
  | [] => []
  | .d _ :: r => argRefs r
  | .ref i :: r => i :: argRefs r
def argBack : List Arg → List Slot → Rho → Option Rho
  | [], [], ρ => some ρ
  | .d _ :: r, _ :: q, ρ => argBack r q ρ
  | .ref i :: r, .own true o :: q, ρ => match ρ[i]? with
    | some (.own p _) => argBack r q (ρ.set i (.own p o))
    | _ => none
  | _, _, _ => none
/-- a call: f's meaning at the arguments' slots -/
def doCall (f : List Slot → Out R) (as : List Arg) : M R := fun ρ =>
  if (argRefs as).Nodup then match argSlots ρ as with
    | some sl => match f sl with
      | .ok r sl' => match argBack as sl' ρ with
        | some ρ' => .ok r ρ'
        | none => .bad
      | .exn e sl' => match argBack as sl' ρ with
        | some ρ' => .exn e ρ'
        | none => .bad
      | .bad => .bad
    | none => .bad
  else .bad
def wipeR (ρ : Rho) : List Nat → Rho
  | [] => ρ
  | i :: r => (wipeR ρ r).set i .und
/-- the slots at is as they stood -/
def backR (old : Rho) (ρ : Rho) : List Nat → Rho
  | [] => ρ
  | i :: r => match old[i]? with
    | some s => (backR old ρ r).set i s
    | none => backR old ρ r
/-- a comprehension's loop -/
def lcL {β : Type} (f : PyData → M (Option β)) : List PyData → M (List β)
  | [] => ret []
  | d :: ds => bnd (f d) fun o => bnd (lcL f ds) fun r => ret (match o with | some x => x :: r | none => r)
def inner {α : Type} (own : List Nat) (m : M α) : M α := fun ρ => match m ρ with
  | .ok a ρ' => .ok a (backR ρ (wipeR ρ' own) own)
  | .exn _ _ => .bad
  | .bad => .bad
/-- a turn of a comprehension: its own names are empty at first -/
def turnW {α : Type} (own : List Nat) (m : M α) : M α := fun ρ => m (wipeR ρ own)
inductive Fl where
  | nx
  | rt (r : R)
  | bk
  | ct
/-- behind a loop's body: on with the loop, or out of it -/
def loopK (m : M Fl) : Fl → M Fl
  | .nx => m
  | .ct => m
  | .bk => ret .nx
  | .rt r => ret (.rt r)
def forL (f : PyData → M Fl) : List PyData → M Fl
  | [] => ret .nx
  | d :: ds => bnd (f d) (loopK (forL f ds))
def whlL (c : M Bool) (b : M Fl) : Nat → M Fl
  | 0 => bad
  | n + 1 => bnd c fun t => if t then bnd b (loopK (whlL c b n)) else ret .nx
def insK (x : PyData × PyData) (le : PyData → PyData → Bool) : List (PyData × PyData) → List (PyData × PyData)
  | [] => [x]
  | y :: r => if le x.1 y.1 then x :: y :: r else y :: insK x le r

/-! ### the evaluator -/
structure Gam where
  call : Str → List Slot → Out R
  fuel : Nat

mutual
def ev (Γ : Gam) : E → M R
  | .var i => fun ρ => match ρ[i]? with
    | some (.fz d) => .ok (.fz d) ρ
    | some (.own false o) => .ok (.own o) (ρ.set i .und)
    | _ => .bad
  | .con d => ret (.fz d)
  | .glb _ d => ret (.fz d)
  | .tup es => bnd (evVs Γ es) fun ds => ret (.fz (.tuple ds))
  | .lst es => bnd (evVs Γ es) fun ds => ret (.own (.lst ds))
  | .bin op a b => bnd (asO a (ev Γ a)) fun x => bnd (asO b (ev Γ b)) fun y => bnd (get x) fun dx => bnd (get y) fun dy => ofO (bopD op dx dy)
  | .neg a => bnd (ev Γ a) fun
    | .fz (.int i) => ret (dInt (-i))
    | _ => bad
  | .not a => bnd (ev Γ a) fun r => bnd (toB r) fun b => ret (dBl (!b))
  | .cmp op a b => bnd (asO a (ev Γ a)) fun x => bnd (asO b (ev Γ b)) fun y => bnd (get x) fun dx => bnd (get y) fun dy => ofO ((cmpD op dx dy).map dBl)
  | .chain op op' a b c => bnd (asO a (ev Γ a)) fun x => bnd (asO b (ev Γ b)) fun y => bnd (get x) fun dx => bnd (get y) fun dy => bnd (ofO (cmpD op dx dy)) fun t =>
      if t then bnd (asO c (ev Γ c)) fun z => bnd (get y) fun dy => bnd (get z) fun dz => ofO ((cmpD op' dy dz).map dBl) else ret (dBl false)
  | .isn a => bnd (asO a (ev Γ a)) fun x => bnd (get x) fun d => ret (dBl (isNon d))
  | .notn a => bnd (asO a (ev Γ a)) fun x => bnd (get x) fun d => ret (dBl (!isNon d))
  | .and a b => bnd (ev Γ a) fun r => bnd (toB r) fun t => if t then ev Γ b else ret (dBl false)
  | .or a b => bnd (ev Γ a) fun r => bnd (toB r) fun t => if t then ret (dBl true) else ev Γ b
  | .ife c a b => bnd (ev Γ c) fun r => bnd (toB r) fun t => if t then ev Γ a else ev Γ b
  | .ix a b => bnd (asO a (ev Γ a)) fun x => bnd (asO b (ev Γ b)) fun y => bnd (get x) fun dx => bnd (get y) fun dy => bnd (ofO (ixD dx dy)) fun d => ret (.fz d)
  | .sl a lo hi => bnd (asO a (ev Γ a)) fun x => bnd (evOe Γ lo) fun l => bnd (evOe Γ hi) fun h => bnd (get x) fun dx => ofO (slD dx l h)
  | .rev a => bnd (asO a (ev Γ a)) fun x => bnd (get x) fun dx => ofO (revD dx)
  | .call f as => bnd (evAs Γ as) fun xs => doCall (Γ.call f) xs
  | .bi b es => bnd (evOs Γ es) fun xs => bnd (gets xs) fun ds => ofO (biD b ds)
  | .isi a t => bnd (asO a (ev Γ a)) fun x => bnd (get x) fun d => ret (dBl (isTy t d))
  | .meth m a es => bnd (asO a (ev Γ a)) fun x => bnd (evVs Γ es) fun ds => bnd (get x) fun d => ofO (methD m d ds)
  | .pop i => fun ρ => match ρ[i]? with
    | some (.own p (.lst ds)) => match ds.getLast? with
      | some d => .ok (.fz d) (ρ.set i (.own p (.lst ds.dropLast)))
      | none => .bad
    | _ => .bad
  | .lc own p it cs elt => bnd (evIt Γ it) fun ds => bnd (inner own (lcL (fun d => turnW own <| bnd (setPat p d) fun _ => bnd (evTs Γ cs) fun t => if t then bnd (asV elt (ev Γ elt)) fun x => ret (some x) else ret none) ds)) fun xs =>
      if xs.length ≤ lim then ret (.own (.lst xs)) else bad
  | .lc2 own p it p' it' cs elt => bnd (evIt Γ it) fun ds => bnd (inner own (lcL (fun d => turnW own <| bnd (setPat p d) fun _ => bnd (evIt Γ it') fun ds' =>
        bnd (lcL (fun d' => bnd (setPat p' d') fun _ => bnd (evTs Γ cs) fun t => if t then bnd (asV elt (ev Γ elt)) fun x => ret (some x) else ret none) ds') fun xs => ret (some xs)) ds)) fun xss =>
      if xss.flatten.length ≤ lim then ret (.own (.lst xss.flatten)) else bad
  | .dlit ks vs => bnd (evVs Γ ks) fun kd => bnd (evVs Γ vs) fun vd => if kd.all isKey && decide (kd.length = vd.length) && decide (kd.length ≤ 15) then ret (.own (.dic ((kd.zip vd).foldl (fun kvs p => putD p.1 p.2 kvs) []))) else bad
  | .dc own p it k v => bnd (evIt Γ it) fun ds => bnd (inner own (lcL (fun d => turnW own <| bnd (setPat p d) fun _ => bnd (asV k (ev Γ k)) fun x => bnd (asV v (ev Γ v)) fun y => ret (some (x, y))) ds)) fun kvs =>
      if kvs.length ≤ lim then ret (.own (.dic (kvs.foldl (fun acc p => putD p.1 p.2 acc) []))) else bad
  | .srtk _ _ => bad
def evVs (Γ : Gam) : Es → M (List PyData)
  | .nil => ret []
  | .cons e es => bnd (asV e (ev Γ e)) fun d => bnd (evVs Γ es) fun ds => ret (d :: ds)
def evOs (Γ : Gam) : Es → M (List Opd)
  | .nil => ret []
  | .cons e es => bnd (asO e (ev Γ e)) fun d => bnd (evOs Γ es) fun ds => ret (d :: ds)
def evTs (Γ : Gam) : Es → M Bool
  | .nil => ret true
  | .cons e es => bnd (ev Γ e) fun r => bnd (toB r) fun t => if t then evTs Γ es else ret false
def evOe (Γ : Gam) : Oe → M (Option Int)
  | .none => ret none
  | .some e => bnd (ev Γ e) fun
    | .fz (.int i) => ret (some i)
    | _ => bad
def evAs (Γ : Gam) : As → M (List Arg)
  | .nil => ret []
  | .val e as => bnd (asV e (ev Γ e)) fun d => bnd (evAs Γ as) fun xs => ret (.d d :: xs)
  | .mut i as => fun ρ => match ρ[i]? with
    | some (.own _ _) => bnd (evAs Γ as) (fun xs => ret (.ref i :: xs)) ρ
    | _ => .bad
def evIt (Γ : Gam) : It → M (List PyData)
  | .seq e => bnd (asV e (ev Γ e)) fun d => ofO (seqD d)
  | .rng1 e => bnd (ev Γ e) fun
    | .fz (.int j) => if okRng j then ret (rngD 0 j.toNat) else bad
    | _ => bad
  | .rng2 a b => bnd (ev Γ a) fun
    | .fz (.int i) => bnd (ev Γ b) fun
      | .fz (.int j) => if okRng i && okRng j then ret (rngD i (j - i).toNat) else bad
      | _ => bad
    | _ => bad
  | .zip a b => bnd (asV a (ev Γ a)) fun x => bnd (asV b (ev Γ b)) fun y => ofO (zip2D x y)
  | .enu e => bnd (asV e (ev Γ e)) fun d => bnd (ofO (enuQ d)) fun xs => ret (enuD 0 xs)
def gets : List Opd → M (List PyData)
  | [] => ret []
  | x :: xs => bnd (get x) fun d => bnd (gets xs) fun ds => ret (d :: ds)
end
def evT (Γ : Gam) (e : E) : M Bool := bnd (ev Γ e) toB

/-- the slot holds a list of its own -/
def guardOwn {α : Type} (i : Nat) (m : M α) : M α := fun ρ => match ρ[i]? with
  | some (.own _ (.lst _)) => m ρ
  | some (.own _ (.dic _)) => m ρ
  | _ => .bad
def guardL {α : Type} (i : Nat) (m : M α) : M α := fun ρ => match ρ[i]? with
  | some (.own _ (.lst _)) => m ρ
  | _ => .bad
def setAll : List Nat → List R → M Unit
  | [], [] => ret ()
  | i :: is, r :: rs => fun ρ => if i < ρ.length then setAll is rs (ρ.set i r.slot) else .bad
  | _, _ => bad
def evRs (Γ : Gam) : Es → M (List R)
  | .nil => ret []
  | .cons e es => bnd (ev Γ e) fun r => bnd (evRs Γ es) fun rs => ret (r :: rs)
/-- behind a statement -/
def thenK (m : M Fl) : Fl → M Fl
  | .nx => m
  | .bk => ret .bk
  | .ct => ret .ct
  | .rt r => ret (.rt r)
mutual
def ex (Γ : Gam) : S → M Fl
  | .set i e => bnd (ev Γ e) fun r ρ => if i < ρ.length then .ok .nx (ρ.set i r.slot) else .bad
  | .unp p e => bnd (asV e (ev Γ e)) fun d => bnd (setPat p d) fun _ => ret .nx
  | .par is es => bnd (evRs Γ es) fun rs => bnd (setAll is rs) fun _ => ret .nx
  | .setix i k e => bnd (asV e (ev Γ e)) fun d => guardOwn i <| bnd (asV k (ev Γ k)) fun kd ρ => match ρ[i]? with
    | some (.own p (.lst ds)) => match kd with
      | .int n => match L2.ixN ds.length n with
        | some j => .ok .nx (ρ.set i (.own p (.lst (ds.set j d))))
        | none => .bad
      | _ => .bad
    | some (.own p (.dic kvs)) => if isKey kd && decide (kvs.length < lim) then .ok .nx (ρ.set i (.own p (.dic (putD kd d kvs)))) else .bad
    | _ => .bad
  | .app i e => guardL i <| bnd (asV e (ev Γ e)) fun d ρ => match ρ[i]? with
    | some (.own p (.lst ds)) => if ds.length < lim then .ok .nx (ρ.set i (.own p (.lst (ds ++ [d])))) else .bad
    | _ => .bad
  | .exp e => bnd (ev Γ e) fun _ => ret .nx
  | .ret e => bnd (ev Γ e) fun r => ret (.rt r)
  | .retn => ret (.rt (.fz .none))
  | .ife c a b => bnd (evT Γ c) fun t => if t then exs Γ a else exs Γ b
  | .whl c b => whlL (evT Γ c) (exs Γ b) Γ.fuel
  | .frr p it b => bnd (evIt Γ it) fun ds => forL (fun d => bnd (setPat p d) fun _ => exs Γ b) ds
  | .rse cls es => bnd (evVs Γ es) fun ds ρ => .exn (.mk cls ds) ρ
  | .brk => ret .bk
  | .cnt => ret .ct
  | .pss => ret .nx
def exs (Γ : Gam) : Ss → M Fl
  | .nil => ret .nx
  | .cons s ss => bnd (ex Γ s) (thenK (exs Γ ss))
end

/-! ### defs -/
structure Fn where
  name : Str
  np : Nat
  names : List Str
  body : Ss
/-- the caller's objects as they stand behind the body -/
def argsOut : List Slot → Rho → Option (List Slot)
  | [], _ => some []
  | .own true _ :: r, .own true o :: q => (argsOut r q).map (.own true o :: ·)
  | .own _ _ :: _, _ => none
  | s :: r, _ :: q => (argsOut r q).map (s :: ·)
  | _ :: _, [] => none
def run (Γ : Gam) (f : Fn) (as : List Slot) : Out R :=
  if as.length = f.np then match exs Γ f.body (as ++ List.replicate (f.names.length - f.np) .und) with
    | .ok fl ρ => match argsOut as ρ with
      | some as' => match fl with
        | .nx => .ok (.fz .none) as'
        | .rt r => .ok r as'
        | _ => .bad
      | none => .bad
    | .exn e ρ => match argsOut as ρ with
      | some as' => .exn e as'
      | none => .bad
    | .bad => .bad
  else .bad
/-- a program: its defs; calls n deep -/
def callN (fuel : Nat) (T : List Fn) : Nat → Str → List Slot → Out R
  | 0, _, _ => .bad
  | n + 1, f, as => match T.find? fun d => d.name == f with
    | some d => run ⟨callN fuel T n, fuel⟩ d as
    | none => .bad
end Y

set_option Elab.async false
set_option linter.all false
set_option maxRecDepth 100000
namespace Y
open PySem L2

/-! ### data in the heap -/
/-- a key as data -/
def keyP : Key → PyData
  | .inl i => .int i
  | .inr x => .str x
mutual
inductive Dq (K : PySem.W.Frag) (H : Hp) : V → PyData → Prop
  | non : Dq K H .non .none
  | bl (b : Bool) : Dq K H (.bl b) (.bool b)
  | int (i : Int) : Dq K H (.int i) (.int i)
  | str (x : Str) : Dq K H (.str x) (.str x)
  | lst {a : Addr} {xs : List V} {ds : List PyData} : SqL K H a xs → DqAll K H xs ds → Dq K H (.ref a) (.list ds)
  | tup {a : Addr} {xs : List V} {ds : List PyData} : SqT K H a xs → DqAll K H xs ds → Dq K H (.ref a) (.tuple ds)
  | dic {a : Addr} {xs : List (Key × V)} {ds : List (PyData × PyData)} : H a = some (.dK xs) → DqK K H xs ds → Dq K H (.ref a) (.dict ds)
inductive DqAll (K : PySem.W.Frag) (H : Hp) : List V → List PyData → Prop
  | nil : DqAll K H [] []
  | cons {v : V} {vs : List V} {d : PyData} {ds : List PyData} : Dq K H v d → DqAll K H vs ds → DqAll K H (v :: vs) (d :: ds)
inductive DqK (K : PySem.W.Frag) (H : Hp) : List (Key × V) → List (PyData × PyData) → Prop
  | nil : DqK K H [] []
  | cons {k : Key} {v : V} {vs : List (Key × V)} {d : PyData} {ds : List (PyData × PyData)} : Dq K H v d → DqK K H vs ds → DqK K H ((k, v) :: vs) ((keyP k, d) :: ds)
end
mutual
theorem dp_mono {K : PySem.W.Frag} {F F' : Hp} (h : Same F F') : ∀ {d : PyData} {v : V}, Dq K F v d → Dq K F' v d
  | _, _, .non => .non
  | _, _, .bl b => .bl b
  | _, _, .int i => .int i
  | _, _, .str x => .str x
  | _, _, .lst q r => .lst (h.seq q) (dpAll_mono h r)
  | _, _, .tup q r => .tup (by
      rcases q with (q | ⟨o, q⟩) | q
      · exact .inl (.inl (h _ _ q))
      · exact .inl (.inr ⟨o, h _ _ q⟩)
      · exact .inr q) (dpAll_mono h r)
  | _, _, .dic q r => .dic (h _ _ q) (dqK_mono h r)
theorem dpAll_mono {K : PySem.W.Frag} {F F' : Hp} (h : Same F F') : ∀ {ds : List PyData} {vs : List V}, DqAll K F vs ds → DqAll K F' vs ds
  | _, _, .nil => .nil
  | _, _, .cons a b => .cons (dp_mono h a) (dpAll_mono h b)
theorem dqK_mono {K : PySem.W.Frag} {F F' : Hp} (h : Same F F') : ∀ {ds : List (PyData × PyData)} {vs : List (Key × V)}, DqK K F vs ds → DqK K F' vs ds
  | _, _, .nil => .nil
  | _, _, .cons a b => .cons (dp_mono h a) (dqK_mono h b)
end
mutual
/-- no dict in it: the kit's own words -/
theorem Dq.dp {K : PySem.W.Frag} {F : Hp} : ∀ {d : PyData} {v : V}, Dq K F v d → d.canLay0 = true → Dp K F v d
  | _, _, .non, _ => .non
  | _, _, .bl b, _ => .bl b
  | _, _, .int i, _ => .int i
  | _, _, .str x, _ => .str x
  | _, _, .lst q r, h => .lst q (DqAll.dp r h)
  | _, _, .tup q r, h => .tup q (DqAll.dp r h)
  | _, _, .dic q r, h => by cases h
theorem DqAll.dp {K : PySem.W.Frag} {F : Hp} : ∀ {ds : List PyData} {vs : List V}, DqAll K F vs ds → PyData.canLayAll0 ds = true → DpAll K F vs ds
  | _, _, .nil, _ => .nil
  | _, _, .cons a b, h => by
    unfold PyData.canLayAll0 at h
    rw [Bool.and_eq_true] at h
    exact .cons (Dq.dp a h.1) (DqAll.dp b h.2)
end
theorem dqK_len {K : PySem.W.Frag} {F : Hp} : ∀ {ds : List (PyData × PyData)} {vs : List (Key × V)}, DqK K F vs ds → vs.length = ds.length
  | _, _, .nil => rfl
  | _, _, .cons _ b => congrArg (· + 1) (dqK_len b)
theorem keyP_eqv (k j : Key) : PyData.eqv (keyP k) (keyP j) = decide (k = j) := by
  cases k <;> cases j
  · rename_i a b
    show (a == b) = _
    by_cases h : a = b <;> simp [h]
  · rfl
  · rfl
  · rename_i a b
    show (a == b) = _
    by_cases h : a = b <;> simp [h]
theorem dqK_find {K : PySem.W.Frag} {F : Hp} (k : Key) : ∀ {ds : List (PyData × PyData)} {vs : List (Key × V)}, DqK K F vs ds → match (ds.find? fun p => PyData.eqv p.1 (keyP k)) with
    | some p => ∃ v, valV vs k = some v ∧ Dq K F v p.2
    | none => valV vs k = none
  | _, _, .nil => rfl
  | _, _, .cons (k := j) a b => by
    rw [List.find?_cons]
    dsimp only
    rw [keyP_eqv]
    by_cases h : j = k
    · rw [decide_eq_true h]
      exact ⟨_, valV_pos (p := (j, _)) h, a⟩
    · rw [decide_eq_false h]
      dsimp only
      rw [valV_neg (p := (j, _)) h]
      exact dqK_find k b
theorem find_any {α : Type} (p : α → Bool) : ∀ l : List α, l.any p = (l.find? p).isSome
  | [] => rfl
  | a :: l => by
    rw [List.any_cons, List.find?_cons]
    cases p a with
    | true => rfl
    | false => rw [Bool.false_or]; exact find_any p l
theorem dqK_any {K : PySem.W.Frag} {F : Hp} (k : Key) {ds : List (PyData × PyData)} {vs : List (Key × V)} (h : DqK K F vs ds) : (ds.any fun p => PyData.eqv p.1 (keyP k)) = (valV vs k).isSome := by
  have := dqK_find k h
  rw [find_any]
  cases e : ds.find? fun p => PyData.eqv p.1 (keyP k) with
  | none => rw [e] at this; rw [this]; rfl
  | some p => rw [e] at this; obtain ⟨v, h1, _⟩ := this; rw [h1]; rfl
theorem dqK_map {K : PySem.W.Frag} {F : Hp} (k : Key) {v : V} {d : PyData} (q : Dq K F v d) : ∀ {ds : List (PyData × PyData)} {vs : List (Key × V)}, DqK K F vs ds → DqK K F (vs.map fun kv => if kv.1 = k then (kv.1, v) else kv) (ds.map fun p => if PyData.eqv p.1 (keyP k) = true then (p.1, d) else p)
  | _, _, .nil => .nil
  | _, _, .cons (k := j) a b => by
    rw [List.map_cons, List.map_cons]
    dsimp only
    rw [keyP_eqv]
    by_cases h : j = k
    · rw [if_pos h, decide_eq_true h, if_pos rfl]
      exact .cons q (dqK_map k q b)
    · rw [if_neg h, decide_eq_false h, if_neg Bool.false_ne_true]
      exact .cons a (dqK_map k q b)
theorem dqK_app {K : PySem.W.Frag} {F : Hp} {ds es : List (PyData × PyData)} {vs us : List (Key × V)} : DqK K F vs ds → DqK K F us es → DqK K F (vs ++ us) (ds ++ es)
  | .nil, q => q
  | .cons a b, q => .cons a (dqK_app b q)
theorem dqK_put {K : PySem.W.Frag} {F : Hp} (k : Key) {v : V} {d : PyData} (q : Dq K F v d) {ds : List (PyData × PyData)} {vs : List (Key × V)} (h : DqK K F vs ds) : DqK K F (putK vs k v) (putD (keyP k) d ds) := by
  unfold putK putD
  rw [dqK_any k h, valV_any]
  split
  · exact dqK_map k q h
  · exact dqK_app h (.cons q .nil)
theorem isKey_of {d : PyData} (h : isKey d = true) : ∃ k, d = keyP k := by
  cases d with
  | int i => exact ⟨.inl i, rfl⟩
  | str x => exact ⟨.inr x, rfl⟩
  | _ => cases h
theorem keyP_inj {a b : Key} (h : keyP a = keyP b) : a = b := by
  cases a <;> cases b <;> cases h <;> rfl
theorem seqT_mono {K : PySem.W.Frag} {F F' : Hp} (h : Same F F') {a : Addr} {xs : List V} (q : SqT K F a xs) : SqT K F' a xs := by
  rcases q with (q | ⟨o, q⟩) | q
  · exact .inl (.inl (h _ _ q))
  · exact .inl (.inr ⟨o, h _ _ q⟩)
  · exact .inr q
theorem dpAll_len {K : PySem.W.Frag} {F : Hp} : ∀ {ds : List PyData} {vs : List V}, DqAll K F vs ds → vs.length = ds.length
  | _, _, .nil => rfl
  | _, _, .cons _ b => congrArg (· + 1) (dpAll_len b)
theorem dpAll_get {K : PySem.W.Frag} {F : Hp} : ∀ {ds : List PyData} {vs : List V} {i : Nat} {d : PyData}, DqAll K F vs ds → ds[i]? = some d → ∃ v, vs[i]? = some v ∧ Dq K F v d
  | _, _, _, _, .nil, e => by simp at e
  | _, _, 0, _, .cons a _, e => by simp at e; subst e; exact ⟨_, rfl, a⟩
  | _, _, i + 1, _, .cons _ b, e => by
    obtain ⟨v, h1, h2⟩ := dpAll_get (i := i) b (by simpa using e)
    exact ⟨v, by simpa using h1, h2⟩
theorem dpAll_app {K : PySem.W.Frag} {F : Hp} : ∀ {ds es : List PyData} {vs us : List V}, DqAll K F vs ds → DqAll K F us es → DqAll K F (vs ++ us) (ds ++ es)
  | _, _, _, _, .nil, q => q
  | _, _, _, _, .cons a b, q => .cons a (dpAll_app b q)
theorem dpAll_take {K : PySem.W.Frag} {F : Hp} : ∀ {ds : List PyData} {vs : List V} (n : Nat), DqAll K F vs ds → DqAll K F (vs.take n) (ds.take n)
  | _, _, 0, _ => by simp; exact .nil
  | _, _, _ + 1, .nil => .nil
  | _, _, n + 1, .cons a b => .cons a (dpAll_take n b)
theorem dpAll_drop {K : PySem.W.Frag} {F : Hp} : ∀ {ds : List PyData} {vs : List V} (n : Nat), DqAll K F vs ds → DqAll K F (vs.drop n) (ds.drop n)
  | _, _, 0, q => q
  | _, _, _ + 1, .nil => .nil
  | _, _, n + 1, .cons _ b => dpAll_drop n b
theorem dpAll_set {K : PySem.W.Frag} {F : Hp} {v : V} {d : PyData} (h : Dq K F v d) : ∀ {ds : List PyData} {vs : List V} (n : Nat), DqAll K F vs ds → DqAll K F (vs.set n v) (ds.set n d)
  | _, _, _, .nil => .nil
  | _, _, 0, .cons _ b => .cons h b
  | _, _, n + 1, .cons a b => .cons a (dpAll_set h n b)
theorem dpAll_rev {K : PySem.W.Frag} {F : Hp} : ∀ {ds : List PyData} {vs : List V}, DqAll K F vs ds → DqAll K F vs.reverse ds.reverse
  | _, _, .nil => .nil
  | _, _, .cons a b => by
    rw [List.reverse_cons, List.reverse_cons]
    exact dpAll_app (dpAll_rev b) (.cons a .nil)

/-- a value's data, all of it frozen -/
def Rep (K : PySem.W.Frag) (F : Hp) (v : V) (d : PyData) : Prop := Dq K F v d
/-- a mutable object's content -/
def ObjR (K : PySem.W.Frag) (F H : Hp) (a : Addr) : O → Prop
  | .lst ds => ∃ vs, H a = some (.lst vs) ∧ DqAll K F vs ds
  | .dic ds => ∃ vs, H a = some (.dK vs) ∧ DqK K F vs ds
/-- a value that can be read as data at H, its parts frozen -/
def RepH (K : PySem.W.Frag) (F H : Hp) (v : V) : PyData → Prop
  | .list ds => ∃ a vs, v = .ref a ∧ SqL K H a vs ∧ DqAll K F vs ds
  | .dict ds => ∃ a vs, v = .ref a ∧ H a = some (.dK vs) ∧ DqK K F vs ds
  | d => Dq K F v d
theorem Rep.mono {K : PySem.W.Frag} {F F' : Hp} {v : V} {d : PyData} (h : Rep K F v d) (s : Same F F') : Rep K F' v d := dp_mono s h
theorem Rep.h {K : PySem.W.Frag} {F H : Hp} {v : V} {d : PyData} (h : Rep K F v d) (s : Same F H) : RepH K F H v d := by
  have h : Dq K F v d := h
  cases h with
  | lst q r => exact ⟨_, _, rfl, s.seq q, r⟩
  | dic q r => exact ⟨_, _, rfl, s _ _ q, r⟩
  | tup q r => exact .tup q r
  | non => exact .non
  | bl => exact .bl _
  | int => exact .int _
  | str => exact .str _
theorem ObjR.h {K : PySem.W.Frag} {F H : Hp} {a : Addr} {o : O} (h : ObjR K F H a o) : RepH K F H (.ref a) o.data := by
  cases o with
  | lst ds => obtain ⟨vs, e, q⟩ := h; exact ⟨a, vs, rfl, SqL.of e, q⟩
  | dic kvs => obtain ⟨vs, e, q⟩ := h; exact ⟨a, vs, rfl, e, q⟩
theorem ObjR.mono {K : PySem.W.Frag} {F F' H H' : Hp} {a : Addr} {o : O} (h : ObjR K F H a o) (s : Same F F') (e : ∀ u, H a = some u → H' a = some u) : ObjR K F' H' a o := by
  cases o with
  | lst ds => obtain ⟨vs, e1, q⟩ := h; exact ⟨vs, e _ e1, dpAll_mono s q⟩
  | dic kvs => obtain ⟨vs, e1, q⟩ := h; exact ⟨vs, e _ e1, dqK_mono s q⟩
theorem ObjR.some {K : PySem.W.Frag} {F H : Hp} {a : Addr} {o : O} (h : ObjR K F H a o) : ∃ u, H a = some u := by
  cases o with
  | lst ds => obtain ⟨vs, e1, q⟩ := h; exact ⟨_, e1⟩
  | dic kvs => obtain ⟨vs, e1, q⟩ := h; exact ⟨_, e1⟩
/-- an object that is frozen where it stands -/
theorem ObjR.freeze {K : PySem.W.Frag} {F H : Hp} {a : Addr} {o : O} {u : HO} (h : ObjR K F H a o) (e : H a = Option.some u) (n : F a = none) : Rep K (upd F a u) (.ref a) o.data := by
  have sm : Same F (upd F a u) := fun b x q => by rw [upd_ne (ne_of_none q n)]; exact q
  cases o with
  | lst ds =>
    obtain ⟨vs, e1, q⟩ := h
    rw [e] at e1; cases e1
    exact Dq.lst (SqL.of upd_same) (dpAll_mono sm q)
  | dic kvs =>
    obtain ⟨vs, e1, q⟩ := h
    rw [e] at e1; cases e1
    exact Dq.dic upd_same (dqK_mono sm q)
theorem RepH.dp {K : PySem.W.Frag} {F H : Hp} {v : V} {d : PyData} (h : RepH K F H v d) (s : Same F H) : Dq K H v d := by
  cases d with
  | list ds => obtain ⟨a, vs, rfl, q, r⟩ := h; exact .lst q (dpAll_mono s r)
  | dict ds => obtain ⟨a, vs, rfl, q, r⟩ := h; exact .dic q (dqK_mono s r)
  | _ => exact dp_mono s h

/-! ### the slots and the heap -/
def Owned (ρ : Rho) (σ : St) (b : Addr) : Prop := ∃ (i : Nat) (p : Bool) (o : O), ρ[i]? = some (.own p o) ∧ σ[i]? = some (some (.ref b))
structure SR (K : PySem.W.Frag) (F H : Hp) (ρ : Rho) (σ : St) : Prop where
  len : ρ.length = σ.length
  sub : Same F H
  fz : ∀ (i : Nat) d, ρ[i]? = some (.fz d) → ∃ v, σ[i]? = some (some v) ∧ Rep K F v d
  own : ∀ (i : Nat) p o, ρ[i]? = some (.own p o) → ∃ a, σ[i]? = some (some (.ref a)) ∧ F a = none ∧ ObjR K F H a o
  sep : ∀ (i j : Nat) p o p' o' a, ρ[i]? = some (.own p o) → ρ[j]? = some (.own p' o') → σ[i]? = some (some (.ref a)) → σ[j]? = some (some (.ref a)) → i = j
structure Stp (σ : St) (ρ : Rho) (F H : Hp) (σ' : St) (ρ' : Rho) (F' H' : Hp) : Prop where
  ff : Same F F'
  kp : ∀ b o, H b = some o → ¬ Owned ρ σ b → H' b = some o
  nf : ∀ b o, F' b = some o → F b = none → H b = none ∨ Owned ρ σ b
  no : ∀ b, Owned ρ' σ' b → Owned ρ σ b ∨ H b = none
  mo : ∀ b, H' b = none → H b = none
  pin : ∀ (i : Nat) o, ρ'[i]? = some (.own true o) → σ'[i]? = σ[i]? ∧ ∃ o0, ρ[i]? = some (.own true o0)
  ln : ρ'.length = ρ.length
theorem Stp.refl {σ : St} {ρ : Rho} {F H : Hp} : Stp σ ρ F H σ ρ F H :=
  ⟨.refl F, fun _ _ h _ => h, fun b o h n => by rw [n] at h; (cases h), fun _ h => .inl h, fun _ h => h, fun _ o h => ⟨rfl, o, h⟩, rfl⟩
theorem Stp.trans {σ σ1 σ2 : St} {ρ ρ1 ρ2 : Rho} {F H F1 H1 F2 H2 : Hp} (a : Stp σ ρ F H σ1 ρ1 F1 H1) (b : Stp σ1 ρ1 F1 H1 σ2 ρ2 F2 H2) : Stp σ ρ F H σ2 ρ2 F2 H2 where
  ff := a.ff.trans b.ff
  kp := fun c o h n => b.kp c o (a.kp c o h n) fun q => (a.no c q).elim n fun z => by rw [z] at h; cases h
  nf := fun c o h n => by
    cases e : F1 c with
    | none =>
      rcases b.nf c o h e with q | q
      · exact .inl (a.mo c q)
      · exact (a.no c q).symm
    | some u => exact a.nf c u e n
  no := fun c h => (b.no c h).elim (a.no c) fun q => .inr (a.mo c q)
  mo := fun c h => a.mo c (b.mo c h)
  pin := fun i o h => by
    obtain ⟨e1, o1, q1⟩ := b.pin i o h
    obtain ⟨e2, o2, q2⟩ := a.pin i o1 q1
    exact ⟨e1.trans e2, o2, q2⟩
  ln := b.ln.trans a.ln
/-- an object that is neither owned nor frozen stays so -/
theorem Stp.apart {σ σ' : St} {ρ ρ' : Rho} {F H F' H' : Hp} (s : Stp σ ρ F H σ' ρ' F' H') {a : Addr} {u : HO} (e : H a = some u) (n : F a = none) (o : ¬ Owned ρ σ a) : H' a = some u ∧ F' a = none ∧ ¬ Owned ρ' σ' a := by
  refine ⟨s.kp a u e o, ?_, fun q => ?_⟩
  · cases q : F' a with
    | none => rfl
    | some x =>
      rcases s.nf a x q n with z | z
      · rw [e] at z; cases z
      · exact absurd z o
  · rcases s.no a q with z | z
    · exact o z
    · rw [e] at z; cases z

/-! ### the meanings of computations -/
abbrev XW := Exn → Rho → St → Hp → Hp → Prop
abbrev Rl (α β : Type) := St → Rho → Hp → Rho → Hp → Hp → α → β → Prop
def XP (K : PySem.W.Frag) (E : XW) (σ : St) (ρ : Rho) (F H : Hp) (x : Exn) (ρ' : Rho) : Prop := ∀ σ' F' H', Stp σ ρ F H σ' ρ' F' H' → SR K F' H' ρ' σ' → E x ρ' σ' F' H'
theorem XP.step {K : PySem.W.Frag} {E : XW} {σ σ1 : St} {ρ ρ1 : Rho} {F H F1 H1 : Hp} {x : Exn} {ρ' : Rho} (s : Stp σ ρ F H σ1 ρ1 F1 H1) (h : XP K E σ ρ F H x ρ') : XP K E σ1 ρ1 F1 H1 x ρ' :=
  fun σ' F' H' q r => h σ' F' H' (s.trans q) r
def TM {α β : Type} (K : PySem.W.Frag) (E : XW) (rel : Rl α β) (m : M α) (F : Hp) (ρ : Rho) (σ : St) (H : Hp) (Q : β → Hp → Prop) : Prop :=
  SR K F H ρ σ ∧ match m ρ with
    | .ok a ρ' => ∀ b F' H', Stp σ ρ F H σ ρ' F' H' → SR K F' H' ρ' σ → rel σ ρ H ρ' F' H' a b → Q b H'
    | .exn x ρ' => XP K E σ ρ F H x ρ'
    | .bad => False
/-- a relation that speaks of the start only by what is new -/
def RlT {α β : Type} (rel : Rl α β) : Prop := ∀ σ ρ F H ρ1 F1 H1 ρ2 F2 H2 a b, Stp σ ρ F H σ ρ1 F1 H1 → rel σ ρ1 H1 ρ2 F2 H2 a b → rel σ ρ H ρ2 F2 H2 a b
section
variable {α β γ δ : Type} {K : PySem.W.Frag} {E : XW} {F H : Hp} {ρ : Rho} {σ : St}
theorem TM.bind {rel1 : Rl α γ} {rel2 : Rl β δ} {m : M α} {f : α → M β} {Q : δ → Hp → Prop} (hT : RlT rel2) (h : TM K E rel2 (bnd m f) F ρ σ H Q) :
    TM K E rel1 m F ρ σ H fun b H1 => ∃ a ρ1 F1, rel1 σ ρ H ρ1 F1 H1 a b ∧ Stp σ ρ F H σ ρ1 F1 H1 ∧ TM K E rel2 (f a) F1 ρ1 σ H1 Q := by
  obtain ⟨sr, h⟩ := h
  refine ⟨sr, ?_⟩
  unfold bnd at h
  cases e : m ρ with
  | bad => rw [e] at h; exact h
  | exn x ρ' => rw [e] at h; exact h
  | ok a ρ1 =>
    rw [e] at h
    intro b F1 H1 st sr1 rl
    refine ⟨a, ρ1, F1, rl, st, sr1, ?_⟩
    have h : match f a ρ1 with
      | .ok a ρ' => ∀ b F' H', Stp σ ρ F H σ ρ' F' H' → SR K F' H' ρ' σ → rel2 σ ρ H ρ' F' H' a b → Q b H'
      | .exn x ρ' => XP K E σ ρ F H x ρ'
      | .bad => False := h
    cases e2 : f a ρ1 with
    | bad => rw [e2] at h; exact h
    | exn x ρ' => rw [e2] at h; exact h.step st
    | ok c ρ2 =>
      rw [e2] at h
      exact fun d F2 H2 st2 sr2 rl2 => h d F2 H2 (st.trans st2) sr2 (hT _ _ _ _ _ _ _ _ _ _ _ _ st rl2)
theorem TM.map {rel : Rl β γ} {m : M α} {g : α → β} {Q : γ → Hp → Prop} (h : TM K E rel (bnd m fun a => ret (g a)) F ρ σ H Q) :
    TM K E (fun σ ρ H ρ' F' H' a b => rel σ ρ H ρ' F' H' (g a) b) m F ρ σ H Q := by
  obtain ⟨sr, h⟩ := h
  refine ⟨sr, ?_⟩
  unfold bnd at h
  cases e : m ρ with
  | bad => rw [e] at h; exact h
  | exn x ρ' => rw [e] at h; exact h
  | ok a ρ1 => rw [e] at h; exact h
theorem TM.imp {rel rel' : Rl α β} {m : M α} {Q Q' : β → Hp → Prop} (h : TM K E rel m F ρ σ H Q) (hr : ∀ σ ρ H ρ' F' H' a b, rel' σ ρ H ρ' F' H' a b → rel σ ρ H ρ' F' H' a b) (hq : ∀ b H, Q b H → Q' b H) : TM K E rel' m F ρ σ H Q' := by
  obtain ⟨sr, h⟩ := h
  refine ⟨sr, ?_⟩
  cases e : m ρ with
  | bad => rw [e] at h; exact h
  | exn x ρ' => rw [e] at h; exact h
  | ok a ρ1 =>
    rw [e] at h
    exact fun b F' H' st sr1 rl => hq _ _ (h b F' H' st sr1 (hr _ _ _ _ _ _ _ _ rl))
theorem TM.ret {rel : Rl α β} {a : α} {b : β} {Q : β → Hp → Prop} (h : TM K E rel (ret a) F ρ σ H Q) (r : rel σ ρ H ρ F H a b) : Q b H := h.2 b F H .refl h.1 r
theorem TM.bad {rel : Rl α β} {Q : β → Hp → Prop} (h : TM K E rel bad F ρ σ H Q) : False := h.2
theorem TM.sr {rel : Rl α β} {m : M α} {Q : β → Hp → Prop} (h : TM K E rel m F ρ σ H Q) : SR K F H ρ σ := h.1
/-- a step that only reads -/
theorem TM.read {rel : Rl β γ} {m : M α} {f : α → M β} {Q : γ → Hp → Prop} {a : α} (h : TM K E rel (bnd m f) F ρ σ H Q) (e : m ρ = .ok a ρ) : TM K E rel (f a) F ρ σ H Q := by
  obtain ⟨sr, h⟩ := h
  refine ⟨sr, ?_⟩
  unfold bnd at h
  rw [e] at h
  exact h
theorem TM.ofO {rel : Rl β γ} {o : Option α} {f : α → M β} {Q : γ → Hp → Prop} (h : TM K E rel (bnd (ofO o) f) F ρ σ H Q) : ∃ a, o = some a ∧ TM K E rel (f a) F ρ σ H Q := by
  cases o with
  | none => exact False.elim h.2
  | some a => exact ⟨a, rfl, h.read rfl⟩
end

/-! ### the relations -/
def rlR (K : PySem.W.Frag) : Rl R V := fun σ ρ H ρ' F' H' r v => match r with
  | .fz d => Rep K F' v d
  | .own o => ∃ a, v = .ref a ∧ F' a = none ∧ ObjR K F' H' a o ∧ ¬ Owned ρ' σ a ∧ (H a = none ∨ Owned ρ σ a)
def rlV (K : PySem.W.Frag) : Rl R V := fun _ _ _ _ F' _ r v => Rep K F' v r.data
def rlD (K : PySem.W.Frag) : Rl PyData V := fun _ _ _ _ F' _ d v => Rep K F' v d
def rlDs (K : PySem.W.Frag) : Rl (List PyData) (List V) := fun _ _ _ _ F' _ ds vs => DqAll K F' vs ds
def opdR (K : PySem.W.Frag) (F : Hp) (σ : St) (x : Opd) (v : V) : Prop := match x with
  | .d d => Rep K F v d
  | .slot i => σ[i]? = some (some v)
def rlO (K : PySem.W.Frag) : Rl Opd V := fun σ _ _ _ F' _ x v => opdR K F' σ x v
def rlB : Rl Bool Bool := fun _ _ _ _ _ _ a b => a = b
theorem rlR_t {K : PySem.W.Frag} : RlT (rlR K) := fun σ ρ F H ρ1 F1 H1 ρ2 F2 H2 r v st h => by
  cases r with
  | fz d => exact h
  | own o =>
    obtain ⟨a, e, n, q, w, z⟩ := h
    refine ⟨a, e, n, q, w, ?_⟩
    rcases z with z | z
    · exact .inl (st.mo a z)
    · exact (st.no a z).symm
theorem rlV_t {K : PySem.W.Frag} : RlT (rlV K) := fun _ _ _ _ _ _ _ _ _ _ _ _ _ h => h
theorem rlD_t {K : PySem.W.Frag} : RlT (rlD K) := fun _ _ _ _ _ _ _ _ _ _ _ _ _ h => h
theorem rlDs_t {K : PySem.W.Frag} : RlT (rlDs K) := fun _ _ _ _ _ _ _ _ _ _ _ _ _ h => h
theorem rlO_t {K : PySem.W.Frag} : RlT (rlO K) := fun _ _ _ _ _ _ _ _ _ _ _ _ _ h => h
theorem rlB_t : RlT rlB := fun _ _ _ _ _ _ _ _ _ _ _ _ _ h => h
section
variable {K : PySem.W.Frag} {E : XW} {F H : Hp} {ρ : Rho} {σ : St}
theorem opdR.mono {F F' : Hp} {x : Opd} {v : V} (h : opdR K F σ x v) (s : Same F F') : opdR K F' σ x v := by
  cases x with
  | d d => exact Rep.mono h s
  | slot i => exact h
/-- frozen when it is made -/
theorem SR.freeze {a : Addr} {u : HO} (sr : SR K F H ρ σ) (e : H a = some u) (n : F a = none) (o : ¬ Owned ρ σ a) : SR K (upd F a u) H ρ σ := by
  have sm : Same F (upd F a u) := fun b x q => by rw [upd_ne (ne_of_none q n)]; exact q
  refine ⟨sr.len, fun b x q => ?_, fun i d h => ?_, fun i p ob h => ?_, sr.sep⟩
  · by_cases hb : b = a
    · subst hb; rw [upd_same] at q; cases q; exact e
    · rw [upd_ne hb] at q; exact sr.sub b x q
  · obtain ⟨v, h1, h2⟩ := sr.fz i d h
    exact ⟨v, h1, h2.mono sm⟩
  · obtain ⟨c, h1, h2, h3⟩ := sr.own i p ob h
    refine ⟨c, h1, ?_, h3.mono sm fun _ q => q⟩
    have hc : c ≠ a := fun z => o ⟨i, p, ob, h, by rw [← z]; exact h1⟩
    rw [upd_ne hc]; exact h2
theorem TM.freeze {m : M R} {Q : V → Hp → Prop} (h : TM K E (rlV K) m F ρ σ H Q) : TM K E (rlR K) m F ρ σ H Q := by
  obtain ⟨sr, h⟩ := h
  refine ⟨sr, ?_⟩
  cases e : m ρ with
  | bad => rw [e] at h; exact h
  | exn x ρ' => rw [e] at h; exact h
  | ok r ρ1 =>
    rw [e] at h
    intro v F' H' st sr1 rl
    cases r with
    | fz d => exact h v F' H' st sr1 rl
    | own o =>
      obtain ⟨a, rfl, n, q, w, z⟩ := rl
      obtain ⟨u, hu⟩ := q.some
      refine h _ (upd F' a u) H' ⟨?_, st.kp, fun b x hb hn => ?_, st.no, st.mo, st.pin, st.ln⟩ (sr1.freeze hu n w) (q.freeze hu n)
      · exact fun b x hb => by rw [upd_ne (ne_of_none (st.ff b x hb) n)]; exact st.ff b x hb
      · by_cases hba : b = a
        · subst hba; exact z
        · rw [upd_ne hba] at hb; exact st.nf b x hb hn
/-- what an operand reads -/
theorem get_of {x : Opd} {v : V} {ρ' : Rho} {d : PyData} (sr : SR K F H ρ σ) (h : opdR K F σ x v) (e : get x ρ = .ok d ρ') : ρ' = ρ ∧ RepH K F H v d := by
  cases x with
  | d d' =>
    have e : Out.ok d' ρ = .ok d ρ' := e
    cases e
    exact ⟨rfl, Rep.h h sr.sub⟩
  | slot i =>
    have e : getSlot i ρ = .ok d ρ' := e
    unfold getSlot at e
    cases hs : ρ[i]? with
    | none => rw [hs] at e; cases e
    | some s =>
      rw [hs] at e
      cases s with
      | und => cases e
      | fz d' =>
        cases e
        obtain ⟨v', h1, h2⟩ := sr.fz i _ hs
        have h : σ[i]? = some (some v) := h
        rw [h] at h1; cases h1
        exact ⟨rfl, h2.h sr.sub⟩
      | own p o =>
        cases e
        obtain ⟨a, h1, h2, h3⟩ := sr.own i p o hs
        have h : σ[i]? = some (some v) := h
        rw [h] at h1; cases h1
        exact ⟨rfl, h3.h⟩
theorem TM.get {β γ : Type} {rel : Rl β γ} {x : Opd} {v : V} {f : PyData → M β} {Q : γ → Hp → Prop} (h : TM K E rel (bnd (get x) f) F ρ σ H Q) (hx : opdR K F σ x v) : ∃ d, RepH K F H v d ∧ TM K E rel (f d) F ρ σ H Q := by
  cases e : Y.get x ρ with
  | bad => exact absurd h.2 (by unfold bnd; rw [e]; exact id)
  | exn y ρ' =>
    exfalso
    cases x with
    | d d' => cases e
    | slot i =>
      have e : getSlot i ρ = .exn y ρ' := e
      unfold getSlot at e
      split at e <;> cases e
  | ok d ρ' =>
    obtain ⟨rfl, q⟩ := get_of h.1 hx e
    exact ⟨d, q, h.read e⟩
end
end Y

set_option Elab.async false
set_option linter.all false
set_option maxRecDepth 100000
namespace Y
open PySem L2
theorem lim_eq : lim = sizeLine := by rw [sizeLine_eq]

section
variable {K : PySem.W.Frag} {E : XW} {F H : Hp} {ρ : Rho} {σ : St} {Q : V → Hp → Prop}
theorem TM.val {m : M R} (h : TM K E (rlR K) m F ρ σ H Q) {d : PyData} {v : V} (e : m ρ = .ok (.fz d) ρ) (r : Rep K F v d) : Q v H := by
  obtain ⟨sr, h⟩ := h
  rw [e] at h
  exact h v F H .refl sr r
theorem owned_some {ρ : Rho} {σ : St} {a : Addr} (sr : SR K F H ρ σ) (o : Owned ρ σ a) : ∃ u, H a = some u := by
  obtain ⟨i, p, ob, h1, h2⟩ := o
  obtain ⟨b, e, _, q⟩ := sr.own i p ob h1
  rw [h2] at e; cases e
  exact q.some
theorem owned_F {ρ : Rho} {σ : St} {a : Addr} (sr : SR K F H ρ σ) (o : Owned ρ σ a) : F a = none := by
  obtain ⟨i, p, ob, h1, h2⟩ := o
  obtain ⟨b, e, q, _⟩ := sr.own i p ob h1
  rw [h2] at e; cases e
  exact q
theorem not_owned_none {a : Addr} (sr : SR K F H ρ σ) (n : H a = none) : ¬ Owned ρ σ a := fun o => by
  obtain ⟨u, e⟩ := owned_some sr o
  rw [n] at e; cases e
/-- a new object, frozen at once -/
theorem SR.newF {p : Addr} {u : HO} (sr : SR K F H ρ σ) (n : H p = none) : SR K (upd F p u) (upd H p u) ρ σ ∧ Stp σ ρ F H σ ρ (upd F p u) (upd H p u) := by
  have nF : F p = none := sr.sub.free n
  have sm : Same F (upd F p u) := fun b x q => by rw [upd_ne (ne_of_none q nF)]; exact q
  have smH : Same H (upd H p u) := fun b x q => by rw [upd_ne (ne_of_none q n)]; exact q
  refine ⟨⟨sr.len, fun b x q => ?_, fun i d h => ?_, fun i q o h => ?_, sr.sep⟩, ⟨sm, fun b x q _ => smH b x q, fun b x q z => ?_, fun b o => .inl o, fun b q => ?_, fun i o h => ⟨rfl, o, h⟩, rfl⟩⟩
  · by_cases hb : b = p
    · subst hb; rw [upd_same] at q ⊢; exact q
    · rw [upd_ne hb] at q ⊢; exact sr.sub b x q
  · obtain ⟨v, h1, h2⟩ := sr.fz i d h
    exact ⟨v, h1, h2.mono sm⟩
  · obtain ⟨a, h1, h2, h3⟩ := sr.own i q o h
    obtain ⟨w, hw⟩ := h3.some
    exact ⟨a, h1, by rw [upd_ne (ne_of_none hw n)]; exact h2, h3.mono sm fun z hz => smH a z hz⟩
  · by_cases hb : b = p
    · subst hb; exact .inl n
    · rw [upd_ne hb, z] at q; cases q
  · by_cases hb : b = p
    · subst hb; rw [upd_same] at q; cases q
    · rw [upd_ne hb] at q; exact q
/-- a new object, not frozen -/
theorem SR.newO {p : Addr} {u : HO} (sr : SR K F H ρ σ) (n : H p = none) : SR K F (upd H p u) ρ σ ∧ Stp σ ρ F H σ ρ F (upd H p u) := by
  have nF : F p = none := sr.sub.free n
  have smH : Same H (upd H p u) := fun b x q => by rw [upd_ne (ne_of_none q n)]; exact q
  refine ⟨⟨sr.len, sr.sub.trans smH, sr.fz, fun i q o h => ?_, sr.sep⟩, ⟨.refl F, fun b x q _ => smH b x q, fun b x q z => absurd (q.symm.trans z) (by simp), fun b o => .inl o, fun b q => ?_, fun i o h => ⟨rfl, o, h⟩, rfl⟩⟩
  · obtain ⟨a, h1, h2, h3⟩ := sr.own i q o h
    exact ⟨a, h1, h2, h3.mono (.refl F) fun z hz => smH a z hz⟩
  · by_cases hb : b = p
    · subst hb; rw [upd_same] at q; cases q
    · rw [upd_ne hb] at q; exact q
theorem TM.newTup {m : M R} {p : Addr} {vs : List V} {ds : List PyData} (h : TM K E (rlR K) m F ρ σ H Q) (e : m ρ = .ok (.fz (.tuple ds)) ρ) (n : H p = none) (q : DqAll K F vs ds) : Q (.ref p) (upd H p (.tup vs)) := by
  obtain ⟨sr, h⟩ := h
  rw [e] at h
  obtain ⟨s1, s2⟩ := sr.newF (u := .tup vs) n
  exact h _ _ _ s2 s1 (Dq.tup (SqT.of upd_same) (dpAll_mono s2.ff q))
theorem TM.newLst {m : M R} {p : Addr} {vs : List V} {ds : List PyData} (h : TM K E (rlR K) m F ρ σ H Q) (e : m ρ = .ok (.own (.lst ds)) ρ) (n : H p = none) (q : DqAll K F vs ds) : Q (.ref p) (upd H p (.lst vs)) := by
  obtain ⟨sr, h⟩ := h
  rw [e] at h
  obtain ⟨s1, s2⟩ := sr.newO (u := .lst vs) n
  exact h _ _ _ s2 s1 ⟨p, rfl, sr.sub.free n, ⟨vs, upd_same, q⟩, not_owned_none sr n, .inl n⟩
theorem ofO_ok {α : Type} {o : Option α} {a : α} (h : o = some a) : ofO o ρ = .ok a ρ := by rw [h]; rfl
theorem TM.get? {α β : Type} {rel : Rl α β} {o : Option α} {Q : β → Hp → Prop} (h : TM K E rel (Y.ofO o) F ρ σ H Q) : ∃ a, o = some a := by
  cases o with
  | none => exact False.elim h.2
  | some a => exact ⟨a, rfl⟩
end

/-! ### two-place operators -/
def opA : Bop → Operator
  | .add => .Add
  | .sub => .Sub
  | .mul => .Mult
  | .fdiv => .FloorDiv
  | .mod => .Mod
  | .pow => .Pow
section
open PySem.Spec PyProof.Rows
variable {X : Cx}
/-- list + list, however they are held -/
def rCatL (K : PySem.W.Frag) : R2 := fun x y H Q => ∃ l b xs zs, x = .ref l ∧ y = .ref b ∧ SqL K H l xs ∧ SqL K H b zs ∧ xs.length + zs.length ≤ sizeLine ∧ ∀ p, H p = none → Q (.ref p) (upd H p (.lst (xs ++ zs)))
theorem op_catL : OpR X (binaryOp .Add) (rCatL X.K) := by
  intro pins s σ H x y v u Q I rx ry h
  obtain ⟨l, b, xs, zs, rfl, rfl, hH, hB, hz, q⟩ := h
  cases rx
  cases ry
  obtain ⟨its, r, ⟨⟨c1, d1, t1, sl1⟩, n1, e1, k1, k2, k3⟩, z1⟩ := I.list hH
  obtain ⟨its2, r2, ⟨⟨c2, d2, t2, sl2⟩, n2, e2, j1, j2, j3⟩, z2⟩ := I.list hB
  simp only at k1 k2 k3 j1 j2 j3
  subst k1 k2 k3 j1 j2 j3
  have l1 := r.length
  have l2 := r2.length
  refine concat_meets ⟨_, e1, rfl⟩ ⟨_, e2, rfl⟩ noFill_list_add seq_list_add PySem.F.slot_list_add PySem.F.entry_list_add (PySem.F.args_list_add_2 _ _)
    (list_addW l b its.toArray its2.toArray n1 n2 none none sl1 sl2 (by rw [List.size_toArray, List.size_toArray]; omega)) ⟨e1, e2, ?_⟩
  have ea : its.toArray ++ its2.toArray = (its ++ its2).toArray := by simp
  rw [ea]
  exact ⟨.ref _, _, I.lnew (t' := s.toks) (r.append r2) (by rw [List.length_append]; omega), rfl, q _ I.fresh⟩
end
section
variable {X : Cx} {E : XW}
theorem dpi {K : PySem.W.Frag} {F H : Hp} {x : V} {i : Int} (h : RepH K F H x (.int i)) : x = .int i := by cases (show Dq K F x (.int i) from h); rfl
theorem dps {K : PySem.W.Frag} {F H : Hp} {x : V} {i : Str} (h : RepH K F H x (.str i)) : x = .str i := by cases (show Dq K F x (.str i) from h); rfl
theorem dpb {K : PySem.W.Frag} {F H : Hp} {x : V} {i : Bool} (h : RepH K F H x (.bool i)) : x = .bl i := by cases (show Dq K F x (.bool i) from h); rfl
theorem dpn {K : PySem.W.Frag} {F H : Hp} {x : V} (h : RepH K F H x .none) : x = .non := by cases (show Dq K F x .none from h); rfl
theorem dpt {K : PySem.W.Frag} {F H : Hp} {x : V} {ds : List PyData} (h : RepH K F H x (.tuple ds)) (s : Same F H) : ∃ a vs, x = .ref a ∧ SqT K H a vs ∧ DqAll K F vs ds ∧ Rep K F x (.tuple ds) := by
  have h2 : Dq K F x (.tuple ds) := h
  cases h2 with
  | tup q r => exact ⟨_, _, rfl, seqT_mono s q, r, .tup q r⟩
theorem dpAll_nil {K : PySem.W.Frag} {F : Hp} {vs : List V} (h : DqAll K F vs []) : vs = [] := by cases h; rfl
theorem dpAll_nil' {K : PySem.W.Frag} {F : Hp} {ds : List PyData} (h : DqAll K F [] ds) : ds = [] := by cases h; rfl
def rB (K : PySem.W.Frag) (E : XW) (op : Bop) : R2 := fun x y H Q => ∃ F ρ σ dx dy, RepH K F H x dx ∧ RepH K F H y dy ∧ TM K E (rlR K) (ofO (bopD op dx dy)) F ρ σ H Q
theorem dpAll_rep {K : PySem.W.Frag} {F : Hp} {vs : List V} {ds : List PyData} (h : DqAll K F vs ds) : ∀ n : Nat, DqAll K F (List.replicate n vs).flatten (List.replicate n ds).flatten
  | 0 => .nil
  | n + 1 => by
    rw [List.replicate_succ, List.replicate_succ, List.flatten_cons, List.flatten_cons]
    exact dpAll_app h (dpAll_rep h n)
theorem bop_ok (op : Bop) : OpR X (binaryOp (opA op)) (rB X.K E op) := by
  intro pins s σ H x y v u Q I rx ry h
  obtain ⟨F, ρ, σ', dx, dy, hx, hy, h⟩ := h
  obtain ⟨r, hr⟩ := h.get?
  have he := ofO_ok (ρ := ρ) hr
  unfold bopD at hr
  split at hr
  · cases hr
    cases dpi hx; cases dpi hy
    exact op_add pins s σ H _ _ v u Q I rx ry ⟨_, _, rfl, rfl, h.val he (.int _)⟩
  · split at hr
    · rename_i hl
      cases hr
      cases dps hx; cases dps hy
      exact op_add_str pins s σ H _ _ v u Q I rx ry ⟨_, _, rfl, rfl, by rw [← lim_eq]; exact hl, h.val he (.str _)⟩
    · cases hr
  · split at hr
    · rename_i hl
      cases hr
      obtain ⟨a, vs, rfl, q1, q2⟩ := hx
      obtain ⟨b, us, rfl, q3, q4⟩ := hy
      exact op_catL pins s σ H _ _ v u Q I rx ry ⟨a, b, vs, us, rfl, rfl, q1, q3, by rw [← lim_eq, dpAll_len q2, dpAll_len q4]; exact hl, fun p n => h.newLst he n (dpAll_app q2 q4)⟩
    · cases hr
  · split at hr
    · rename_i xs ys hl
      cases hr
      obtain ⟨a, vs, rfl, q1, q2, q5⟩ := dpt hx h.sr.sub
      obtain ⟨b, us, rfl, q3, q4, q6⟩ := dpt hy h.sr.sub
      have l1 := dpAll_len q2
      have l2 := dpAll_len q4
      refine op_catA pins s σ H _ _ v u Q I rx ry ⟨a, b, vs, us, rfl, rfl, q1, q3, by rw [← lim_eq, l1, l2]; exact hl, fun e => ?_, fun _ e => ?_, fun _ _ p n => h.newTup he n (dpAll_app q2 q4)⟩
      · subst e
        cases dpAll_nil' q2
        exact h.val he q6
      · subst e
        cases dpAll_nil' q4
        rw [List.append_nil] at he
        exact h.val he q5
    · cases hr
  · cases hr
    cases dpi hx; cases dpi hy
    exact op_sub pins s σ H _ _ v u Q I rx ry ⟨_, _, rfl, rfl, h.val he (.int _)⟩
  · split at hr
    · rename_i hl
      cases hr
      cases dpi hx; cases dpi hy
      exact op_mul pins s σ H _ _ v u Q I rx ry ⟨_, _, rfl, rfl, hl, h.val he (.int _)⟩
    · cases hr
  · split at hr
    · rename_i xs k hl
      cases hr
      obtain ⟨a, vs, rfl, q1, q2, q5⟩ := dpt hx h.sr.sub
      cases dpi hy
      have l1 := dpAll_len q2
      refine op_repT pins s σ H _ _ v u Q I rx ry ⟨a, k, vs, rfl, rfl, q1, fun e => ?_, hl.2.1, hl.2.2.1, by rw [l1]; exact hl.2.2.2, fun p n => h.newTup he n (dpAll_rep q2 k.toNat)⟩
      subst e
      cases dpAll_nil' q2
      exact absurd hl.1 (by decide)
    · cases hr
  · split at hr
    · rename_i hl
      cases hr
      cases dpi hx; cases dpi hy
      exact op_fdiv pins s σ H _ _ v u Q I rx ry ⟨_, _, rfl, rfl, hl, h.val he (.int _)⟩
    · cases hr
  · split at hr
    · rename_i hl
      cases hr
      cases dpi hx; cases dpi hy
      exact op_mod pins s σ H _ _ v u Q I rx ry ⟨_, _, rfl, rfl, hl, h.val he (.int _)⟩
    · cases hr
  · split at hr
    · rename_i hl
      cases hr
      cases dpi hx; cases dpi hy
      exact op_pow pins s σ H _ _ v u Q I rx ry ⟨_, _, rfl, rfl, hl, h.val he (.int _)⟩
    · cases hr
  · cases hr
end
end Y

set_option Elab.async false
set_option linter.all false
set_option maxRecDepth 100000
namespace Y
open PySem L2
def cmpA : Cop → CmpOp
  | .eq => .Eq
  | .ne => .NotEq
  | .lt => .Lt
  | .le => .LtE
  | .gt => .Gt
  | .ge => .GtE
  | .inn => .In
  | .nin => .NotIn
def rC (K : PySem.W.Frag) (op : Cop) : R2 := fun x y H Q => ∃ F dx dy b, Same F H ∧ RepH K F H x dx ∧ RepH K F H y dy ∧ cmpD op dx dy = some b ∧ Q (.bl b) H
theorem dpk {K : PySem.W.Frag} {F H : Hp} {x : V} {k : Key} (h : RepH K F H x (keyP k)) : x = kV k := by
  cases k with
  | inl i => exact dpi h
  | inr y => exact dps h
section
open PySem.Spec PyProof.Rows
variable {X : Cx}
def rInT (K : PySem.W.Frag) (neg : Bool) : R2 := fun x y H Q => ∃ d ds, Dp K H x d ∧ Dp K H y (.tuple ds) ∧ SeqAt.shaped d = true ∧ SeqAt.shaped (.tuple ds) = true ∧ Q (.bl (if neg then !ds.any fun z => PyData.eqv z d else ds.any fun z => PyData.eqv z d)) H
theorem op_inT (hu : X.A.units + 65 < cLine) : OpR X (compareOp .In) (rInT X.K false) := by
  intro pins s σ H x y v u Q I rx ry h
  obtain ⟨d, ds, hd, he, sd, se, q⟩ := h
  obtain ⟨as, r1⟩ := Dp.reads I d x v hd rx
  obtain ⟨bs, r2⟩ := Dp.reads I (.tuple ds) y u he ry
  exact SeqAt.in_tuple_reads r2 r1 (SeqAt.canLay_of_shaped se) (SeqAt.canLay_of_shaped sd) (room_in_shaped sd hu) ⟨.bl _, H, I, rfl, q⟩
theorem op_notInT (hu : X.A.units + 65 < cLine) : OpR X (compareOp .NotIn) (rInT X.K true) := by
  intro pins s σ H x y v u Q I rx ry h
  obtain ⟨d, ds, hd, he, sd, se, q⟩ := h
  obtain ⟨as, r1⟩ := Dp.reads I d x v hd rx
  obtain ⟨bs, r2⟩ := Dp.reads I (.tuple ds) y u he ry
  exact SeqAt.notIn_tuple_reads r2 r1 (SeqAt.canLay_of_shaped se) (SeqAt.canLay_of_shaped sd) (room_in_shaped sd hu) ⟨.bl _, H, I, rfl, q⟩
end
section
variable {X : Cx}
theorem cmp_ok (hu : X.A.units + 70 < cLine) (op : Cop) : OpR X (compareOp (cmpA op)) (rC X.K op) := by
  intro pins s σ H x y v u Q I rx ry h
  obtain ⟨F, dx, dy, b, sub, hx, hy, e, q⟩ := h
  cases op with
  | eq =>
    have e : eqD dx dy = some b := e
    unfold eqD at e
    split at e
    · rename_i hs
      cases e
      rw [Bool.and_eq_true] at hs
      exact op_eqD (by omega) pins s σ H _ _ v u Q I rx ry ⟨dx, dy, (hx.dp sub).dp (SeqAt.canLay_of_shaped hs.1), (hy.dp sub).dp (SeqAt.canLay_of_shaped hs.2), hs.1, hs.2, q⟩
    · cases e
  | ne =>
    have e : (eqD dx dy).map not = some b := e
    unfold eqD at e
    split at e
    · rename_i hs
      cases e
      rw [Bool.and_eq_true] at hs
      exact op_neD (by omega) pins s σ H _ _ v u Q I rx ry ⟨dx, dy, (hx.dp sub).dp (SeqAt.canLay_of_shaped hs.1), (hy.dp sub).dp (SeqAt.canLay_of_shaped hs.2), hs.1, hs.2, q⟩
    · cases e
  | lt =>
    have e : ltD dx dy = some b := e
    unfold ltD at e
    split at e
    · cases e
      cases dpi hx; cases dpi hy
      exact op_lt pins s σ H _ _ v u Q I rx ry ⟨_, _, rfl, rfl, q⟩
    · cases e
      cases dps hx; cases dps hy
      exact op_lt_str pins s σ H _ _ v u Q I rx ry ⟨_, _, rfl, rfl, q⟩
    · cases e
  | le =>
    have e : leD dx dy = some b := e
    unfold leD at e
    split at e
    · cases e
      cases dpi hx; cases dpi hy
      exact op_le pins s σ H _ _ v u Q I rx ry ⟨_, _, rfl, rfl, q⟩
    · cases e
  | gt =>
    unfold cmpD at e
    dsimp only at e
    split at e
    · cases e
      cases dpi hx; cases dpi hy
      exact op_gt pins s σ H _ _ v u Q I rx ry ⟨_, _, rfl, rfl, q⟩
    · cases e
  | ge =>
    unfold cmpD at e
    dsimp only at e
    split at e
    · cases e
      cases dpi hx; cases dpi hy
      exact op_ge pins s σ H _ _ v u Q I rx ry ⟨_, _, rfl, rfl, q⟩
    · cases e
  | inn =>
    have e : inD dx dy = some b := e
    unfold inD at e
    split at e
    · split at e
      · rename_i hs
        cases e
        rw [Bool.and_eq_true] at hs
        exact op_inD (by omega) pins s σ H _ _ v u Q I rx ry ⟨dx, _, (hx.dp sub).dp (SeqAt.canLay_of_shaped hs.1), (hy.dp sub).dp (SeqAt.canLay_of_shaped hs.2), hs.1, hs.2, q⟩
      · cases e
    · split at e
      · rename_i hs
        cases e
        rw [Bool.and_eq_true] at hs
        exact op_inT (by omega) pins s σ H _ _ v u Q I rx ry ⟨dx, _, (hx.dp sub).dp (SeqAt.canLay_of_shaped hs.1), (hy.dp sub).dp (SeqAt.canLay_of_shaped hs.2), hs.1, hs.2, q⟩
      · cases e
    · split at e
      · cases e
        cases dps hx; cases dps hy
        exact op_in_str pins s σ H _ _ v u Q I rx ry ⟨_, _, rfl, rfl, q⟩
      · cases e
    · split at e
      · rename_i hk
        obtain ⟨k, rfl⟩ := isKey_of hk
        obtain ⟨a, vs, rfl, hH, r⟩ := hy
        cases dpk hx
        cases ry
        rw [dqK_any k r] at e
        cases e
        exact d_in (by omega) I (DGet.k hH) rx fun s' I' => ⟨.bl _, H, I', rfl, q⟩
      · cases e
    · cases e
  | nin =>
    have e : (inD dx dy).map not = some b := e
    unfold inD at e
    split at e
    · split at e
      · rename_i hs
        cases e
        rw [Bool.and_eq_true] at hs
        exact op_notInD (by omega) pins s σ H _ _ v u Q I rx ry ⟨dx, _, (hx.dp sub).dp (SeqAt.canLay_of_shaped hs.1), (hy.dp sub).dp (SeqAt.canLay_of_shaped hs.2), hs.1, hs.2, q⟩
      · cases e
    · split at e
      · rename_i hs
        cases e
        rw [Bool.and_eq_true] at hs
        exact op_notInT (by omega) pins s σ H _ _ v u Q I rx ry ⟨dx, _, (hx.dp sub).dp (SeqAt.canLay_of_shaped hs.1), (hy.dp sub).dp (SeqAt.canLay_of_shaped hs.2), hs.1, hs.2, q⟩
      · cases e
    · split at e
      · cases e
        cases dps hx; cases dps hy
        exact op_notin_str pins s σ H _ _ v u Q I rx ry ⟨_, _, rfl, rfl, q⟩
      · cases e
    · split at e
      · rename_i hk
        obtain ⟨k, rfl⟩ := isKey_of hk
        obtain ⟨a, vs, rfl, hH, r⟩ := hy
        cases dpk hx
        cases ry
        rw [dqK_any k r] at e
        cases e
        exact d_notIn (by omega) I (DGet.k hH) rx fun s' I' => ⟨.bl _, H, I', rfl, q⟩
      · cases e
    · cases e
end
end Y

set_option Elab.async false
set_option linter.all false
set_option maxRecDepth 100000
namespace Y
open PySem L2
theorem _root_.L2.PE.weak {X : Cx} {e : Expr} {t t' : TE} (h : PE X e t) (w : ∀ σ H Q, t' σ H Q → t σ H Q) : PE X e t' := ⟨fun pins s σ H Q I q => h.run pins s σ H Q I (w σ H Q q)⟩
theorem _root_.L2.PT.weak {X : Cx} {e : Expr} {t t' : TT} (h : PT X e t) (w : ∀ σ H Q, t' σ H Q → t σ H Q) : PT X e t' := ⟨fun pins s σ H Q I q => h.run pins s σ H Q I (w σ H Q q)⟩
theorem _root_.L2.PW.weak {X : Cx} {e : Expr} {t t' : TT} (h : PW X e t) (w : ∀ σ H Q, t' σ H Q → t σ H Q) : PW X e t' := ⟨fun wh pins s σ H Q I q => h.run wh pins s σ H Q I (w σ H Q q)⟩
theorem _root_.L2.PA.weak {X : Cx} {e : List Expr} {t t' : TA} (h : PA X e t) (w : ∀ σ H Q, t' σ H Q → t σ H Q) : PA X e t' := ⟨fun p pins s σ H Q I q => h.run p pins s σ H Q I (w σ H Q q)⟩
theorem _root_.L2.PS.weak {X : Cx} {e : Stmt} {t t' : TS} (h : PS X e t) (w : ∀ D σ H, t' D σ H → t D σ H) : PS X e t' := ⟨fun pins s σ H D I q => h.run pins s σ H D I (w D σ H q)⟩
theorem _root_.L2.PSs.weak {X : Cx} {e : List Stmt} {t t' : TS} (h : PSs X e t) (w : ∀ D σ H, t' D σ H → t D σ H) : PSs X e t' := ⟨fun pins s σ H D I q => h.run pins s σ H D I (w D σ H q)⟩
theorem _root_.L2.PO.weak {X : Cx} {e : Option Expr} {t t' : TO} (h : PO X e t) (w : ∀ σ H Q, t' σ H Q → t σ H Q) : PO X e t' := ⟨fun pins s σ H Q I q => h.run pins s σ H Q I (w σ H Q q)⟩

section
variable (X : Cx) (E : XW) (Γ : Gam)
def tE (e : Y.E) : TE := fun σ H Q => ∃ F ρ, TM X.K E (rlR X.K) (ev Γ e) F ρ σ H Q
def tO (e : Y.E) : TE := fun σ H Q => ∃ F ρ, TM X.K E (rlO X.K) (asO e (ev Γ e)) F ρ σ H Q
def tV (e : Y.E) : TE := fun σ H Q => ∃ F ρ, TM X.K E (rlD X.K) (asV e (ev Γ e)) F ρ σ H Q
def tT (e : Y.E) : TT := fun σ H Q => ∃ F ρ, TM X.K E rlB (evT Γ e) F ρ σ H Q
def tVs (es : Es) : TA := fun σ H Q => ∃ F ρ, TM X.K E (rlDs X.K) (evVs Γ es) F ρ σ H Q
end
section
variable {X : Cx} {E : XW} {Γ : Gam} {K : PySem.W.Frag} {F H : Hp} {ρ : Rho} {σ : St}
theorem TM.post {α β : Type} {rel : Rl α β} {m : M α} {Q Q' : β → Hp → Prop} (h : TM K E rel m F ρ σ H Q) (hq : ∀ b H, Q b H → Q' b H) : TM K E rel m F ρ σ H Q' := h.imp (fun _ _ _ _ _ _ _ _ r => r) hq
/-- an operand where the expression is no name -/
theorem asO_of {e : Y.E} (h : ∀ i, e ≠ .var i) (m : M R) : asO e m = bnd m fun r => ret (.d r.data) := by
  cases e with
  | var i => exact absurd rfl (h i)
  | _ => rfl
theorem asV_of {e : Y.E} (h : ∀ i, e ≠ .var i) (m : M R) : asV e m = bnd m fun r => ret r.data := by
  cases e with
  | var i => exact absurd rfl (h i)
  | _ => rfl
theorem q_O {a : Expr} {e : Y.E} (h : PE X a (tE X E Γ e)) (hv : ∀ i, e ≠ .var i) : PE X a (tO X E Γ e) :=
  h.weak fun σ H Q ⟨F, ρ, q⟩ => ⟨F, ρ, by
    rw [asO_of hv] at q
    exact q.map.freeze⟩
theorem q_V {a : Expr} {e : Y.E} (h : PE X a (tE X E Γ e)) (hv : ∀ i, e ≠ .var i) : PE X a (tV X E Γ e) :=
  h.weak fun σ H Q ⟨F, ρ, q⟩ => ⟨F, ρ, by
    rw [asV_of hv] at q
    exact q.map.freeze⟩

/-! ### names, constants -/
theorem q_varE {i : Nat} {x : Str} {pos : Pos} (hN : X.N[i]? = some x) (hv : Vis X.env.scope x) (hd : (x == ("__debug__" : Str)) = false) (hcd : (x == ("__classdict__" : Str)) = false) : PE X (.Name x pos) (tE X E Γ (.var i)) := by
  refine (pe_var hN hv hd hcd).weak fun σ H Q ⟨F, ρ, sr, h⟩ => ?_
  unfold ev at h
  cases hs : ρ[i]? with
  | none => rw [hs] at h; exact False.elim h
  | some s =>
    rw [hs] at h
    cases s with
    | und => exact False.elim h
    | fz d =>
      obtain ⟨v, h1, h2⟩ := sr.fz i d hs
      exact ⟨v, h1, h v F H .refl sr h2⟩
    | own p o =>
      cases p with
      | true => exact False.elim h
      | false =>
        obtain ⟨a, h1, h2, h3⟩ := sr.own i false o hs
        refine ⟨.ref a, h1, h _ F H ?_ ?_ ?_⟩
        · have no : ∀ b, Owned (ρ.set i .und) σ b → Owned ρ σ b := fun b ⟨j, p, o, q1, q2⟩ => by
            by_cases hj : i = j
            · subst hj
              rw [List.getElem?_set_self (by exact (List.getElem?_eq_some_iff.mp hs).1)] at q1; cases q1
            · rw [List.getElem?_set_ne hj] at q1; exact ⟨j, p, o, q1, q2⟩
          refine ⟨.refl F, fun _ _ q _ => q, fun b o q n => absurd (q.symm.trans n) (by simp), fun b q => .inl (no b q), fun _ q => q, fun j o q => ?_, List.length_set⟩
          by_cases hj : i = j
          · subst hj
            rw [List.getElem?_set_self (by exact (List.getElem?_eq_some_iff.mp hs).1)] at q; cases q
          · rw [List.getElem?_set_ne hj] at q; exact ⟨rfl, o, q⟩
        · refine ⟨by rw [List.length_set]; exact sr.len, sr.sub, fun j d q => ?_, fun j p o q => ?_, fun j k p o p' o' a q1 q2 => ?_⟩
          · by_cases hj : i = j
            · subst hj
              rw [List.getElem?_set_self (by exact (List.getElem?_eq_some_iff.mp hs).1)] at q; cases q
            · rw [List.getElem?_set_ne hj] at q; exact sr.fz j d q
          · by_cases hj : i = j
            · subst hj
              rw [List.getElem?_set_self (by exact (List.getElem?_eq_some_iff.mp hs).1)] at q; cases q
            · rw [List.getElem?_set_ne hj] at q; exact sr.own j p o q
          · by_cases hj : i = j
            · subst hj
              rw [List.getElem?_set_self (by exact (List.getElem?_eq_some_iff.mp hs).1)] at q1; cases q1
            · by_cases hk : i = k
              · subst hk
                rw [List.getElem?_set_self (by exact (List.getElem?_eq_some_iff.mp hs).1)] at q2; cases q2
              · rw [List.getElem?_set_ne hj] at q1
                rw [List.getElem?_set_ne hk] at q2
                exact sr.sep j k p o p' o' a q1 q2
        · refine ⟨a, rfl, h2, h3, fun ⟨j, p, o', q1, q2⟩ => ?_, .inr ⟨i, false, o, hs, h1⟩⟩
          by_cases hj : i = j
          · subst hj
            rw [List.getElem?_set_self (by exact (List.getElem?_eq_some_iff.mp hs).1)] at q1; cases q1
          · rw [List.getElem?_set_ne hj] at q1
            exact hj (sr.sep i j _ _ _ _ a hs q1 h1 q2)
theorem q_varO {i : Nat} {x : Str} {pos : Pos} (hN : X.N[i]? = some x) (hv : Vis X.env.scope x) (hd : (x == ("__debug__" : Str)) = false) (hcd : (x == ("__classdict__" : Str)) = false) : PE X (.Name x pos) (tO X E Γ (.var i)) := by
  refine (pe_var hN hv hd hcd).weak fun σ H Q ⟨F, ρ, sr, h⟩ => ?_
  unfold asO at h
  dsimp only at h
  cases hs : ρ[i]? with
  | none => rw [hs] at h; exact False.elim h
  | some s =>
    rw [hs] at h
    cases s with
    | und => exact False.elim h
    | fz d =>
      obtain ⟨v, h1, h2⟩ := sr.fz i d hs
      exact ⟨v, h1, h v F H .refl sr h2⟩
    | own p o =>
      obtain ⟨a, h1, h2, h3⟩ := sr.own i p o hs
      exact ⟨.ref a, h1, h _ F H .refl sr h1⟩
theorem set_own {i : Nat} {s s' : Slot} {ρ : Rho} (hs : ρ[i]? = some s) {j : Nat} {t : Slot} (q : (ρ.set i s')[j]? = some t) : (i = j ∧ t = s') ∨ (i ≠ j ∧ ρ[j]? = some t) := by
  by_cases hj : i = j
  · subst hj
    rw [List.getElem?_set_self (by exact (List.getElem?_eq_some_iff.mp hs).1)] at q
    cases q
    exact .inl ⟨rfl, rfl⟩
  · rw [List.getElem?_set_ne hj] at q
    exact .inr ⟨hj, q⟩
theorem q_varV {i : Nat} {x : Str} {pos : Pos} (hN : X.N[i]? = some x) (hv : Vis X.env.scope x) (hd : (x == ("__debug__" : Str)) = false) (hcd : (x == ("__classdict__" : Str)) = false) : PE X (.Name x pos) (tV X E Γ (.var i)) := by
  refine (pe_var hN hv hd hcd).weak fun σ H Q ⟨F, ρ, sr, h⟩ => ?_
  unfold asV at h
  dsimp only at h
  cases hs : ρ[i]? with
  | none => rw [hs] at h; exact False.elim h
  | some s =>
    rw [hs] at h
    cases s with
    | und => exact False.elim h
    | fz d =>
      obtain ⟨v, h1, h2⟩ := sr.fz i d hs
      exact ⟨v, h1, h v F H .refl sr h2⟩
    | own p o =>
      obtain ⟨a, h1, h2, h3⟩ := sr.own i p o hs
      obtain ⟨u, hu⟩ := h3.some
      have sm : Same F (upd F a u) := fun b x q => by rw [upd_ne (ne_of_none q h2)]; exact q
      have fr := h3.freeze hu h2
      refine ⟨.ref a, h1, h _ (upd F a u) H ?_ ?_ fr⟩
      · refine ⟨sm, fun _ _ q _ => q, fun b x q n => ?_, fun b ⟨j, p', o', q1, q2⟩ => ?_, fun _ q => q, fun j o' q => ?_, List.length_set⟩
        · by_cases hb : b = a
          · subst hb; exact .inr ⟨i, p, o, hs, h1⟩
          · rw [upd_ne hb, n] at q; cases q
        · rcases set_own hs q1 with ⟨rfl, e⟩ | ⟨_, e⟩
          · cases e
          · exact .inl ⟨j, p', o', e, q2⟩
        · rcases set_own hs q with ⟨rfl, e⟩ | ⟨_, e⟩
          · cases e
          · exact ⟨rfl, o', e⟩
      · refine ⟨by rw [List.length_set]; exact sr.len, fun b x q => ?_, fun j d q => ?_, fun j p' o' q => ?_, fun j k p1 o1 p2 o2 c q1 q2 => ?_⟩
        · by_cases hb : b = a
          · subst hb; rw [upd_same] at q; cases q; exact hu
          · rw [upd_ne hb] at q; exact sr.sub b x q
        · rcases set_own hs q with ⟨rfl, e⟩ | ⟨_, e⟩
          · cases e; exact ⟨.ref a, h1, fr⟩
          · obtain ⟨v, z1, z2⟩ := sr.fz j d e
            exact ⟨v, z1, z2.mono sm⟩
        · rcases set_own hs q with ⟨rfl, e⟩ | ⟨hj, e⟩
          · cases e
          · obtain ⟨c, z1, z2, z3⟩ := sr.own j p' o' e
            have hc : c ≠ a := fun z => hj (sr.sep i j _ _ _ _ a hs e h1 (by rw [← z]; exact z1))
            exact ⟨c, z1, by rw [upd_ne hc]; exact z2, z3.mono sm fun _ y => y⟩
        · rcases set_own hs q1 with ⟨rfl, e⟩ | ⟨_, e1⟩
          · cases e
          · rcases set_own hs q2 with ⟨rfl, e⟩ | ⟨_, e2⟩
            · cases e
            · exact sr.sep j k p1 o1 p2 o2 c e1 e2
theorem q_int {i : Int} {j pos} : PE X (.Constant (.int i) j pos) (tE X E Γ (.con (.int i))) := pe_int.weak fun σ H Q ⟨F, ρ, q⟩ => q.val rfl (.int i)
theorem q_bl {b : Bool} {j pos} : PE X (.Constant (.bool b) j pos) (tE X E Γ (.con (.bool b))) := pe_bl.weak fun σ H Q ⟨F, ρ, q⟩ => q.val rfl (.bl b)
theorem q_non {j pos} : PE X (.Constant .none j pos) (tE X E Γ (.con .none)) := pe_non.weak fun σ H Q ⟨F, ρ, q⟩ => q.val rfl .non
theorem q_str {x : Str} {j pos} : PE X (.Constant (.str x) j pos) (tE X E Γ (.con (.str x))) := pe_str.weak fun σ H Q ⟨F, ρ, q⟩ => q.val rfl (.str x)
theorem q_glb {x : Str} {pos : Pos} {v : V} {u : Value} {d : PyData} (hg : Gl X x) (hm : X.mg x = some u) (r : RelV v u) (hd : (x == ("__debug__" : Str)) = false) (hr : ∀ F, Rep X.K F v d) : PE X (.Name x pos) (tE X E Γ (.glb x d)) :=
  (pe_glob hg hm r hd).weak fun σ H Q ⟨F, ρ, q⟩ => q.val rfl (hr F)

/-! ### displays -/
theorem q_nil : PA X [] (tVs X E Γ .nil) := pa_nil.weak fun σ H Q ⟨F, ρ, q⟩ => q.ret .nil
theorem q_cons {e : Expr} {es : List Expr} {a : Y.E} {as : Es} (h1 : PE X e (tV X E Γ a)) (h2 : PA X es (tVs X E Γ as)) (hs : starEach (e :: es) X.env = (false, eval e X.env) :: starEach es X.env) : PA X (e :: es) (tVs X E Γ (.cons a as)) := by
  refine (pa_cons h1 h2 hs).weak fun σ H Q ⟨F, ρ, q⟩ => ?_
  refine ⟨F, ρ, (q.bind rlDs_t).post fun x H1 ⟨d, ρ1, F1, rx, st, q1⟩ => ?_⟩
  refine ⟨F1, ρ1, (q1.bind rlDs_t).post fun xs H2 ⟨ds, ρ2, F2, rxs, st2, q2⟩ => ?_⟩
  exact q2.ret (.cons (dp_mono st2.ff rx) rxs)
theorem evVs_len {Γ : Gam} : ∀ {es : Es} {ρ ρ' : Rho} {ds : List PyData}, evVs Γ es ρ = .ok ds ρ' → True := fun _ => trivial
theorem q_tup {es : List Expr} {as : Es} {k pos} (h : PA X es (tVs X E Γ as)) (hl : es.length ≤ 1000) (hlen : ∀ ρ ρ' ds, evVs Γ as ρ = .ok ds ρ' → ds.length = es.length) : PE X (.Tuple es k pos) (tE X E Γ (.tup as)) := by
  refine (pe_tup h).weak fun σ H Q ⟨F, ρ, q⟩ => ?_
  cases e : evVs Γ as ρ with
  | bad => exact absurd q.2 (by unfold ev bnd; rw [e]; exact id)
  | exn x ρ' =>
    refine ⟨F, ρ, q.1, ?_⟩
    have := q.2
    unfold ev bnd at this
    rw [e] at this ⊢
    exact this
  | ok ds ρ' =>
    refine ⟨F, ρ, q.1, ?_⟩
    have hd := hlen _ _ _ e
    rw [e]
    intro xs F' H' st sr r
    have hx := dpAll_len r
    refine ⟨by rw [← lim_eq, hx, hd]; exact Nat.le_trans hl (by decide), fun p n => ?_⟩
    have q2 := q.2
    unfold ev bnd at q2
    rw [e] at q2
    obtain ⟨s1, s2⟩ := sr.newF (u := .tup xs) n
    exact q2 _ _ _ (st.trans s2) s1 (Dq.tup (SqT.of upd_same) (dpAll_mono s2.ff r))
theorem q_lst {es : List Expr} {as : Es} {pos} (h : PA X es (tVs X E Γ as)) (hl : es.length ≤ 1000) (hlen : ∀ ρ ρ' ds, evVs Γ as ρ = .ok ds ρ' → ds.length = es.length) : PE X (.List es pos) (tE X E Γ (.lst as)) := by
  refine (pe_lst h).weak fun σ H Q ⟨F, ρ, q⟩ => ?_
  cases e : evVs Γ as ρ with
  | bad => exact absurd q.2 (by unfold ev bnd; rw [e]; exact id)
  | exn x ρ' =>
    refine ⟨F, ρ, q.1, ?_⟩
    have := q.2
    unfold ev bnd at this
    rw [e] at this ⊢
    exact this
  | ok ds ρ' =>
    refine ⟨F, ρ, q.1, ?_⟩
    have hd := hlen _ _ _ e
    rw [e]
    intro xs F' H' st sr r
    have hx := dpAll_len r
    refine ⟨by rw [← lim_eq, hx, hd]; exact Nat.le_trans hl (by decide), fun p n => ?_⟩
    have q2 := q.2
    unfold ev bnd at q2
    rw [e] at q2
    obtain ⟨s1, s2⟩ := sr.newO (u := .lst xs) n
    exact q2 _ _ _ (st.trans s2) s1 ⟨p, rfl, sr.sub.free n, ⟨xs, upd_same, r⟩, not_owned_none sr n, .inl (st.mo p n)⟩

/-! ### operators -/
theorem q_bin {a b : Expr} {ia ib : Y.E} {op : Bop} {pos} (ha : PE X a (tO X E Γ ia)) (hb : PE X b (tO X E Γ ib)) : PE X (.BinOp a (opA op) b pos) (tE X E Γ (.bin op ia ib)) := by
  refine (pe_op (bop_ok (E := E) op) ha hb).weak fun σ H Q ⟨F, ρ, q⟩ => ?_
  refine ⟨F, ρ, (q.bind rlR_t).post fun x H1 ⟨d, ρ1, F1, rx, st, q1⟩ => ?_⟩
  refine ⟨F1, ρ1, (q1.bind rlR_t).post fun y H2 ⟨e, ρ2, F2, ry, st2, q2⟩ => ?_⟩
  obtain ⟨dx, hx, q3⟩ := q2.get (opdR.mono rx st2.ff)
  obtain ⟨dy, hy, q4⟩ := q3.get ry
  exact ⟨F2, ρ2, σ, dx, dy, hx, hy, q4⟩
theorem w_cmp {op : Cop} {ia ib : Y.E} (σ : St) (H : Hp) (Q : VK) (h : tE X E Γ (.cmp op ia ib) σ H Q) : tOp (rC X.K op) (tO X E Γ ia) (tO X E Γ ib) σ H Q := by
  obtain ⟨F, ρ, q⟩ := h
  refine ⟨F, ρ, (q.bind rlR_t).post fun x H1 ⟨d, ρ1, F1, rx, st, q1⟩ => ?_⟩
  refine ⟨F1, ρ1, (q1.bind rlR_t).post fun y H2 ⟨e, ρ2, F2, ry, st2, q2⟩ => ?_⟩
  obtain ⟨dx, hx, q3⟩ := q2.get (opdR.mono rx st2.ff)
  obtain ⟨dy, hy, q4⟩ := q3.get ry
  obtain ⟨r, hr⟩ := q4.get?
  cases hc : cmpD op dx dy with
  | none => rw [hc] at hr; cases hr
  | some c => exact ⟨F2, dx, dy, c, q4.sr.sub, hx, hy, hc, q4.val (d := .bool c) (by rw [hc]; rfl) (.bl c)⟩
theorem w_chain {op op' : Cop} {ia ib ic : Y.E} (σ : St) (H : Hp) (Q : VK) (h : tE X E Γ (.chain op op' ia ib ic) σ H Q) : tChain (rC X.K op) (rC X.K op') (tO X E Γ ia) (tO X E Γ ib) (tO X E Γ ic) σ H Q := by
  obtain ⟨F, ρ, q⟩ := h
  refine ⟨F, ρ, (q.bind rlR_t).post fun x H1 ⟨d, ρ1, F1, rx, st, q1⟩ => ?_⟩
  refine ⟨F1, ρ1, (q1.bind rlR_t).post fun y H2 ⟨e, ρ2, F2, ry, st2, q2⟩ => ?_⟩
  obtain ⟨dx, hx, q3⟩ := q2.get (opdR.mono rx st2.ff)
  obtain ⟨dy, hy, q4⟩ := q3.get ry
  obtain ⟨t, ht, q5⟩ := q4.ofO
  refine ⟨F2, dx, dy, t, q4.sr.sub, hx, hy, ht, t, rfl, ?_⟩
  cases t with
  | false => exact iteF (q5.val rfl (.bl false))
  | true =>
    have q5 : TM X.K E (rlR X.K) (bnd (asO ic (ev Γ ic)) fun z => bnd (get e) fun dy => bnd (get z) fun dz => ofO ((cmpD op' dy dz).map dBl)) F2 ρ2 σ H2 Q := q5
    refine iteT ⟨F2, ρ2, (q5.bind rlR_t).post fun z H3 ⟨g, ρ3, F3, rz, st3, q6⟩ => ?_⟩
    obtain ⟨dy', hy', q7⟩ := q6.get (opdR.mono ry st3.ff)
    obtain ⟨dz, hz, q8⟩ := q7.get rz
    obtain ⟨r, hr⟩ := q8.get?
    cases hc : cmpD op' dy' dz with
    | none => rw [hc] at hr; cases hr
    | some c => exact ⟨F3, dy', dz, c, q8.sr.sub, hy', hz, hc, q8.val (d := .bool c) (by rw [hc]; rfl) (.bl c)⟩
theorem q_cmp (hu : X.A.units + 70 < cLine) {a b : Expr} {ia ib : Y.E} {op : Cop} {pos} (ha : PE X a (tO X E Γ ia)) (hb : PE X b (tO X E Γ ib)) (hm : behindInMarks (cmpA op) b = false) : PE X (.Compare a [cmpA op] [b] pos) (tE X E Γ (.cmp op ia ib)) :=
  (pe_cmpR (cmp_ok hu op) ha hb hm).weak w_cmp
theorem q_chain (hu : X.A.units + 70 < cLine) {a b c : Expr} {ia ib ic : Y.E} {op op' : Cop} {pos} (ha : PE X a (tO X E Γ ia)) (hb : PE X b (tO X E Γ ib)) (hc : PE X c (tO X E Γ ic)) (hm : behindInMarks (cmpA op') c = false) :
    PE X (.Compare a [cmpA op, cmpA op'] [b, c] pos) (tE X E Γ (.chain op op' ia ib ic)) := (pe_chain (cmp_ok hu op) (cmp_ok hu op') ha hb hc hm).weak w_chain

/-! ### tests -/
theorem TM.toB {α β : Type} {rel : Rl α β} {r : R} {f : Bool → M α} {Q : β → Hp → Prop} (h : TM K E rel (bnd (Y.toB r) f) F ρ σ H Q) : ∃ b, r = .fz (.bool b) ∧ TM K E rel (f b) F ρ σ H Q := by
  unfold Y.toB at h
  split at h
  · exact ⟨_, rfl, h.read rfl⟩
  · exact False.elim h.2
theorem TM.toB' {r : R} {Q : Bool → Hp → Prop} (h : TM K E rlB (Y.toB r) F ρ σ H Q) : ∃ b, r = .fz (.bool b) ∧ Q b H := by
  unfold Y.toB at h
  split at h
  · exact ⟨_, rfl, h.ret rfl⟩
  · exact False.elim h.2
theorem toTest {e : Y.E} {Q : Bool → Hp → Prop} (h : tT X E Γ e σ H Q) : tE X E Γ e σ H fun x H' => ∃ k, x = .bl k ∧ Q k H' := by
  obtain ⟨F, ρ, q⟩ := h
  refine ⟨F, ρ, (TM.bind rlB_t q).post fun x H1 ⟨r, ρ1, F1, rx, st, q1⟩ => ?_⟩
  obtain ⟨b, rfl, hq⟩ := q1.toB'
  cases (show Dq X.K F1 x (.bool b) from rx)
  exact ⟨b, rfl, hq⟩
theorem qt_val {a : Expr} {e : Y.E} (h : PE X a (tE X E Γ e)) (he : ∀ whole, isTrue a X.env whole = (do let v ← whole; standAt a.pos; holding [v] (truthy v))) : PT X a (tT X E Γ e) := (pt_val h he).weak fun σ H Q q => toTest q
theorem qt_cmp (hu : X.A.units + 70 < cLine) {a b : Expr} {ia ib : Y.E} {op : Cop} {pos} (ha : PE X a (tO X E Γ ia)) (hb : PE X b (tO X E Γ ib)) (hm : behindInMarks (cmpA op) b = false) : PT X (.Compare a [cmpA op] [b] pos) (tT X E Γ (.cmp op ia ib)) :=
  (pt_cmpR (cmp_ok hu op) ha hb hm).weak fun σ H Q q => w_cmp _ _ _ (toTest q)
theorem qt_chain (hu : X.A.units + 70 < cLine) {a b c : Expr} {ia ib ic : Y.E} {op op' : Cop} {pos} (ha : PE X a (tO X E Γ ia)) (hb : PE X b (tO X E Γ ib)) (hc : PE X c (tO X E Γ ic)) (hm : behindInMarks (cmpA op') c = false) :
    PT X (.Compare a [cmpA op, cmpA op'] [b, c] pos) (tT X E Γ (.chain op op' ia ib ic)) := (pt_chain (cmp_ok hu op) (cmp_ok hu op') ha hb hc hm).weak fun σ H Q q => w_chain _ _ _ (toTest q)

/-! ### is None -/
theorem non_of {v : V} {d : PyData} (h : RepH K F H v d) : decide (v = .non) = isNon d := by
  cases d with
  | list ds => obtain ⟨a, vs, rfl, _⟩ := h; rfl
  | none => cases (show Dq K F v .none from h); rfl
  | bool b => cases (show Dq K F v (.bool b) from h); rfl
  | int b => cases (show Dq K F v (.int b) from h); rfl
  | str b => cases (show Dq K F v (.str b) from h); rfl
  | tuple b => cases (show Dq K F v (.tuple b) from h); rfl
  | dict b => obtain ⟨a, vs, rfl, _⟩ := h; rfl
theorem w_isn {ia : Y.E} (σ : St) (H : Hp) (Q : VK) (h : tE X E Γ (.isn ia) σ H Q) : tIsN (tO X E Γ ia) σ H Q := by
  obtain ⟨F, ρ, q⟩ := h
  refine ⟨F, ρ, (q.bind rlR_t).post fun x H1 ⟨d, ρ1, F1, rx, st, q1⟩ => ?_⟩
  obtain ⟨dx, hx, q3⟩ := q1.get rx
  rw [non_of hx]
  exact q3.val rfl (.bl _)
theorem w_notn {ia : Y.E} (σ : St) (H : Hp) (Q : VK) (h : tE X E Γ (.notn ia) σ H Q) : tNotN (tO X E Γ ia) σ H Q := by
  obtain ⟨F, ρ, q⟩ := h
  refine ⟨F, ρ, (q.bind rlR_t).post fun x H1 ⟨d, ρ1, F1, rx, st, q1⟩ => ?_⟩
  obtain ⟨dx, hx, q3⟩ := q1.get rx
  have e := non_of hx
  show Q (.bl (!decide (x = .non))) H1
  rw [e]
  exact q3.val rfl (.bl _)
theorem q_isn {a : Expr} {ia : Y.E} {j p pos} (ha : PE X a (tO X E Γ ia)) : PE X (.Compare a [.Is] [.Constant .none j p] pos) (tE X E Γ (.isn ia)) := (pe_cmp (pc_isN ha) rfl).weak w_isn
theorem q_notn {a : Expr} {ia : Y.E} {j p pos} (ha : PE X a (tO X E Γ ia)) : PE X (.Compare a [.IsNot] [.Constant .none j p] pos) (tE X E Γ (.notn ia)) := (pe_cmp (pc_notN ha) rfl).weak w_notn
theorem qt_isn {a : Expr} {ia : Y.E} {j p pos} (ha : PE X a (tO X E Γ ia)) : PT X (.Compare a [.Is] [.Constant .none j p] pos) (tT X E Γ (.isn ia)) := (pt_cmp (pc_isN ha) rfl).weak fun σ H Q q => w_isn _ _ _ (toTest q)
theorem qt_notn {a : Expr} {ia : Y.E} {j p pos} (ha : PE X a (tO X E Γ ia)) : PT X (.Compare a [.IsNot] [.Constant .none j p] pos) (tT X E Γ (.notn ia)) := (pt_cmp (pc_notN ha) rfl).weak fun σ H Q q => w_notn _ _ _ (toTest q)

/-! ### and, or, not, if -/
theorem q_neg {a : Expr} {ia : Y.E} {pos} (ha : PE X a (tE X E Γ ia)) : PE X (.UnaryOp .USub a pos) (tE X E Γ (.neg ia)) := by
  refine (pe_un un_neg ha).weak fun σ H Q ⟨F, ρ, q⟩ => ?_
  refine ⟨F, ρ, (q.bind rlR_t).post fun x H1 ⟨r, ρ1, F1, rx, st, q1⟩ => ?_⟩
  cases r with
  | own o => exact False.elim q1.2
  | fz d =>
    cases d with
    | int i => cases (show Dq X.K F1 x (.int i) from rx); exact ⟨i, rfl, q1.val rfl (.int _)⟩
    | _ => exact False.elim q1.2
theorem q_not {a : Expr} {ia : Y.E} {pos} (ha : PE X a (tE X E Γ ia)) : PE X (.UnaryOp .Not a pos) (tE X E Γ (.not ia)) := by
  refine (pe_not ha).weak fun σ H Q ⟨F, ρ, q⟩ => ?_
  refine ⟨F, ρ, (q.bind rlR_t).post fun x H1 ⟨r, ρ1, F1, rx, st, q1⟩ => ?_⟩
  obtain ⟨b, rfl, q2⟩ := q1.toB
  cases (show Dq X.K F1 x (.bool b) from rx)
  exact ⟨b, rfl, q2.val rfl (.bl _)⟩
theorem bnd_assoc {α β γ : Type} (m : M α) (f : α → M β) (g : β → M γ) : bnd (bnd m f) g = bnd m fun a => bnd (f a) g := by
  funext ρ
  unfold bnd
  cases m ρ <;> rfl
theorem evT_not {a : Y.E} : evT Γ (.not a) = bnd (evT Γ a) fun b => ret (!b) := by
  show bnd (bnd (ev Γ a) fun r => bnd (toB r) fun b => ret (dBl (!b))) toB = bnd (bnd (ev Γ a) toB) _
  rw [bnd_assoc, bnd_assoc]
  congr 1
  funext r
  rw [bnd_assoc]
  rfl
theorem bnd_ite {α β : Type} {t : Bool} {m m' : M α} {f : α → M β} : bnd (if t then m else m') f = if t then bnd m f else bnd m' f := by cases t <;> rfl
theorem evT_and {a b : Y.E} : evT Γ (.and a b) = bnd (evT Γ a) fun t => if t then evT Γ b else ret false := by
  show bnd (bnd (ev Γ a) fun r => bnd (toB r) fun t => if t then ev Γ b else ret (dBl false)) toB = bnd (bnd (ev Γ a) toB) _
  rw [bnd_assoc, bnd_assoc]
  congr 1
  funext r
  rw [bnd_assoc]
  congr 1
  funext t
  rw [bnd_ite]
  rfl
theorem evT_or {a b : Y.E} : evT Γ (.or a b) = bnd (evT Γ a) fun t => if t then ret true else evT Γ b := by
  show bnd (bnd (ev Γ a) fun r => bnd (toB r) fun t => if t then ret (dBl true) else ev Γ b) toB = bnd (bnd (ev Γ a) toB) _
  rw [bnd_assoc, bnd_assoc]
  congr 1
  funext r
  rw [bnd_assoc]
  congr 1
  funext t
  rw [bnd_ite]
  rfl
theorem qt_not {a : Expr} {ia : Y.E} {pos} (ha : PT X a (tT X E Γ ia)) : PT X (.UnaryOp .Not a pos) (tT X E Γ (.not ia)) := by
  refine (pt_not ha).weak fun σ H Q ⟨F, ρ, q⟩ => ?_
  rw [evT_not] at q
  refine ⟨F, ρ, (q.bind rlB_t).post fun c H1 ⟨b, ρ1, F1, rl, st, q1⟩ => ?_⟩
  cases (show b = c from rl)
  exact q1.ret rfl
theorem qw_and {a b : Expr} {rest : List Expr} {ia ib : Y.E} {pos} (ha : PT X a (tT X E Γ ia)) (hb : PW X (.BoolOp .And (b :: rest) pos) (tT X E Γ ib)) : PW X (.BoolOp .And (a :: b :: rest) pos) (tT X E Γ (.and ia ib)) := by
  refine (pw_and ha hb).weak fun σ H Q ⟨F, ρ, q⟩ => ?_
  rw [evT_and] at q
  refine ⟨F, ρ, (q.bind rlB_t).post fun c0 H1 ⟨t0, ρ1, F1, rl, st, q1⟩ => ?_⟩
  cases (show t0 = c0 from rl)
  cases c0 with
  | true => exact iteT ⟨F1, ρ1, q1⟩
  | false => exact iteF (q1.ret rfl)
theorem qw_or {a b : Expr} {rest : List Expr} {ia ib : Y.E} {pos} (ha : PT X a (tT X E Γ ia)) (hb : PW X (.BoolOp .Or (b :: rest) pos) (tT X E Γ ib)) : PW X (.BoolOp .Or (a :: b :: rest) pos) (tT X E Γ (.or ia ib)) := by
  refine (pw_or ha hb).weak fun σ H Q ⟨F, ρ, q⟩ => ?_
  rw [evT_or] at q
  refine ⟨F, ρ, (q.bind rlB_t).post fun c0 H1 ⟨t0, ρ1, F1, rl, st, q1⟩ => ?_⟩
  cases (show t0 = c0 from rl)
  cases c0 with
  | true => exact iteT (q1.ret rfl)
  | false => exact iteF ⟨F1, ρ1, q1⟩
theorem q_and {a b : Expr} {rest : List Expr} {ia ib : Y.E} {pos} (ha : PE X a (tE X E Γ ia)) (hb : PE X (.BoolOp .And (b :: rest) pos) (tE X E Γ ib)) : PE X (.BoolOp .And (a :: b :: rest) pos) (tE X E Γ (.and ia ib)) := by
  refine (pe_and ha hb).weak fun σ H Q ⟨F, ρ, q⟩ => ?_
  refine ⟨F, ρ, (q.bind rlR_t).post fun c0 H1 ⟨r, ρ1, F1, rl, st, q1⟩ => ?_⟩
  obtain ⟨t0, rfl, q2⟩ := q1.toB
  cases (show Dq X.K F1 c0 (.bool t0) from rl)
  refine ⟨t0, rfl, ?_⟩
  cases t0 with
  | true => exact iteT ⟨F1, ρ1, q2⟩
  | false => exact iteF (q2.val rfl (.bl _))
theorem q_or {a b : Expr} {rest : List Expr} {ia ib : Y.E} {pos} (ha : PE X a (tE X E Γ ia)) (hb : PE X (.BoolOp .Or (b :: rest) pos) (tE X E Γ ib)) : PE X (.BoolOp .Or (a :: b :: rest) pos) (tE X E Γ (.or ia ib)) := by
  refine (pe_or ha hb).weak fun σ H Q ⟨F, ρ, q⟩ => ?_
  refine ⟨F, ρ, (q.bind rlR_t).post fun c0 H1 ⟨r, ρ1, F1, rl, st, q1⟩ => ?_⟩
  obtain ⟨t0, rfl, q2⟩ := q1.toB
  cases (show Dq X.K F1 c0 (.bool t0) from rl)
  refine ⟨t0, rfl, ?_⟩
  cases t0 with
  | true => exact iteT (q2.val rfl (.bl _))
  | false => exact iteF ⟨F1, ρ1, q2⟩
theorem q_ife {c a b : Expr} {ic ia ib : Y.E} {pos} (hc : PT X c (tT X E Γ ic)) (ha : PE X a (tE X E Γ ia)) (hb : PE X b (tE X E Γ ib)) : PE X (.IfExp c a b pos) (tE X E Γ (.ife ic ia ib)) := by
  refine (pe_ifExp hc ha hb).weak fun σ H Q ⟨F, ρ, q⟩ => ?_
  have q : TM X.K E (rlR X.K) (bnd (evT Γ ic) fun t => if t then ev Γ ia else ev Γ ib) F ρ σ H Q := by
    have e : ev Γ (.ife ic ia ib) = bnd (evT Γ ic) fun t => if t then ev Γ ia else ev Γ ib := by
      show bnd (ev Γ ic) _ = bnd (bnd (ev Γ ic) toB) _
      rw [bnd_assoc]
    rw [← e]; exact q
  refine ⟨F, ρ, (q.bind rlR_t).post fun c0 H1 ⟨t0, ρ1, F1, rl, st, q1⟩ => ?_⟩
  cases (show t0 = c0 from rl)
  cases c0 with
  | true => exact iteT ⟨F1, ρ1, q1⟩
  | false => exact iteF ⟨F1, ρ1, q1⟩

/-! ### places, slices -/
theorem atI_dp : ∀ {ds : List PyData} {vs : List V} {i : Int} {d : PyData}, DqAll K F vs ds → atI ds i = some d → ∃ v, atI vs i = some v ∧ Dq K F v d := fun {ds vs i d} h e => by
  unfold atI at e ⊢
  rw [dpAll_len h]
  cases q : ixN ds.length i with
  | none => rw [q] at e; cases e
  | some j =>
    rw [q] at e
    exact dpAll_get h e
def rIxD (K : PySem.W.Frag) : R2 := fun x y H Q => ∃ F dx dy d, Same F H ∧ RepH K F H x dx ∧ RepH K F H y dy ∧ ixD dx dy = some d ∧ ∀ v, Rep K F v d → Q v H
section
open PySem.Spec PyProof.Rows
theorem ix_dict (hu : X.A.units + 1 < cLine) {ve sle : Expr} {pins : List (Addr × Obj)} {σ : List (Option V)} {s : Shared} {a : Addr} {y w : V} {u : Value} {Q : VK} (I : L2.Inv X pins σ H s) (g : DGet H a y (some w)) (ry : RelV y u) (hs : subscripted sle false (.ref a) u = operate [.ref a, u] (getItem (.ref a) u)) (h : Q w H) :
    wpAny (model X.prog X.w) X.A (subscriptTail ve sle (.ref a) u) (EP X pins σ Q) X.xe s := by
  have hT := dict_typeIs I g
  unfold subscriptTail
  refine wpAny_bind ?_
  rw [getitemInPython_of_ne hT.not_modules]
  refine wpAny_bind (wpAny_specialOf hT PySem.F.slot_dict_getitem.lookup ?_)
  have fin : wpAny (model X.prog X.w) X.A (subscripted sle false (.ref a) u) (fun r s₃ => wpAny (model X.prog X.w) X.A (letTemporaryGo ve (.ref a) r >>= fun _ => pure r) (EP X pins σ Q) X.xe s₃) X.xe s := by
    rw [hs]
    exact wpAny_operating (d_getItem hu I g ry fun w' s' I' rw' => wpAny_bind (wpAny_letTemporaryGo (wpAny_pure ⟨w, H, I', rw', h⟩)))
  first
    | exact wpAny_pure (wpAny_bind fin)
    | exact wpAny_bind (wpAny_pure (wpAny_bind fin))
    | exact wpAny_bind fin
end
theorem ix_ok (hu : X.A.units + 70 < cLine) : IxR X (rIxD X.K) := by
  intro ve sle pins s σ H x y v u Q I rx ry h hsub
  obtain ⟨F, dx, dy, d, sub, hx, hy, e, q⟩ := h
  unfold ixD at e
  split at e
  · obtain ⟨a, vs, rfl, q1, q2⟩ := hx
    cases dpi hy
    obtain ⟨w, h1, h2⟩ := atI_dp q2 e
    exact ix_list ve sle pins s σ H _ _ v u Q I rx ry ⟨a, vs, _, w, rfl, rfl, q1, h1, q w h2⟩ hsub
  · obtain ⟨a, vs, rfl, q1, q2, _⟩ := dpt hx sub
    cases dpi hy
    obtain ⟨w, h1, h2⟩ := atI_dp q2 e
    exact ix_tup ve sle pins s σ H _ _ v u Q I rx ry ⟨a, vs, _, w, rfl, rfl, q1, h1, q w h2⟩ hsub
  · split at e
    · rename_i hl
      cases dps hx
      cases dpi hy
      cases ha : atI _ _ with
      | none => rw [ha] at e; cases e
      | some c =>
        rw [ha] at e
        cases e
        exact ix_str ve sle pins s σ H _ _ v u Q I rx ry ⟨_, _, c, rfl, rfl, by rw [← lim_eq]; exact hl, ha, q _ (.str _)⟩ hsub
    · cases e
  · split at e
    · rename_i hk
      obtain ⟨k, rfl⟩ := isKey_of hk
      obtain ⟨a, vs, rfl, hH, r⟩ := hx
      cases dpk hy
      cases rx
      have fd := dqK_find k r
      cases ef : List.find? (fun p : PyData × PyData => PyData.eqv p.1 (keyP k)) _ with
      | none => rw [ef] at e; cases e
      | some p =>
        rw [ef] at e fd
        cases e
        obtain ⟨w, h1, h2⟩ := fd
        have g := DGet.k (k := k) hH
        rw [h1] at g
        exact ix_dict (by omega) I g ry hsub (q w h2)
    · cases e
  · cases e
theorem q_ix (hu : X.A.units + 70 < cLine) {a b : Expr} {ia ib : Y.E} {pos} (ha : PE X a (tO X E Γ ia)) (hb : PE X b (tO X E Γ ib)) (hs : PlainIx b) : PE X (.Subscript a b pos) (tE X E Γ (.ix ia ib)) := by
  refine (pe_ix (ix_ok hu) ha hb hs).weak fun σ H Q ⟨F, ρ, q⟩ => ?_
  refine ⟨F, ρ, (q.bind rlR_t).post fun x H1 ⟨d, ρ1, F1, rx, st, q1⟩ => ?_⟩
  refine ⟨F1, ρ1, (q1.bind rlR_t).post fun y H2 ⟨e, ρ2, F2, ry, st2, q2⟩ => ?_⟩
  obtain ⟨dx, hx, q3⟩ := q2.get (opdR.mono rx st2.ff)
  obtain ⟨dy, hy, q4⟩ := q3.get ry
  obtain ⟨d, hd, q5⟩ := q4.ofO
  exact ⟨F2, dx, dy, d, q5.sr.sub, hx, hy, hd, fun v r => q5.val rfl r⟩
def rlI : Rl (Option Int) (Option Int) := fun _ _ _ _ _ _ a b => a = b
theorem rlI_t : RlT rlI := fun _ _ _ _ _ _ _ _ _ _ _ _ _ h => h
variable (X E Γ) in
def tOe (o : Oe) : TO := fun σ H Q => ∃ F ρ, TM X.K E rlI (evOe Γ o) F ρ σ H Q
theorem q_oeN : PO X none (tOe X E Γ .none) := po_none.weak fun σ H Q ⟨F, ρ, q⟩ => q.ret rfl
theorem q_oeS {e : Expr} {i : Y.E} (h : PE X e (tE X E Γ i)) : PO X (some e) (tOe X E Γ (.some i)) := by
  refine (po_some h).weak fun σ H Q ⟨F, ρ, q⟩ => ?_
  refine ⟨F, ρ, (TM.bind rlI_t q).post fun x H1 ⟨r, ρ1, F1, rx, st, q1⟩ => ?_⟩
  cases r with
  | own o => exact False.elim q1.2
  | fz d =>
    cases d with
    | int i => cases (show Dq X.K F1 x (.int i) from rx); exact ⟨i, rfl, q1.ret rfl⟩
    | _ => exact False.elim q1.2
theorem cut_dp {ds : List PyData} {vs : List V} {lo hi : Option Int} (h : DqAll K F vs ds) : DqAll K F (cutV vs lo hi) (cutD ds lo hi) := by
  unfold cutV cutD
  rw [dpAll_len h]
  exact dpAll_take _ (dpAll_drop _ h)
theorem cut_whole {ds : List PyData} {lo hi : Option Int} (h : HT.sIx ds.length 0 lo = 0 ∧ HT.sIx ds.length ds.length hi = ds.length) : cutD ds lo hi = ds := by
  unfold cutD
  rw [h.1, h.2]
  simp
def rSlD (K : PySem.W.Frag) (E : XW) : V → Option Int → Option Int → Hp → VK → Prop := fun x lo hi H Q => ∃ F ρ σ dx, RepH K F H x dx ∧ TM K E (rlR K) (ofO (slD dx lo hi)) F ρ σ H Q
theorem sl_ok : SlR X (rSlD X.K E) := by
  intro pins s σ H x v vl vu lo hi sl Q I rx hs pl pu h
  obtain ⟨F, ρ, σ', dx, hx, h⟩ := h
  obtain ⟨r, hr⟩ := h.get?
  have he := ofO_ok (ρ := ρ) hr
  unfold slD at hr
  split at hr
  · cases hr
    obtain ⟨a, vs, rfl, q1, q2⟩ := hx
    exact sl_list pins s σ H _ v vl vu _ _ sl Q I rx hs pl pu ⟨a, vs, rfl, q1, fun p n => h.newLst he n (cut_dp q2)⟩
  · cases hr
    obtain ⟨a, vs, rfl, q1, q2, q5⟩ := dpt hx h.sr.sub
    refine sl_tupA pins s σ H _ v vl vu _ _ sl Q I rx hs pl pu ⟨a, vs, rfl, q1, fun z => ?_, fun z p n => h.newTup he n (cut_dp q2)⟩
    rw [dpAll_len q2] at z
    rw [cut_whole z] at he
    exact h.val he q5
  · cases hr
theorem q_sl {a : Expr} {lo hi : Option Expr} {ia : Y.E} {il ih : Oe} {p2 pos} (ha : PE X a (tO X E Γ ia)) (hl : PO X lo (tOe X E Γ il)) (hh : PO X hi (tOe X E Γ ih)) : PE X (.Subscript a (.Slice lo hi none p2) pos) (tE X E Γ (.sl ia il ih)) := by
  refine (pe_slice (sl_ok (E := E)) ha hl hh).weak fun σ H Q ⟨F, ρ, q⟩ => ?_
  refine ⟨F, ρ, (q.bind rlR_t).post fun x H1 ⟨d, ρ1, F1, rx, st, q1⟩ => ?_⟩
  refine ⟨F1, ρ1, (q1.bind rlR_t).post fun l H2 ⟨l', ρ2, F2, rl, st2, q2⟩ => ?_⟩
  cases (show l' = l from rl)
  refine ⟨F2, ρ2, (q2.bind rlR_t).post fun u H3 ⟨u', ρ3, F3, ru, st3, q3⟩ => ?_⟩
  cases (show u' = u from ru)
  obtain ⟨dx, hx, q4⟩ := q3.get (opdR.mono rx (st2.ff.trans st3.ff))
  exact ⟨F3, ρ3, σ, dx, hx, q4⟩
end
end Y

set_option Elab.async false
set_option linter.all false
set_option maxRecDepth 100000
namespace Y
open PySem L2
def notStar : Expr → Bool
  | .Starred .. => false
  | _ => true
theorem star_cons {e : Expr} {es : List Expr} {env : Env} (h : notStar e = true) : starEach (e :: es) env = (false, eval e env) :: starEach es env := by
  cases e <;> first | rfl | exact absurd (show false = true from h) Bool.false_ne_true
theorem star_any {es : List Expr} {env : Env} {pos : Pos} (h : es.all notStar = true) : (backTo pos (starEach es env)).any (·.1) = false := by
  induction es with
  | nil => rfl
  | cons e es ih =>
    rw [List.all_cons, Bool.and_eq_true] at h
    rw [star_cons h.1]
    show (false || (backTo pos (starEach es env)).any (·.1)) = false
    rw [ih h.2]
    rfl
inductive OpAll (K : PySem.W.Frag) (F : Hp) (σ : St) : List Opd → List V → Prop where
  | nil : OpAll K F σ [] []
  | cons {x : Opd} {v : V} {xs : List Opd} {vs : List V} : opdR K F σ x v → OpAll K F σ xs vs → OpAll K F σ (x :: xs) (v :: vs)
theorem OpAll.mono {K : PySem.W.Frag} {F F' : Hp} {σ : St} {xs : List Opd} {vs : List V} (h : OpAll K F σ xs vs) (s : Same F F') : OpAll K F' σ xs vs := by
  induction h with
  | nil => exact .nil
  | cons a b ih => exact .cons (opdR.mono a s) ih
inductive RepAll (K : PySem.W.Frag) (F H : Hp) : List V → List PyData → Prop where
  | nil : RepAll K F H [] []
  | cons {v : V} {d : PyData} {vs : List V} {ds : List PyData} : RepH K F H v d → RepAll K F H vs ds → RepAll K F H (v :: vs) (d :: ds)
def rlOs (K : PySem.W.Frag) : Rl (List Opd) (List V) := fun σ _ _ _ F' _ xs vs => OpAll K F' σ xs vs
theorem rlOs_t {K : PySem.W.Frag} : RlT (rlOs K) := fun _ _ _ _ _ _ _ _ _ _ _ _ _ h => h
section
variable {X : Cx} {E : XW} {Γ : Gam} {K : PySem.W.Frag} {F H : Hp} {ρ : Rho} {σ : St}
variable (X E Γ) in
def tOs (es : Es) : TA := fun σ H Q => ∃ F ρ, TM X.K E (rlOs X.K) (evOs Γ es) F ρ σ H Q
theorem q_onil : PA X [] (tOs X E Γ .nil) := pa_nil.weak fun σ H Q ⟨F, ρ, q⟩ => q.ret .nil
theorem q_ocons {e : Expr} {es : List Expr} {a : Y.E} {as : Es} (h1 : PE X e (tO X E Γ a)) (h2 : PA X es (tOs X E Γ as)) (hs : starEach (e :: es) X.env = (false, eval e X.env) :: starEach es X.env) : PA X (e :: es) (tOs X E Γ (.cons a as)) := by
  refine (pa_cons h1 h2 hs).weak fun σ H Q ⟨F, ρ, q⟩ => ?_
  refine ⟨F, ρ, (q.bind rlOs_t).post fun x H1 ⟨d, ρ1, F1, rx, st, q1⟩ => ?_⟩
  refine ⟨F1, ρ1, (q1.bind rlOs_t).post fun xs H2 ⟨ds, ρ2, F2, rxs, st2, q2⟩ => ?_⟩
  exact q2.ret (.cons (opdR.mono rx st2.ff) rxs)
theorem TM.gets {β γ : Type} {rel : Rl β γ} {Q : γ → Hp → Prop} : ∀ {xs : List Opd} {vs : List V} {f : List PyData → M β}, TM K E rel (bnd (Y.gets xs) f) F ρ σ H Q → OpAll K F σ xs vs → ∃ ds, RepAll K F H vs ds ∧ TM K E rel (f ds) F ρ σ H Q
  | [], _, f, h, .nil => ⟨[], .nil, h⟩
  | x :: xs, _, f, h, .cons hx hr => by
    have h : TM K E rel (bnd (bnd (Y.get x) fun d => bnd (Y.gets xs) fun ds => Y.ret (d :: ds)) f) F ρ σ H Q := h
    rw [bnd_assoc] at h
    obtain ⟨d, rd, h2⟩ := TM.get h hx
    rw [bnd_assoc] at h2
    obtain ⟨ds, rds, h3⟩ := TM.gets h2 hr
    exact ⟨d :: ds, .cons rd rds, h3⟩

/-! ### built-ins -/
def biN : Bi → Str
  | .len => "len" | .all => "all" | .any => "any" | .list => "list" | .tuple => "tuple" | .int => "int" | .abs => "abs" | .min => "min" | .max => "max" | .str => "str" | .sorted => "sorted"
def biT : Bi → Option String
  | .list => some "list" | .tuple => some "tuple" | .int => some "int" | .str => some "str"
  | _ => none
def biB : Bi → String
  | .len => "len" | .all => "all" | .any => "any" | .abs => "abs" | .min => "min" | .max => "max" | .sorted => "sorted"
  | _ => ""
def biV (b : Bi) : Value := match biT b with
  | some T => .type T
  | none => .builtin (biB b)
theorem biV_boot (b : Bi) : bootBuiltins (biN b) = some (biV b) := by cases b <;> decide +kernel
theorem allB_of : ∀ {ds : List PyData} {vs : List V} {b : Bool}, DqAll K F vs ds → allB ds = some b → ∃ bs : List Bool, vs = bs.map V.bl ∧ b = bs.all id
  | [], _, _, .nil, e => ⟨[], rfl, by cases e; rfl⟩
  | d :: ds, _, _, .cons h1 h2, e => by
    cases d with
    | bool c =>
      cases h1
      have e : (allB ds).map (c && ·) = some _ := e
      cases q : allB ds with
      | none => rw [q] at e; cases e
      | some t =>
        rw [q] at e
        cases e
        obtain ⟨bs, e1, e2⟩ := allB_of h2 q
        exact ⟨c :: bs, by rw [e1]; rfl, by rw [e2]; rfl⟩
    | _ => cases e
theorem anyB_of : ∀ {ds : List PyData} {vs : List V} {b : Bool}, DqAll K F vs ds → anyB ds = some b → ∃ bs : List Bool, vs = bs.map V.bl ∧ b = bs.any id
  | [], _, _, .nil, e => ⟨[], rfl, by cases e; rfl⟩
  | d :: ds, _, _, .cons h1 h2, e => by
    cases d with
    | bool c =>
      cases h1
      have e : (anyB ds).map (c || ·) = some _ := e
      cases q : anyB ds with
      | none => rw [q] at e; cases e
      | some t =>
        rw [q] at e
        cases e
        obtain ⟨bs, e1, e2⟩ := anyB_of h2 q
        exact ⟨c :: bs, by rw [e1]; rfl, by rw [e2]; rfl⟩
    | _ => cases e
theorem intsD_of : ∀ {ds : List PyData} {vs : List V} {ns : List Int}, DqAll K F vs ds → intsD ds = some ns → vs = ns.map V.int
  | [], _, _, .nil, e => by cases e; rfl
  | d :: ds, _, _, .cons h1 h2, e => by
    cases d with
    | int c =>
      cases h1
      have e : (intsD ds).map (c :: ·) = some _ := e
      cases q : intsD ds with
      | none => rw [q] at e; cases e
      | some t =>
        rw [q] at e
        cases e
        rw [intsD_of h2 q]
        rfl
    | _ => cases e
theorem fold_max (ns : List Int) : ∀ a : Int, (ns.foldl (fun m b => if b > m then b else m) a ∈ a :: ns) ∧ ∀ x ∈ a :: ns, x ≤ ns.foldl (fun m b => if b > m then b else m) a := by
  induction ns with
  | nil => intro a; exact ⟨by simp, by simp⟩
  | cons b r ih =>
    intro a
    rw [List.foldl_cons]
    obtain ⟨h1, h2⟩ := ih (if b > a then b else a)
    refine ⟨?_, fun x hx => ?_⟩
    · rcases List.mem_cons.mp h1 with e | h
      · rw [e]; split <;> simp
      · simp [h]
    · have h3 := h2 (if b > a then b else a) List.mem_cons_self
      rcases List.mem_cons.mp hx with rfl | hx
      · split at h3 <;> split <;> omega
      · rcases List.mem_cons.mp hx with rfl | hx
        · split at h3 <;> split <;> omega
        · exact h2 x (List.mem_cons_of_mem _ hx)
theorem fold_min (ns : List Int) : ∀ a : Int, (ns.foldl (fun m b => if b < m then b else m) a ∈ a :: ns) ∧ ∀ x ∈ a :: ns, ns.foldl (fun m b => if b < m then b else m) a ≤ x := by
  induction ns with
  | nil => intro a; exact ⟨by simp, by simp⟩
  | cons b r ih =>
    intro a
    rw [List.foldl_cons]
    obtain ⟨h1, h2⟩ := ih (if b < a then b else a)
    refine ⟨?_, fun x hx => ?_⟩
    · rcases List.mem_cons.mp h1 with e | h
      · rw [e]; split <;> simp
      · simp [h]
    · have h3 := h2 (if b < a then b else a) List.mem_cons_self
      rcases List.mem_cons.mp hx with rfl | hx
      · split at h3 <;> split <;> omega
      · rcases List.mem_cons.mp hx with rfl | hx
        · split at h3 <;> split <;> omega
        · exact h2 x (List.mem_cons_of_mem _ hx)
def rBi (K : PySem.W.Frag) (E : XW) (b : Bi) : List V → Hp → VK → Prop := fun xs H Q => ∃ F ρ σ ds, RepAll K F H xs ds ∧ TM K E (rlR K) (ofO (biD b ds)) F ρ σ H Q
theorem rep1 {xs : List V} {d : PyData} (h : RepAll K F H xs [d]) : ∃ v, xs = [v] ∧ RepH K F H v d := by
  cases h with
  | cons a b => cases b; exact ⟨_, rfl, a⟩
theorem rep2 {xs : List V} {d e : PyData} (h : RepAll K F H xs [d, e]) : ∃ v w, xs = [v, w] ∧ RepH K F H v d ∧ RepH K F H w e := by
  cases h with
  | cons a b =>
    obtain ⟨w, rfl, q⟩ := rep1 b
    exact ⟨_, w, rfl, a, q⟩
theorem bi_ok (hc : X.calm = true) (b : Bi) : CallR X (biV b) (rBi X.K E b) := by
  intro pins s σ H xs us Q I r h
  obtain ⟨F, ρ, σ', ds, hx, h⟩ := h
  obtain ⟨z, hr⟩ := h.get?
  have he := ofO_ok (ρ := ρ) hr
  unfold biD at hr
  split at hr
  · cases hr
    obtain ⟨v, rfl, a, vs, rfl, q1, q2⟩ := rep1 hx
    have := h.val (v := .int vs.length) he (by rw [dpAll_len q2]; exact .int _)
    exact call_len pins s σ H _ us Q I r ⟨_, _, rfl, .inl ⟨vs, q1, rfl⟩, this⟩
  · cases hr
    obtain ⟨v, rfl, hv⟩ := rep1 hx
    obtain ⟨a, vs, rfl, q1, q2, _⟩ := dpt hv h.sr.sub
    have := h.val (v := .int vs.length) he (by rw [dpAll_len q2]; exact .int _)
    exact call_len pins s σ H _ us Q I r ⟨_, _, rfl, .inr ⟨vs, q1, rfl⟩, this⟩
  · split at hr
    · rename_i hl
      cases hr
      obtain ⟨v, rfl, hv⟩ := rep1 hx
      cases dps hv
      exact call_len pins s σ H _ us Q I r ⟨_, _, rfl, ⟨by rw [← lim_eq]; exact hl, rfl⟩, h.val he (.int _)⟩
    · cases hr
  · cases hr
    obtain ⟨v, rfl, a, vs, rfl, hH, r2⟩ := rep1 hx
    have hv := h.val (v := .int vs.length) he (by rw [dqK_len r2]; exact .int _)
    cases r with
    | cons r1 r0 =>
      cases r0
      cases r1
      exact d_len I (.inl hH) fun t s' I' => ⟨.int vs.length, H, I', ⟨t, rfl⟩, hv⟩
  · obtain ⟨v, rfl, a, vs, rfl, q1, q2⟩ := rep1 hx
    rename_i xs0
    cases ea : allB xs0 with
    | none => rw [ea] at hr; cases hr
    | some t =>
      rw [ea] at hr
      cases hr
      obtain ⟨bs, rfl, rfl⟩ := allB_of q2 ea
      exact cr_all hc pins s σ H _ us Q I r ⟨a, bs, rfl, q1, h.val he (.bl _)⟩
  · obtain ⟨v, rfl, a, vs, rfl, q1, q2⟩ := rep1 hx
    rename_i xs0
    cases ea : anyB xs0 with
    | none => rw [ea] at hr; cases hr
    | some t =>
      rw [ea] at hr
      cases hr
      obtain ⟨bs, rfl, rfl⟩ := anyB_of q2 ea
      exact cr_any hc pins s σ H _ us Q I r ⟨a, bs, rfl, q1, h.val he (.bl _)⟩
  · cases hr
    obtain ⟨v, rfl, a, vs, rfl, q1, q2⟩ := rep1 hx
    exact call_list_of pins s σ H _ us Q I r ⟨a, vs, rfl, .inl q1, fun l n => h.newLst he n q2⟩
  · cases hr
    obtain ⟨v, rfl, hv⟩ := rep1 hx
    obtain ⟨a, vs, rfl, q1, q2, _⟩ := dpt hv h.sr.sub
    exact call_list_of pins s σ H _ us Q I r ⟨a, vs, rfl, .inr q1, fun l n => h.newLst he n q2⟩
  · cases hr
    obtain ⟨v, rfl, a, vs, rfl, q1, q2⟩ := rep1 hx
    exact call_tuple_of pins s σ H _ us Q I r ⟨a, vs, rfl, .inl ⟨q1, fun l n => h.newTup he n q2⟩⟩
  · cases hr
    obtain ⟨v, rfl, hv⟩ := rep1 hx
    obtain ⟨a, vs, rfl, q1, q2, q3⟩ := dpt hv h.sr.sub
    exact call_tuple_of pins s σ H _ us Q I r ⟨a, vs, rfl, .inr ⟨q1, h.val he q3⟩⟩
  · cases hr
    obtain ⟨v, rfl, hv⟩ := rep1 hx
    cases dpi hv
    exact call_int1 pins s σ H _ us Q I r (.inl ⟨_, rfl, h.val he (.int _)⟩)
  · cases hr
    obtain ⟨v, rfl, hv⟩ := rep1 hx
    cases dpb hv
    exact call_int1 pins s σ H _ us Q I r (.inr ⟨_, rfl, h.val he (.int _)⟩)
  · cases hr
    obtain ⟨v, rfl, hv⟩ := rep1 hx
    cases dpi hv
    exact call_abs pins s σ H _ us Q I r ⟨_, rfl, h.val he (.int _)⟩
  · cases hr
    obtain ⟨v, w, rfl, hv, hw⟩ := rep2 hx
    cases dpi hv; cases dpi hw
    exact call_min2 hc pins s σ H _ us Q I r ⟨_, _, rfl, h.val he (.int _)⟩
  · cases hr
    obtain ⟨v, w, rfl, hv, hw⟩ := rep2 hx
    cases dpi hv; cases dpi hw
    exact call_max2 hc pins s σ H _ us Q I r ⟨_, _, rfl, h.val he (.int _)⟩
  · obtain ⟨v, rfl, a, vs, rfl, q1, q2⟩ := rep1 hx
    rename_i xs0
    cases ea : intsD xs0 with
    | none => rw [ea] at hr; cases hr
    | some ns =>
      rw [ea] at hr
      cases intsD_of q2 ea
      cases ns with
      | nil => cases hr
      | cons n ns =>
        cases hr
        obtain ⟨m1, m2⟩ := fold_max ns n
        refine cr_max hc pins s σ H _ us Q I r ⟨a, n :: ns, rfl, q1, Nat.succ_pos _, fun m hm hle => ?_⟩
        have e : m = ns.foldl (fun m b => if b > m then b else m) n := Int.le_antisymm (m2 m hm) (hle _ m1)
        rw [e]
        exact h.val he (.int _)
  · obtain ⟨v, rfl, a, vs, rfl, q1, q2⟩ := rep1 hx
    rename_i xs0
    cases ea : intsD xs0 with
    | none => rw [ea] at hr; cases hr
    | some ns =>
      rw [ea] at hr
      cases intsD_of q2 ea
      cases ns with
      | nil => cases hr
      | cons n ns =>
        cases hr
        obtain ⟨m1, m2⟩ := fold_min ns n
        refine cr_min hc pins s σ H _ us Q I r ⟨a, n :: ns, rfl, q1, Nat.succ_pos _, fun m hm hle => ?_⟩
        have e : m = ns.foldl (fun m b => if b < m then b else m) n := Int.le_antisymm (hle _ m1) (m2 m hm)
        rw [e]
        exact h.val he (.int _)
  · cases hr
theorem q_bi (hc : X.calm = true) {b : Bi} {p pos : Pos} {e : Expr} {es : List Expr} {ies : Es} (hg : Gl X (biN b)) (hm : X.mg (biN b) = none) (ha : PA X (e :: es) (tOs X E Γ ies)) (hs : (e :: es).all notStar = true) :
    PE X (.Call (.Name (biN b) p) (e :: es) [] pos) (tE X E Γ (.bi b ies)) := by
  have h1 : starEach (e :: es) X.env = (false, eval e X.env) :: starEach es X.env := star_cons (by rw [List.all_cons, Bool.and_eq_true] at hs; exact hs.1)
  have h2 : (backTo pos (starEach es X.env)).any (·.1) = false := star_any (by rw [List.all_cons, Bool.and_eq_true] at hs; exact hs.2)
  have w : ∀ σ H Q, tE X E Γ (.bi b ies) σ H Q → tCB (rBi X.K E b) (tOs X E Γ ies) σ H Q := fun σ H Q ⟨F, ρ, q⟩ => by
    refine ⟨F, ρ, (q.bind rlR_t).post fun x H1 ⟨ds, ρ1, F1, rx, st, q1⟩ => ?_⟩
    obtain ⟨es, hes, q2⟩ := TM.gets q1 rx
    exact ⟨F1, ρ1, σ, es, hes, q2⟩
  have hb := biV_boot b
  have hk := bi_ok (X := X) (E := E) hc b
  unfold biV at hb hk
  cases hT : biT b with
  | none =>
    rw [hT] at hb hk
    exact (pe_callB hk hg hm hb ha (by cases b <;> decide +kernel) (by cases b <;> decide +kernel) h1 h2).weak w
  | some T =>
    rw [hT] at hb hk
    exact (pe_callTy hk hg hm hb ha (by cases b <;> decide +kernel) (by cases b <;> decide +kernel) h1 h2).weak w

/-! ### isinstance -/
def tyN : Ty → String
  | .int => "int" | .bool => "bool" | .str => "str" | .tuple => "tuple" | .list => "list"
def dN : PyData → String
  | .none => "NoneType" | .bool _ => "bool" | .int _ => "int" | .str _ => "str" | .list _ => "list" | .tuple _ => "tuple" | .dict _ => "dict"
theorem isTy_kit (t : Ty) (d : PyData) : kitB (dN d) (tyN t) = some (isTy t d) := by
  cases d with
  | dict kvs => cases t <;> (show kitB "dict" _ = some false; decide +kernel)
  | none => cases t <;> (show kitB "NoneType" _ = some false; decide +kernel)
  | bool b => cases t <;> first | (show kitB "bool" _ = some true; decide +kernel) | (show kitB "bool" _ = some false; decide +kernel)
  | int b => cases t <;> first | (show kitB "int" _ = some true; decide +kernel) | (show kitB "int" _ = some false; decide +kernel)
  | str b => cases t <;> first | (show kitB "str" _ = some true; decide +kernel) | (show kitB "str" _ = some false; decide +kernel)
  | list b => cases t <;> first | (show kitB "list" _ = some true; decide +kernel) | (show kitB "list" _ = some false; decide +kernel)
  | tuple b => cases t <;> first | (show kitB "tuple" _ = some true; decide +kernel) | (show kitB "tuple" _ = some false; decide +kernel)
theorem tyx_of {v : V} {d : PyData} (h : RepH K F H v d) (sub : Same F H) : TyX K H v (.type (dN d)) := by
  cases d with
  | none => cases dpn h; exact .base .non
  | bool b => cases dpb h; exact .base (.bl b)
  | int b => cases dpi h; exact .base (.int b)
  | str b => cases dps h; exact .base (.str b)
  | list ds =>
    obtain ⟨a, vs, rfl, q, _⟩ := h
    rcases q with (q | ⟨o, q⟩) | ⟨o, its, n, q, c, _⟩
    · exact .base (.lst q)
    · exact .base (.frz q)
    · exact .kList q c
  | tuple ds =>
    obtain ⟨a, vs, rfl, q, _⟩ := dpt h sub
    rcases q with (q | ⟨o, q⟩) | ⟨o, its, n, q, c, _⟩
    · exact .base (.tup q)
    · exact .fTuple q
    · exact .kTuple q c
  | dict kvs =>
    obtain ⟨a, vs, rfl, q, _⟩ := h
    exact .base (.dK q)
theorem boot_isi : bootBuiltins "isinstance" = some (.builtin "isinstance") := by decide +kernel
theorem tyN_boot (t : Ty) : bootBuiltins (Str.ofString (tyN t)) = some (.type (tyN t)) := by cases t <;> decide +kernel
theorem q_isi {a : Expr} {ia : Y.E} {t : Ty} {p p2 pos : Pos} (hg : Gl X "isinstance") (hm : X.mg "isinstance" = none) (hg2 : Gl X (Str.ofString (tyN t))) (hm2 : X.mg (Str.ofString (tyN t)) = none) (ha : PE X a (tO X E Γ ia)) (hs : notStar a = true) :
    PE X (.Call (.Name "isinstance" p) [a, .Name (Str.ofString (tyN t)) p2] [] pos) (tE X E Γ (.isi ia t)) := by
  have pt : PE X (.Name (Str.ofString (tyN t)) p2) (tC (.ty (tyN t))) := pe_bltn hg2 hm2 (tyN_boot t) rfl (by cases t <;> decide +kernel) (by cases t <;> decide +kernel)
  refine (pe_callB call_isi hg hm boot_isi (pa_cons ha (pa_cons pt pa_nil rfl) (star_cons hs)) (by decide +kernel) (by decide +kernel) (star_cons hs) (star_any (by rfl))).weak fun σ H Q ⟨F, ρ, q⟩ => ?_
  refine ⟨F, ρ, (q.bind rlR_t).post fun x H1 ⟨d, ρ1, F1, rx, st, q1⟩ => ?_⟩
  obtain ⟨dx, hx, q2⟩ := q1.get rx
  exact ⟨x, .ty (tyN t), .type (dN dx), .type (tyN t), isTy t dx, rfl, .ty _, tyx_of hx q2.sr.sub, kit_ty (isTy_kit t dx), q2.val rfl (.bl _)⟩
end
end Y

set_option Elab.async false
set_option linter.all false
set_option maxRecDepth 100000
namespace Y
open PySem L2
/-- what is wanted of an exception: none is raised -/
def EX (_ : PySem.W.Frag) (_ : XK) : XW := fun _ _ _ _ _ => False
def argR (K : PySem.W.Frag) (F : Hp) (σ : St) (a : Arg) (v : V) : Prop := match a with
  | .d d => Rep K F v d
  | .ref i => σ[i]? = some (some v)
inductive ArgAll (K : PySem.W.Frag) (F : Hp) (σ : St) : List Arg → List V → Prop where
  | nil : ArgAll K F σ [] []
  | cons {x : Arg} {v : V} {xs : List Arg} {vs : List V} : argR K F σ x v → ArgAll K F σ xs vs → ArgAll K F σ (x :: xs) (v :: vs)
def rlAs (K : PySem.W.Frag) : Rl (List Arg) (List V) := fun σ _ _ _ F' _ xs vs => ArgAll K F' σ xs vs
theorem rlAs_t {K : PySem.W.Frag} : RlT (rlAs K) := fun _ _ _ _ _ _ _ _ _ _ _ _ _ h => h
section
variable {K : PySem.W.Frag} {F F' H H' : Hp} {ρ ρ' : Rho} {σ σ2 : St} {as : List Arg} {vs : List V} {sl sl' : List Slot}
theorem argR.mono {a : Arg} {v : V} (h : argR K F σ a v) (s : Same F F') : argR K F' σ a v := by
  cases a with
  | d d => exact Rep.mono h s
  | ref i => exact h
theorem ArgAll.mono (h : ArgAll K F σ as vs) (s : Same F F') : ArgAll K F' σ as vs := by
  induction h with
  | nil => exact .nil
  | cons a b ih => exact .cons (argR.mono a s) ih
theorem ArgAll.len (h : ArgAll K F σ as vs) : vs.length = as.length := by
  induction h with
  | nil => rfl
  | cons a b ih => exact congrArg (· + 1) ih
theorem ArgAll.get : ∀ {as : List Arg} {vs : List V} {k : Nat} {a : Arg}, ArgAll K F σ as vs → as[k]? = some a → ∃ v, vs[k]? = some v ∧ argR K F σ a v
  | _, _, _, _, .nil, e => by simp at e
  | _, _, 0, _, .cons h _, e => by simp at e; subst e; exact ⟨_, rfl, h⟩
  | _, _, k + 1, _, .cons _ r, e => by
    obtain ⟨v, h1, h2⟩ := ArgAll.get (k := k) r (by simpa using e)
    exact ⟨v, by simpa using h1, h2⟩
theorem argSlots_len : ∀ {as : List Arg} {sl : List Slot}, argSlots ρ as = some sl → sl.length = as.length
  | [], _, e => by cases e; rfl
  | .d d :: r, _, e => by
    have e : (argSlots ρ r).map (Slot.fz d :: ·) = some _ := e
    cases q : argSlots ρ r with
    | none => rw [q] at e; cases e
    | some t => rw [q] at e; cases e; exact congrArg (· + 1) (argSlots_len q)
  | .ref i :: r, _, e => by
    unfold argSlots at e
    split at e
    · cases q : argSlots ρ r with
      | none => rw [q] at e; cases e
      | some t => rw [q] at e; cases e; exact congrArg (· + 1) (argSlots_len q)
    · cases e
theorem argSlots_get : ∀ {as : List Arg} {sl : List Slot}, argSlots ρ as = some sl → ∀ {k : Nat} {s : Slot}, sl[k]? = some s →
    (∃ d, as[k]? = some (.d d) ∧ s = .fz d) ∨ ∃ (i : Nat) (p : Bool) (o : O), as[k]? = some (.ref i) ∧ ρ[i]? = some (.own p o) ∧ s = .own true o
  | [], _, e, k, s, h => by cases e; simp at h
  | .d d :: r, _, e, k, s, h => by
    have e : (argSlots ρ r).map (Slot.fz d :: ·) = some _ := e
    cases q : argSlots ρ r with
    | none => rw [q] at e; cases e
    | some t =>
      rw [q] at e
      cases e
      cases k with
      | zero => simp at h; subst h; exact .inl ⟨d, rfl, rfl⟩
      | succ k => exact argSlots_get q (k := k) (by simpa using h)
  | .ref i :: r, _, e, k, s, h => by
    unfold argSlots at e
    split at e
    · rename_i p o ho
      cases q : argSlots ρ r with
      | none => rw [q] at e; cases e
      | some t =>
        rw [q] at e
        cases e
        cases k with
        | zero => simp at h; subst h; exact .inr ⟨i, p, o, rfl, ho, rfl⟩
        | succ k => exact argSlots_get q (k := k) (by simpa using h)
    · cases e
theorem mem_refs : ∀ {as : List Arg} {k i : Nat}, as[k]? = some (.ref i) → i ∈ argRefs as
  | [], _, _, h => by simp at h
  | .d d :: r, 0, i, h => by simp at h
  | .d d :: r, k + 1, i, h => mem_refs (as := r) (k := k) (by simpa using h)
  | .ref j :: r, 0, i, h => by simp at h; subst h; exact List.mem_cons_self
  | .ref j :: r, k + 1, i, h => List.mem_cons_of_mem _ (mem_refs (as := r) (k := k) (by simpa using h))
theorem refs_inj : ∀ {as : List Arg} {k j i : Nat}, (argRefs as).Nodup → as[k]? = some (.ref i) → as[j]? = some (.ref i) → k = j
  | [], _, _, _, _, h, _ => by simp at h
  | .d d :: r, 0, _, _, _, h, _ => by simp at h
  | .d d :: r, _ + 1, 0, _, _, _, h => by simp at h
  | .d d :: r, k + 1, j + 1, i, nd, h1, h2 => congrArg (· + 1) (refs_inj (as := r) nd (by simpa using h1) (by simpa using h2))
  | .ref a :: r, 0, 0, _, _, _, _ => rfl
  | .ref a :: r, 0, j + 1, i, nd, h1, h2 => by
    simp at h1; subst h1
    exact absurd (mem_refs (as := r) (k := j) (by simpa using h2)) (List.nodup_cons.mp nd).1
  | .ref a :: r, k + 1, 0, i, nd, h1, h2 => by
    simp at h2; subst h2
    exact absurd (mem_refs (as := r) (k := k) (by simpa using h1)) (List.nodup_cons.mp nd).1
  | .ref a :: r, k + 1, j + 1, i, nd, h1, h2 => congrArg (· + 1) (refs_inj (as := r) (List.nodup_cons.mp nd).2 (by simpa using h1) (by simpa using h2))
theorem mapSome {vs : List V} {k : Nat} {v : V} (h : vs[k]? = some v) : (vs.map some)[k]? = some (some v) := by rw [List.getElem?_map, h]; rfl
theorem mapSome' {vs : List V} {k : Nat} {v : V} (h : (vs.map some)[k]? = some (some v)) : vs[k]? = some v := by
  rw [List.getElem?_map] at h
  cases e : vs[k]? with
  | none => rw [e] at h; cases h
  | some u => rw [e] at h; cases h; rfl
/-- the callee's slots and their owners -/
theorem args_own (sr : SR K F H ρ σ) (ha : ArgAll K F σ as vs) (es : argSlots ρ as = some sl) {k : Nat} {p : Bool} {o : O} (h : sl[k]? = some (.own p o)) :
    ∃ (i : Nat) (p' : Bool) (a : Addr), as[k]? = some (.ref i) ∧ ρ[i]? = some (.own p' o) ∧ p = true ∧ vs[k]? = some (.ref a) ∧ σ[i]? = some (some (.ref a)) ∧ F a = none ∧ ObjR K F H a o := by
  rcases argSlots_get es h with ⟨d, _, e⟩ | ⟨i, p', o', h1, h2, e⟩
  · cases e
  · cases e
    obtain ⟨v, h3, h4⟩ := ha.get h1
    obtain ⟨a, h5, h6, h7⟩ := sr.own i p' _ h2
    have h4 : σ[i]? = some (some v) := h4
    rw [h4] at h5; cases h5
    exact ⟨i, p', a, h1, h2, rfl, h3, h4, h6, h7⟩
theorem args_sr (sr : SR K F H ρ σ) (ha : ArgAll K F σ as vs) (nd : (argRefs as).Nodup) (es : argSlots ρ as = some sl) : SR K F H sl (vs.map some) := by
  refine ⟨by rw [List.length_map, ha.len, argSlots_len es], sr.sub, fun k d h => ?_, fun k p o h => ?_, fun k j p o p' o' a h1 h2 h3 h4 => ?_⟩
  · rcases argSlots_get es h with ⟨d', h1, e⟩ | ⟨_, _, _, _, _, e⟩
    · cases e
      obtain ⟨v, h3, h4⟩ := ha.get h1
      exact ⟨v, mapSome h3, h4⟩
    · cases e
  · obtain ⟨i, p', a, h1, h2, _, h3, h4, h5, h6⟩ := args_own sr ha es h
    exact ⟨a, mapSome h3, h5, h6⟩
  · obtain ⟨i, _, a1, q1, q2, _, q3, q4, _⟩ := args_own sr ha es h1
    obtain ⟨i', _, a2, r1, r2, _, r3, r4, _⟩ := args_own sr ha es h2
    rw [mapSome q3] at h3; cases h3
    rw [mapSome r3] at h4; cases h4
    have e := sr.sep i i' _ _ _ _ _ q2 r2 q4 r4
    subst e
    exact refs_inj nd q1 r1
theorem args_owned (sr : SR K F H ρ σ) (ha : ArgAll K F σ as vs) (es : argSlots ρ as = some sl) {b : Addr} (h : Owned sl (vs.map some) b) : ∃ (i k : Nat) (p : Bool) (o : O), as[k]? = some (.ref i) ∧ ρ[i]? = some (.own p o) ∧ σ[i]? = some (some (.ref b)) := by
  obtain ⟨k, p, o, h1, h2⟩ := h
  obtain ⟨i, p', a, q1, q2, _, q3, q4, _⟩ := args_own sr ha es h1
  rw [mapSome q3] at h2; cases h2
  exact ⟨i, k, p', o, q1, q2, q4⟩
theorem argBack_get : ∀ {as : List Arg} {sl' : List Slot} {ρ ρ' : Rho}, (argRefs as).Nodup → argBack as sl' ρ = some ρ' → ρ'.length = ρ.length ∧ ∀ {j : Nat} {s : Slot}, ρ'[j]? = some s →
    (ρ[j]? = some s ∧ ∀ k : Nat, as[k]? ≠ some (.ref j)) ∨ ∃ (k : Nat) (p : Bool) (o o' : O), as[k]? = some (.ref j) ∧ sl'[k]? = some (.own true o') ∧ ρ[j]? = some (.own p o) ∧ s = .own p o'
  | [], [], ρ, ρ', nd, e => by
    cases e
    exact ⟨rfl, fun h => .inl ⟨h, fun k => by simp⟩⟩
  | [], _ :: _, _, _, _, e => by cases e
  | .d _ :: _, [], _, _, _, e => by cases e
  | .ref _ :: _, [], _, _, _, e => by cases e
  | .d d :: r, t :: q, ρ, ρ', nd, e => by
    obtain ⟨h1, h2⟩ := argBack_get (as := r) (sl' := q) (ρ := ρ) (ρ' := ρ') nd e
    refine ⟨h1, fun h => ?_⟩
    rcases h2 h with ⟨a, b⟩ | ⟨k, p, o, o', a, b, c, d⟩
    · refine .inl ⟨a, fun k => ?_⟩
      cases k with
      | zero => simp
      | succ k => simpa using b k
    · exact .inr ⟨k + 1, p, o, o', by simpa using a, by simpa using b, c, d⟩
  | .ref i :: r, t :: q, ρ, ρ', nd, e => by
    unfold argBack at e
    split at e
    · cases ‹_ :: _ = []›
    · cases ‹Arg.ref i :: r = _›
    · rename_i i' r' o q' h1 h2
      cases h1
      cases h2
      split at e
      · rename_i p o0 ho
        obtain ⟨h1, h2⟩ := argBack_get (as := r) (sl' := q) (List.nodup_cons.mp nd).2 e
        refine ⟨by rw [h1, List.length_set], fun {j s} h => ?_⟩
        rcases h2 h with ⟨a, b⟩ | ⟨k, p2, o2, o', a, b, c, d⟩
        · rcases set_own ho a with ⟨rfl, rfl⟩ | ⟨hj, a⟩
          · exact .inr ⟨0, p, o0, o, rfl, rfl, ho, rfl⟩
          · refine .inl ⟨a, fun k => ?_⟩
            cases k with
            | zero => simpa using hj
            | succ k => simpa using b k
        · have hj : i ≠ j := fun z => (List.nodup_cons.mp nd).1 (by rw [z]; exact mem_refs a)
          rw [List.getElem?_set_ne hj] at c
          exact .inr ⟨k + 1, p2, o2, o', by simpa using a, by simpa using b, c, d⟩
      · cases e
    · cases e
/-- behind a call: the caller's slots -/
theorem call_back (sr : SR K F H ρ σ) (ha : ArgAll K F σ as vs) (nd : (argRefs as).Nodup) (es : argSlots ρ as = some sl) (st : Stp (vs.map some) sl F H σ2 sl' F' H') (sr' : SR K F' H' sl' σ2) (eb : argBack as sl' ρ = some ρ') :
    Stp σ ρ F H σ ρ' F' H' ∧ SR K F' H' ρ' σ ∧ ∀ b, Owned ρ' σ b → Owned sl' σ2 b ∨ (Owned ρ σ b ∧ ¬ Owned sl (vs.map some) b) := by
  obtain ⟨hl, hg⟩ := argBack_get nd eb
  -- an owned object that was not handed in
  have other : ∀ {j : Nat} {p : Bool} {o : O}, ρ[j]? = some (.own p o) → (∀ k : Nat, as[k]? ≠ some (.ref j)) → ∃ a, σ[j]? = some (some (.ref a)) ∧ F a = none ∧ ObjR K F H a o ∧ ¬ Owned sl (vs.map some) a := fun {j p o} h n => by
    obtain ⟨a, h1, h2, h3⟩ := sr.own j p o h
    refine ⟨a, h1, h2, h3, fun z => ?_⟩
    obtain ⟨i, k, p', o', q1, q2, q3⟩ := args_owned sr ha es z
    have := sr.sep j i _ _ _ _ a h q2 h1 q3
    subst this
    exact n k q1
  -- one that was
  have mine : ∀ {k j : Nat} {o' : O}, as[k]? = some (.ref j) → sl'[k]? = some (.own true o') → ∃ a, σ[j]? = some (some (.ref a)) ∧ σ2[k]? = some (some (.ref a)) ∧ F' a = none ∧ ObjR K F' H' a o' := fun {k j o'} h1 h2 => by
    obtain ⟨e, o0, h3⟩ := st.pin k o' h2
    obtain ⟨i, p', a, q1, q2, _, q3, q4, _⟩ := args_own sr ha es h3
    rw [h1] at q1; cases q1
    obtain ⟨c, r1, r2, r3⟩ := sr'.own k true o' h2
    have e2 : σ2[k]? = some (some (.ref a)) := by rw [e]; exact mapSome q3
    rw [e2] at r1; cases r1
    exact ⟨a, q4, e2, r2, r3⟩
  refine ⟨⟨st.ff, fun b o h n => st.kp b o h fun z => n ?_, fun b o h n => (st.nf b o h n).imp id fun z => ?_, fun b z => ?_, st.mo, fun j o h => ?_, hl⟩, ⟨by rw [hl]; exact sr.len, sr'.sub, fun j d h => ?_, fun j p o h => ?_, fun j k p o p' o' a h1 h2 h3 h4 => ?_⟩, fun b z => ?_⟩
  · obtain ⟨i, k, p', o', q1, q2, q3⟩ := args_owned sr ha es z
    exact ⟨i, p', o', q2, q3⟩
  · obtain ⟨i, k, p', o', q1, q2, q3⟩ := args_owned sr ha es z
    exact ⟨i, p', o', q2, q3⟩
  · obtain ⟨j, p, o, h1, h2⟩ := z
    rcases hg h1 with ⟨a, b⟩ | ⟨k, p2, o2, o', a, b, c, d⟩
    · exact .inl ⟨j, p, o, a, h2⟩
    · exact .inl ⟨j, p2, o2, c, h2⟩
  · rcases hg h with ⟨a, b⟩ | ⟨k, p2, o2, o', a, b, c, d⟩
    · exact ⟨rfl, o, a⟩
    · cases d; exact ⟨rfl, o2, c⟩
  · rcases hg h with ⟨a, b⟩ | ⟨k, p2, o2, o', a, b, c, d⟩
    · obtain ⟨v, h1, h2⟩ := sr.fz j d a
      exact ⟨v, h1, h2.mono st.ff⟩
    · cases d
  · rcases hg h with ⟨a, b⟩ | ⟨k, p2, o2, o', a, b, c, d⟩
    · obtain ⟨x, h1, h2, h3, h4⟩ := other a b
      obtain ⟨u, hu⟩ := h3.some
      obtain ⟨e1, e2, _⟩ := st.apart hu h2 h4
      refine ⟨x, h1, e2, h3.mono st.ff fun w hw => ?_⟩
      rw [hu] at hw; cases hw; exact e1
    · cases d
      obtain ⟨x, h1, _, h2, h3⟩ := mine a b
      exact ⟨x, h1, h2, h3⟩
  · have own0 : ∀ {j : Nat} {p : Bool} {o : O}, ρ'[j]? = some (.own p o) → ∃ p' o', ρ[j]? = some (.own p' o') := fun {j p o} h => by
      rcases hg h with ⟨a, b⟩ | ⟨k, p2, o2, o', a, b, c, d⟩
      · exact ⟨p, o, a⟩
      · exact ⟨p2, o2, c⟩
    obtain ⟨_, _, e1⟩ := own0 h1
    obtain ⟨_, _, e2⟩ := own0 h2
    exact sr.sep j k _ _ _ _ a e1 e2 h3 h4
  · obtain ⟨j, p, o, h1, h2⟩ := z
    rcases hg h1 with ⟨a, b⟩ | ⟨k, p2, o2, o', a, b', c, d⟩
    · obtain ⟨x, e1, _, _, e4⟩ := other a b
      rw [h2] at e1; cases e1
      exact .inr ⟨⟨j, p, o, a, h2⟩, e4⟩
    · obtain ⟨x, e1, e2, _, _⟩ := mine a b'
      rw [h2] at e1; cases e1
      exact .inl ⟨k, true, o', b', e2⟩
/-- how a callee's slots begin -/
def Begin (sl : List Slot) : Prop := ∀ (k : Nat) (s : Slot), sl[k]? = some s → (∃ d, s = .fz d) ∨ ∃ o, s = .own true o
theorem TM.call {Ex : XK} {g : List Slot → Out R} {Q : V → Hp → Prop} (h : TM K (EX K Ex) (rlR K) (doCall g as) F ρ σ H Q) (ha : ArgAll K F σ as vs) : ∃ sl, Begin sl ∧ TM K (EX K Ex) (rlR K) g F sl (vs.map some) H Q := by
  obtain ⟨sr, h⟩ := h
  unfold doCall at h
  by_cases nd : (argRefs as).Nodup
  · rw [if_pos nd] at h
    cases es : argSlots ρ as with
    | none => rw [es] at h; exact False.elim h
    | some sl =>
      rw [es] at h
      refine ⟨sl, fun k s hk => ?_, args_sr sr ha nd es, ?_⟩
      · rcases argSlots_get es hk with ⟨d, _, e⟩ | ⟨_, _, o, _, _, e⟩
        · exact .inl ⟨d, e⟩
        · exact .inr ⟨o, e⟩
      · dsimp only at h
        cases eg : g sl with
        | bad => rw [eg] at h; exact h
        | ok r sl' =>
          rw [eg] at h
          dsimp only at h
          cases eb : argBack as sl' ρ with
          | none => rw [eb] at h; exact False.elim h
          | some ρ' =>
            rw [eb] at h
            intro v F' H' st sr' rl
            obtain ⟨s1, s2, s3⟩ := call_back sr ha nd es st sr' eb
            refine h v F' H' s1 s2 ?_
            cases r with
            | fz d => exact rl
            | own o =>
              obtain ⟨a, e1, e2, e3, e4, e5⟩ := rl
              refine ⟨a, e1, e2, e3, fun z => ?_, ?_⟩
              · rcases s3 a z with q | ⟨q1, q2⟩
                · exact e4 q
                · obtain ⟨u, hu⟩ := owned_some sr q1
                  rcases e5 with e5 | e5
                  · rw [e5] at hu; cases hu
                  · exact q2 e5
              · rcases e5 with e5 | e5
                · exact .inl e5
                · obtain ⟨i, k, p', o', q1, q2, q3⟩ := args_owned sr ha es e5
                  exact .inr ⟨i, p', o', q2, q3⟩
        | exn x sl' =>
          rw [eg] at h
          dsimp only at h
          cases eb : argBack as sl' ρ with
          | none => rw [eb] at h; exact False.elim h
          | some ρ' =>
            rw [eb] at h
            intro σ2 F' H' st sr'
            obtain ⟨s1, s2, s3⟩ := call_back sr ha nd es st sr' eb
            exact h σ F' H' s1 s2
  · rw [if_neg nd] at h
    exact False.elim h
/-- what a def promises, by its meaning -/
def spOf (K : PySem.W.Frag) (np : Nat) (g : List Slot → Out R) : Sp := fun vs H Q Ex => vs.length = np ∧ ∃ F sl, Begin sl ∧ TM K (EX K Ex) (rlR K) g F sl (vs.map some) H Q
end
section
variable {X : Cx} {Ex : XK} {Γ : Gam}
variable (X Ex Γ) in
def tAs (as : As) : TA := fun σ H Q => ∃ F ρ, TM X.K (EX X.K Ex) (rlAs X.K) (evAs Γ as) F ρ σ H Q
theorem q_anil : PA X [] (tAs X Ex Γ .nil) := pa_nil.weak fun σ H Q ⟨F, ρ, q⟩ => q.ret .nil
theorem q_aval {e : Expr} {es : List Expr} {a : Y.E} {as : As} (h1 : PE X e (tV X (EX X.K Ex) Γ a)) (h2 : PA X es (tAs X Ex Γ as)) (hs : notStar e = true) : PA X (e :: es) (tAs X Ex Γ (.val a as)) := by
  refine (pa_cons h1 h2 (star_cons hs)).weak fun σ H Q ⟨F, ρ, q⟩ => ?_
  refine ⟨F, ρ, (q.bind rlAs_t).post fun x H1 ⟨d, ρ1, F1, rx, st, q1⟩ => ?_⟩
  refine ⟨F1, ρ1, (q1.bind rlAs_t).post fun xs H2 ⟨ds, ρ2, F2, rxs, st2, q2⟩ => ?_⟩
  exact q2.ret (.cons (Rep.mono rx st2.ff) rxs)
theorem q_amut {i : Nat} {x : Str} {pos : Pos} {es : List Expr} {as : As} (hN : X.N[i]? = some x) (hv : Vis X.env.scope x) (hd : (x == ("__debug__" : Str)) = false) (hcd : (x == ("__classdict__" : Str)) = false) (h2 : PA X es (tAs X Ex Γ as)) : PA X (.Name x pos :: es) (tAs X Ex Γ (.mut i as)) := by
  refine (pa_cons (pe_var hN hv hd hcd) h2 (star_cons rfl)).weak fun σ H Q ⟨F, ρ, q⟩ => ?_
  cases hs : ρ[i]? with
  | none => exact absurd q.2 (by unfold evAs; rw [hs]; exact id)
  | some s =>
    cases s with
    | und => exact absurd q.2 (by unfold evAs; rw [hs]; exact id)
    | fz d => exact absurd q.2 (by unfold evAs; rw [hs]; exact id)
    | own p o =>
      have q2 : TM X.K (EX X.K Ex) (rlAs X.K) (bnd (evAs Γ as) fun xs => ret (Arg.ref i :: xs)) F ρ σ H Q := by
        refine ⟨q.1, ?_⟩
        have := q.2
        unfold evAs at this
        rw [hs] at this
        exact this
      obtain ⟨a, h1, _⟩ := q.1.own i p o hs
      refine ⟨.ref a, h1, F, ρ, (q2.bind rlAs_t).post fun xs H2 ⟨ds, ρ2, F2, rxs, st2, q3⟩ => ?_⟩
      exact q3.ret (.cons (show σ[i]? = some (some (V.ref a)) from h1) rxs)
theorem q_call {CX : CXT} {k np : Nat} {f : Addr} {fd : FuncData} {ps : List Str} {g : List Slot → Out R} {x : Str} {p pos : Pos} {e : Expr} {es : List Expr} {ias : As} (F : FnOk X.prog X.w X.K X.mg X.base CX k f fd ps (spOf X.K ps.length g)) (hr : Room k X.A) (hg : Gl X x) (hm : X.mg x = some (.ref f))
    (hk : PySem.W.keepIn X.K (.ref f) = true) (hb : Binds X.K fd ps []) (hx : Passes CX X Ex) (ha : PA X (e :: es) (tAs X Ex Γ ias)) (hs : (e :: es).all notStar = true) (hd : (x == ("__debug__" : Str)) = false) (hc : Γ.call x = g) (hn : ∀ ρ ρ' as, evAs Γ ias ρ = .ok as ρ' → as.length = ps.length) :
    PE X (.Call (.Name x p) (e :: es) [] pos) (tE X (EX X.K Ex) Γ (.call x ias)) := by
  have h1 : starEach (e :: es) X.env = (false, eval e X.env) :: starEach es X.env := star_cons (by rw [List.all_cons, Bool.and_eq_true] at hs; exact hs.1)
  have h2 : (backTo pos (starEach es X.env)).any (·.1) = false := star_any (by rw [List.all_cons, Bool.and_eq_true] at hs; exact hs.2)
  refine (pe_call F hr hg hm hk hb .nil hx ha hd h1 h2).weak fun σ H Q ⟨F0, ρ, q⟩ => ?_
  have q : TM X.K (EX X.K Ex) (rlR X.K) (bnd (evAs Γ ias) fun xs => doCall (Γ.call x) xs) F0 ρ σ H Q := q
  rw [hc] at q
  refine ⟨F0, ρ, q.1, ?_⟩
  have q2 := (q.bind (rel1 := rlAs X.K) rlR_t).2
  cases ee : evAs Γ ias ρ with
  | bad => rw [ee] at q2; exact q2
  | exn y ρ' => rw [ee] at q2; exact q2
  | ok as ρ1 =>
    rw [ee] at q2
    intro vs F1 H1 st sr rl
    obtain ⟨as', ρ2, F2, rx, st2, q3⟩ := q2 vs F1 H1 st sr rl
    have hl : vs.length = ps.length := by rw [ArgAll.len rl]; exact hn _ _ _ ee
    obtain ⟨sl, hb, q4⟩ := q3.call rx
    rw [List.append_nil]
    exact ⟨hl, F2, sl, hb, q4⟩
end
end Y

set_option Elab.async false
set_option linter.all false
set_option maxRecDepth 100000
namespace Y
open PySem L2
/-- a step that only makes new frozen things -/
structure Alc (F H F' H' : Hp) : Prop where
  ff : Same F F'
  sub : Same F' H'
  kp : Same H H'
  nf : ∀ b o, F' b = some o → F b = none → H b = none
theorem Alc.refl {F H : Hp} (s : Same F H) : Alc F H F H := ⟨.refl F, s, .refl H, fun b o h n => absurd (h.symm.trans n) (by simp)⟩
section
variable {K : PySem.W.Frag} {F H F' H' : Hp} {ρ : Rho} {σ : St}
theorem Alc.stp (a : Alc F H F' H') (sr : SR K F H ρ σ) : SR K F' H' ρ σ ∧ Stp σ ρ F H σ ρ F' H' := by
  refine ⟨⟨sr.len, a.sub, fun i d h => ?_, fun i p o h => ?_, sr.sep⟩, ⟨a.ff, fun b o h _ => a.kp b o h, fun b o h n => .inl (a.nf b o h n), fun b h => .inl h, fun b h => a.kp.free h, fun i o h => ⟨rfl, o, h⟩, rfl⟩⟩
  · obtain ⟨v, h1, h2⟩ := sr.fz i d h
    exact ⟨v, h1, h2.mono a.ff⟩
  · obtain ⟨c, h1, h2, h3⟩ := sr.own i p o h
    refine ⟨c, h1, ?_, h3.mono a.ff fun u => a.kp c u⟩
    obtain ⟨u, hu⟩ := h3.some
    cases q : F' c with
    | none => rfl
    | some x =>
      have := a.nf c x q h2
      rw [hu] at this; cases this
theorem Alc.newF {p : Addr} {u : HO} (s : Same F H) (n : H p = none) : Alc F H (upd F p u) (upd H p u) := by
  have nF : F p = none := s.free n
  refine ⟨fun b x q => by rw [upd_ne (ne_of_none q nF)]; exact q, fun b x q => ?_, fun b x q => by rw [upd_ne (ne_of_none q n)]; exact q, fun b o h z => ?_⟩
  · by_cases hb : b = p
    · subst hb; rw [upd_same] at q ⊢; exact q
    · rw [upd_ne hb] at q ⊢; exact s b x q
  · by_cases hb : b = p
    · subst hb; exact n
    · rw [upd_ne hb, z] at h; cases h
end
/-- an iterator that yields these data -/
def Yields (K : PySem.W.Frag) (F0 : Hp) (J : L2.It) (ds : List PyData) : Prop := ∀ (i : Nat) (F H : Hp), Same F0 F → Same F H →
  (i < ds.length → J.go i H) ∧ (i = ds.length → J.stop i H) ∧ ∀ x H' d, ds[i]? = some d → J.yld i H x H' → ∃ F', Alc F H F' H' ∧ Rep K F' x d
theorem Yields.mono {K : PySem.W.Frag} {F F' : Hp} {J : L2.It} {ds : List PyData} (h : Yields K F J ds) (s : Same F F') : Yields K F' J ds := fun i G H s1 s2 => h i G H (s.trans s1) s2
section
variable {X : Cx} {E : XW} {Γ : Gam} {K : PySem.W.Frag} {F H : Hp} {ρ : Rho} {σ : St} {tg : Expr}
def rlIt (K : PySem.W.Frag) : Rl (List PyData) L2.It := fun _ _ _ _ F' _ ds J => Yields K F' J ds
theorem rlIt_t {K : PySem.W.Frag} : RlT (rlIt K) := fun _ _ _ _ _ _ _ _ _ _ _ _ _ h => h
variable (X E Γ) in
def tIt (it : Y.It) : TI := fun σ H R => ∃ F ρ, TM X.K E (rlIt X.K) (evIt Γ it) F ρ σ H R
theorem yields_list {a : Addr} {vs : List V} {ds : List PyData} (q : SqL K F a vs) (r : DqAll K F vs ds) : Yields K F (Itl K a) ds := fun i G H s1 s2 => by
  have qH : SqL K H a vs := s2.seq (s1.seq q)
  have hl := dpAll_len r
  refine ⟨fun h => ?_, fun h => ⟨vs, qH, by omega⟩, fun x H' d hd ⟨e, y⟩ => ?_⟩
  · obtain ⟨v, h1, _⟩ := dpAll_get r (List.getElem?_eq_getElem h)
    exact ⟨vs, v, qH, h1⟩
  · subst e
    obtain ⟨v, h1, h2⟩ := dpAll_get r hd
    have := y vs qH
    rw [h1] at this; cases this
    exact ⟨G, .refl s2, Rep.mono h2 s1⟩
theorem yields_tup {a : Addr} {vs : List V} {ds : List PyData} (q : SqT K F a vs) (r : DqAll K F vs ds) : Yields K F (Itt K a) ds := fun i G H s1 s2 => by
  have qH : SqT K H a vs := seqT_mono s2 (seqT_mono s1 q)
  have hl := dpAll_len r
  refine ⟨fun h => ?_, fun h => ⟨vs, qH, by omega⟩, fun x H' d hd ⟨e, y⟩ => ?_⟩
  · obtain ⟨v, h1, _⟩ := dpAll_get r (List.getElem?_eq_getElem h)
    exact ⟨vs, v, qH, h1⟩
  · subst e
    obtain ⟨v, h1, h2⟩ := dpAll_get r hd
    have := y vs qH
    rw [h1] at this; cases this
    exact ⟨G, .refl s2, Rep.mono h2 s1⟩
theorem yields_str {x : Str} : Yields K F (Its x) (x.cps.toList.map fun c => PyData.str ⟨#[c]⟩) := fun i G H s1 s2 => by
  have hl : (x.cps.toList.map fun c => PyData.str ⟨#[c]⟩).length = x.cps.size := by simp
  rw [hl]
  refine ⟨fun h => h, fun h => Nat.le_of_eq h.symm, fun v H' d hd ⟨e, c, hc, y⟩ => ?_⟩
  subst e y
  rw [List.getElem?_map, Array.getElem?_toList, hc] at hd
  cases hd
  exact ⟨G, .refl s2, .str _⟩
theorem yields_rng {lo : Int} {n : Nat} : Yields K F (Itr lo n) (rngD lo n) := fun i G H s1 s2 => by
  have hl : (rngD lo n).length = n := by simp [rngD]
  rw [hl]
  refine ⟨fun h => h, fun h => Nat.le_of_eq h.symm, fun v H' d hd ⟨e, y⟩ => ?_⟩
  subst e y
  unfold rngD at hd
  rw [List.getElem?_map] at hd
  cases hi : (List.range n)[i]? with
  | none => rw [hi] at hd; cases hd
  | some j =>
    rw [hi] at hd
    cases hd
    rw [List.getElem?_range (by
      by_cases h : i < n
      · exact h
      · rw [List.getElem?_eq_none (by simp; omega)] at hi; cases hi)] at hi
    cases hi
    exact ⟨G, .refl s2, .int _⟩
theorem zipD_get : ∀ {ds es : List PyData} {i : Nat} {d : PyData}, (zipD ds es)[i]? = some d → ∃ a b, ds[i]? = some a ∧ es[i]? = some b ∧ d = .tuple [a, b]
  | a :: r, b :: q, 0, d, h => by simp [zipD] at h; exact ⟨a, b, rfl, rfl, h.symm⟩
  | a :: r, b :: q, i + 1, d, h => by
    have h : (zipD r q)[i]? = some d := by simpa [zipD] using h
    obtain ⟨x, y, h1, h2, h3⟩ := zipD_get h
    exact ⟨x, y, by simpa using h1, by simpa using h2, h3⟩
  | [], _, i, d, h => by simp [zipD] at h
  | _ :: _, [], i, d, h => by simp [zipD] at h
theorem zipD_len : ∀ {ds es : List PyData}, (zipD ds es).length = min ds.length es.length
  | [], _ => by simp [zipD]
  | _ :: _, [] => by simp [zipD]
  | a :: r, b :: q => by simp only [zipD, List.length_cons]; rw [zipD_len (ds := r) (es := q)]; omega
theorem yields_zipL {a b : Addr} {vs us : List V} {ds es : List PyData} (q : SqL K F a vs) (r : DqAll K F vs ds) (q' : SqL K F b us) (r' : DqAll K F us es) : Yields K F (Itz K a b) (zipD ds es) := fun i G H s1 s2 => by
  have qH : SqL K H a vs := s2.seq (s1.seq q)
  have qH' : SqL K H b us := s2.seq (s1.seq q')
  have hl := dpAll_len r
  have hl' := dpAll_len r'
  rw [zipD_len]
  refine ⟨fun h => ?_, fun h => ⟨vs, us, qH, qH', by omega⟩, fun x H' d hd ⟨T, x1, y1, e1, n, e2, z1, z2⟩ => ?_⟩
  · obtain ⟨v, h1, _⟩ := dpAll_get r (List.getElem?_eq_getElem (by omega : i < ds.length))
    obtain ⟨u, h2, _⟩ := dpAll_get r' (List.getElem?_eq_getElem (by omega : i < es.length))
    exact ⟨vs, us, v, u, qH, qH', h1, h2⟩
  · subst e1 e2
    obtain ⟨d1, d2, h1, h2, rfl⟩ := zipD_get hd
    obtain ⟨v, g1, g2⟩ := dpAll_get r h1
    obtain ⟨u, g3, g4⟩ := dpAll_get r' h2
    have t1 := z1 vs qH
    have t2 := z2 us qH'
    rw [g1] at t1; cases t1
    rw [g3] at t2; cases t2
    have al := Alc.newF (u := .tup [x1, y1]) s2 n
    exact ⟨_, al, Dq.tup (SqT.of upd_same) (dpAll_mono al.ff (.cons (dp_mono s1 g2) (.cons (dp_mono s1 g4) .nil)))⟩
theorem yields_zipT {a b : Addr} {vs us : List V} {ds es : List PyData} (q : SqT K F a vs) (r : DqAll K F vs ds) (q' : SqT K F b us) (r' : DqAll K F us es) : Yields K F (RZ.ItzT K a b) (zipD ds es) := fun i G H s1 s2 => by
  have qH : SqT K H a vs := seqT_mono s2 (seqT_mono s1 q)
  have qH' : SqT K H b us := seqT_mono s2 (seqT_mono s1 q')
  have hl := dpAll_len r
  have hl' := dpAll_len r'
  rw [zipD_len]
  refine ⟨fun h => ?_, fun h => ⟨vs, us, qH, qH', by omega⟩, fun x H' d hd ⟨T, x1, y1, e1, n, e2, z1, z2⟩ => ?_⟩
  · obtain ⟨v, h1, _⟩ := dpAll_get r (List.getElem?_eq_getElem (by omega : i < ds.length))
    obtain ⟨u, h2, _⟩ := dpAll_get r' (List.getElem?_eq_getElem (by omega : i < es.length))
    exact ⟨vs, us, v, u, qH, qH', h1, h2⟩
  · subst e1 e2
    obtain ⟨d1, d2, h1, h2, rfl⟩ := zipD_get hd
    obtain ⟨v, g1, g2⟩ := dpAll_get r h1
    obtain ⟨u, g3, g4⟩ := dpAll_get r' h2
    have t1 := z1 vs qH
    have t2 := z2 us qH'
    rw [g1] at t1; cases t1
    rw [g3] at t2; cases t2
    have al := Alc.newF (u := .tup [x1, y1]) s2 n
    exact ⟨_, al, Dq.tup (SqT.of upd_same) (dpAll_mono al.ff (.cons (dp_mono s1 g2) (.cons (dp_mono s1 g4) .nil)))⟩
/-- the outcome of a computation is known ahead -/
theorem TM.split {α β : Type} {rel : Rl α β} {m : M α} {Q : β → Hp → Prop} (h : TM K E rel m F ρ σ H Q) : (∃ a ρ', m ρ = .ok a ρ') ∨ ((∃ x ρ', m ρ = .exn x ρ') ∧ ∀ {γ : Type} (rel' : Rl α γ) (Q' : γ → Hp → Prop), TM K E rel' m F ρ σ H Q') := by
  cases e : m ρ with
  | ok a ρ' => exact .inl ⟨a, ρ', rfl⟩
  | bad => exact absurd h.2 (by rw [e]; exact id)
  | exn x ρ' =>
    refine .inr ⟨⟨x, ρ', rfl⟩, fun rel' Q' => ⟨h.1, ?_⟩⟩
    have := h.2
    rw [e] at this ⊢
    exact this
theorem TM.known {α β : Type} {rel : Rl α β} {m : M α} {Q Q' : β → Hp → Prop} {a : α} {ρ' : Rho} (h : TM K E rel m F ρ σ H Q) (e : m ρ = .ok a ρ') (w : ∀ b F' H', Stp σ ρ F H σ ρ' F' H' → SR K F' H' ρ' σ → rel σ ρ H ρ' F' H' a b → Q b H' → Q' b H') : TM K E rel m F ρ σ H Q' := by
  obtain ⟨sr, h⟩ := h
  refine ⟨sr, ?_⟩
  rw [e] at h ⊢
  exact fun b F' H' st sr' rl => w b F' H' st sr' rl (h b F' H' st sr' rl)
theorem bnd_exn {α β : Type} {m : M α} {f : α → M β} {x : Exn} {ρ ρ' : Rho} (e : m ρ = .exn x ρ') : bnd m f ρ = .exn x ρ' := by unfold bnd; rw [e]
theorem bnd_ok {α β : Type} {m : M α} {f : α → M β} {a : α} {ρ ρ' : Rho} (e : m ρ = .ok a ρ') : bnd m f ρ = f a ρ' := by unfold bnd; rw [e]
theorem TM.of_exn {α β γ δ : Type} {rel : Rl β γ} {rel' : Rl α δ} {m : M α} {f : α → M β} {Q : γ → Hp → Prop} {Q' : δ → Hp → Prop} {x : Exn} {ρ' : Rho} (h : TM K E rel (bnd m f) F ρ σ H Q) (e : m ρ = .exn x ρ') : TM K E rel' m F ρ σ H Q' := by
  refine ⟨h.1, ?_⟩
  have := h.2
  rw [bnd_exn e] at this
  rw [e]
  exact this
theorem q_seq {l : Expr} {e : Y.E} (hl : PE X l (tV X E Γ e)) : PI X tg l (tIt X E Γ (.seq e)) := by
  refine ⟨fun pins s σ H R I ⟨F, ρ, q⟩ => ?_⟩
  have q : TM X.K E (rlIt X.K) (bnd (asV e (ev Γ e)) fun d => ofO (seqD d)) F ρ σ H R := q
  cases ee : asV e (ev Γ e) ρ with
  | bad => exact absurd q.2 (by unfold bnd; rw [ee]; exact id)
  | exn x ρ' => exact (pi_list (tg := tg) hl).run pins s σ H R I ⟨F, ρ, q.of_exn ee⟩
  | ok d ρ' =>
    have q2 := TM.bind (rel1 := rlD X.K) rlIt_t q
    cases d with
    | list xs =>
      refine (pi_list (tg := tg) hl).run pins s σ H R I ⟨F, ρ, q2.known ee fun v F' H' st sr rl q3 => ?_⟩
      cases (show Dq X.K F' v (.list xs) from rl) with
      | lst h1 h2 =>
        refine ⟨_, rfl, ⟨_, sr.sub.seq h1⟩, ?_⟩
        obtain ⟨sr0, h0⟩ := q
        rw [bnd_ok ee] at h0
        exact h0 _ F' H' st sr (yields_list h1 h2)
    | tuple xs =>
      refine (pi_tup (tg := tg) hl).run pins s σ H R I ⟨F, ρ, q2.known ee fun v F' H' st sr rl q3 => ?_⟩
      cases (show Dq X.K F' v (.tuple xs) from rl) with
      | tup h1 h2 =>
        refine ⟨_, rfl, ⟨_, seqT_mono sr.sub h1⟩, ?_⟩
        obtain ⟨sr0, h0⟩ := q
        rw [bnd_ok ee] at h0
        exact h0 _ F' H' st sr (yields_tup h1 h2)
    | str x =>
      refine (pi_str (tg := tg) hl).run pins s σ H R I ⟨F, ρ, q2.known ee fun v F' H' st sr rl q3 => ?_⟩
      cases (show Dq X.K F' v (.str x) from rl)
      refine ⟨x, rfl, ?_⟩
      obtain ⟨sr0, h0⟩ := q
      rw [bnd_ok ee] at h0
      exact h0 _ F' H' st sr yields_str
    | dict kvs => exact absurd q.2 (by rw [bnd_ok ee]; exact id)
    | none => exact absurd q.2 (by rw [bnd_ok ee]; exact id)
    | bool b => exact absurd q.2 (by rw [bnd_ok ee]; exact id)
    | int b => exact absurd q.2 (by rw [bnd_ok ee]; exact id)
theorem okRng_of {i : Int} (h : okRng i = true) : -(2 ^ 62) ≤ i ∧ i < 2 ^ 62 := by
  unfold okRng at h
  rw [Bool.and_eq_true] at h
  exact ⟨of_decide_eq_true h.1, of_decide_eq_true h.2⟩
theorem q_rng1 {a : Expr} {ia : Y.E} {p pos : Pos} (hg : Gl X "range") (hm : X.mg "range" = none) (ha : PE X a (tE X E Γ ia)) (hs : notStar a = true) : PI X tg (.Call (.Name "range" p) [a] [] pos) (tIt X E Γ (.rng1 ia)) := by
  refine ⟨fun pins s σ H R I ⟨F, ρ, q⟩ => ?_⟩
  refine (pi_range1 (tg := tg) hg hm (pa_cons ha pa_nil (star_cons hs)) (by rw [star_cons hs]; rfl)).run pins s σ H R I ?_
  refine ⟨F, ρ, (TM.bind rlIt_t q).post fun x H1 ⟨r, ρ1, F1, rx, st, q1⟩ => ?_⟩
  cases r with
  | own o => exact False.elim q1.2
  | fz d =>
    cases d with
    | int j =>
      cases (show Dq X.K F1 x (.int j) from rx)
      by_cases hj : okRng j = true
      · have q1 : TM X.K E (rlIt X.K) (if okRng j = true then ret (rngD 0 j.toNat) else Y.bad) F1 ρ1 σ H1 R := q1
        rw [if_pos hj] at q1
        obtain ⟨h1, h2⟩ := okRng_of hj
        exact ⟨j, rfl, h1, h2, q1.ret yields_rng⟩
      · have q1 : TM X.K E (rlIt X.K) (if okRng j = true then ret (rngD 0 j.toNat) else Y.bad) F1 ρ1 σ H1 R := q1
        rw [if_neg hj] at q1
        exact False.elim q1.2
    | _ => exact False.elim q1.2
theorem q_rng2 {a b : Expr} {ia ib : Y.E} {p pos : Pos} (hg : Gl X "range") (hm : X.mg "range" = none) (ha : PE X a (tE X E Γ ia)) (hb : PE X b (tE X E Γ ib)) (hs : notStar a = true) (hs' : notStar b = true) : PI X tg (.Call (.Name "range" p) [a, b] [] pos) (tIt X E Γ (.rng2 ia ib)) := by
  refine ⟨fun pins s σ H R I ⟨F, ρ, q⟩ => ?_⟩
  refine (pi_range2 (tg := tg) hg hm (pa_cons ha (pa_cons hb pa_nil (star_cons hs')) (star_cons hs)) (by rw [star_cons hs, star_cons hs']; rfl) (by rw [star_cons hs']; rfl)).run pins s σ H R I ?_
  refine ⟨F, ρ, (TM.bind rlIt_t q).post fun x H1 ⟨r, ρ1, F1, rx, st, q1⟩ => ?_⟩
  cases r with
  | own o => exact False.elim q1.2
  | fz d =>
    cases d with
    | int i =>
      cases (show Dq X.K F1 x (.int i) from rx)
      refine ⟨F1, ρ1, (TM.bind rlIt_t q1).post fun y H2 ⟨r, ρ2, F2, ry, st2, q2⟩ => ?_⟩
      cases r with
      | own o => exact False.elim q2.2
      | fz d =>
        cases d with
        | int j =>
          cases (show Dq X.K F2 y (.int j) from ry)
          have q2 : TM X.K E (rlIt X.K) (if (okRng i && okRng j) = true then ret (rngD i (j - i).toNat) else Y.bad) F2 ρ2 σ H2 R := q2
          by_cases hj : (okRng i && okRng j) = true
          · rw [if_pos hj] at q2
            rw [Bool.and_eq_true] at hj
            obtain ⟨h1, h2⟩ := okRng_of hj.1
            obtain ⟨h3, h4⟩ := okRng_of hj.2
            exact ⟨i, j, rfl, ⟨h1, h2, h3, h4⟩, q2.ret yields_rng⟩
          · rw [if_neg hj] at q2
            exact False.elim q2.2
        | _ => exact False.elim q2.2
    | _ => exact False.elim q1.2
end
end Y

set_option Elab.async false
set_option linter.all false
set_option maxRecDepth 100000
namespace Y
open PySem L2
/-- a result, against the start -/
def rlX (K : PySem.W.Frag) (σ : St) (ρ : Rho) (H : Hp) (σ' : St) (ρ' : Rho) (F' H' : Hp) (r : R) (v : V) : Prop := match r with
  | .fz d => Rep K F' v d
  | .own o => ∃ a, v = .ref a ∧ F' a = none ∧ ObjR K F' H' a o ∧ ¬ Owned ρ' σ' a ∧ (H a = none ∨ Owned ρ σ a)
def EndF (K : PySem.W.Frag) (D : Ends) (σ : St) (ρ : Rho) (H : Hp) (σ' : St) (ρ' : Rho) (F' H' : Hp) : Fl → Prop
  | .nx => D.nx σ' H'
  | .bk => D.bk σ' H'
  | .ct => D.ct σ' H'
  | .rt r => ∀ v, rlX K σ ρ H σ' ρ' F' H' r v → D.rt v H'
def TMS (K : PySem.W.Frag) (E : XW) (m : M Fl) (F : Hp) (ρ : Rho) (D : Ends) (σ : St) (H : Hp) : Prop := SR K F H ρ σ ∧ match m ρ with
  | .ok fl ρ' => ∀ σ' F' H', Stp σ ρ F H σ' ρ' F' H' → SR K F' H' ρ' σ' → EndF K D σ ρ H σ' ρ' F' H' fl
  | .exn x ρ' => XP K E σ ρ F H x ρ'
  | .bad => False
section
variable {X : Cx} {E : XW} {Γ : Gam} {K : PySem.W.Frag} {F H F' H' : Hp} {ρ ρ' : Rho} {σ σ' : St} {D : Ends}
theorem rlX_step {σ1 : St} {ρ1 : Rho} {F1 H1 : Hp} {r : R} {v : V} (st : Stp σ ρ F H σ1 ρ1 F1 H1) (h : rlX K σ1 ρ1 H1 σ' ρ' F' H' r v) : rlX K σ ρ H σ' ρ' F' H' r v := by
  cases r with
  | fz d => exact h
  | own o =>
    obtain ⟨a, e, n, q, w, z⟩ := h
    refine ⟨a, e, n, q, w, ?_⟩
    rcases z with z | z
    · exact .inl (st.mo a z)
    · exact (st.no a z).symm
theorem EndF.step {σ1 : St} {ρ1 : Rho} {F1 H1 : Hp} {fl : Fl} (st : Stp σ ρ F H σ1 ρ1 F1 H1) (h : EndF K D σ ρ H σ' ρ' F' H' fl) : EndF K D σ1 ρ1 H1 σ' ρ' F' H' fl := by
  cases fl with
  | rt r => exact fun v q => h v (rlX_step st q)
  | _ => exact h
/-- behind a computation that ran to (σ1, ρ1) -/
theorem TMS.go {α : Type} {m : M α} {f : α → M Fl} {a : α} {σ1 : St} {ρ1 : Rho} {F1 H1 : Hp} (h : TMS K E (bnd m f) F ρ D σ H) (e : m ρ = .ok a ρ1) (st : Stp σ ρ F H σ1 ρ1 F1 H1) (sr : SR K F1 H1 ρ1 σ1) : TMS K E (f a) F1 ρ1 D σ1 H1 := by
  obtain ⟨_, h⟩ := h
  rw [bnd_ok e] at h
  refine ⟨sr, ?_⟩
  cases e2 : f a ρ1 with
  | bad => rw [e2] at h; exact h
  | exn x ρ' => rw [e2] at h; exact h.step st
  | ok fl ρ2 =>
    rw [e2] at h
    exact fun σ' F' H' st2 sr2 => (h σ' F' H' (st.trans st2) sr2).step st
theorem TMS.bind {α γ : Type} {rel : Rl α γ} {m : M α} {f : α → M Fl} (h : TMS K E (bnd m f) F ρ D σ H) :
    TM K E rel m F ρ σ H fun b H1 => ∃ a ρ1 F1, rel σ ρ H ρ1 F1 H1 a b ∧ Stp σ ρ F H σ ρ1 F1 H1 ∧ TMS K E (f a) F1 ρ1 D σ H1 := by
  refine ⟨h.1, ?_⟩
  cases e : m ρ with
  | bad => have := h.2; rw [show bnd m f ρ = .bad from by unfold bnd; rw [e]] at this; exact this
  | exn x ρ' => have := h.2; rw [bnd_exn e] at this; exact this
  | ok a ρ1 => exact fun b F1 H1 st sr rl => ⟨a, ρ1, F1, rl, st, h.go e st sr⟩
theorem TMS.nx (h : TMS K E (ret .nx) F ρ D σ H) : D.nx σ H := h.2 σ F H .refl h.1
theorem TMS.ofO {α : Type} {o : Option α} {f : α → M Fl} (h : TMS K E (bnd (Y.ofO o) f) F ρ D σ H) : ∃ a, o = some a ∧ TMS K E (f a) F ρ D σ H := by
  cases o with
  | none => exact False.elim h.2
  | some a => exact ⟨a, rfl, h.go rfl .refl h.1⟩

/-! ### stores -/
theorem get_set_cases {α : Type} {l : List α} {i j : Nat} {x y : α} (hi : i < l.length) (q : (l.set i x)[j]? = some y) : (i = j ∧ y = x) ∨ (i ≠ j ∧ l[j]? = some y) := by
  by_cases hj : i = j
  · subst hj
    rw [List.getElem?_set_self hi] at q
    cases q
    exact .inl ⟨rfl, rfl⟩
  · rw [List.getElem?_set_ne hj] at q
    exact .inr ⟨hj, q⟩
/-- a name is given data -/
theorem SR.putF {i : Nat} {v : V} {d : PyData} (sr : SR K F H ρ σ) (hi : i < ρ.length) (r : Rep K F v d) : SR K F H (ρ.set i (.fz d)) (σ.set i (some v)) ∧ Stp σ ρ F H (σ.set i (some v)) (ρ.set i (.fz d)) F H := by
  have hiσ : i < σ.length := by rw [← sr.len]; exact hi
  have own : ∀ {j : Nat} {p : Bool} {o : O}, (ρ.set i (.fz d))[j]? = some (.own p o) → i ≠ j ∧ ρ[j]? = some (.own p o) := fun {j p o} q => by
    rcases get_set_cases hi q with ⟨_, e⟩ | h
    · cases e
    · exact h
  refine ⟨⟨by rw [List.length_set, List.length_set]; exact sr.len, sr.sub, fun j e q => ?_, fun j p o q => ?_, fun j k p o p' o' a q1 q2 q3 q4 => ?_⟩, ⟨.refl F, fun _ _ h _ => h, fun b o h n => absurd (h.symm.trans n) (by simp), fun b ⟨j, p, o, q1, q2⟩ => ?_, fun _ h => h, fun j o q => ?_, List.length_set⟩⟩
  · rcases get_set_cases hi q with ⟨rfl, e⟩ | ⟨hj, q⟩
    · cases e
      exact ⟨v, List.getElem?_set_self hiσ, r⟩
    · rw [List.getElem?_set_ne hj]
      exact sr.fz j e q
  · obtain ⟨hj, q⟩ := own q
    rw [List.getElem?_set_ne hj]
    exact sr.own j p o q
  · obtain ⟨hj, q1⟩ := own q1
    obtain ⟨hk, q2⟩ := own q2
    rw [List.getElem?_set_ne hj] at q3
    rw [List.getElem?_set_ne hk] at q4
    exact sr.sep j k p o p' o' a q1 q2 q3 q4
  · obtain ⟨hj, q1⟩ := own q1
    rw [List.getElem?_set_ne hj] at q2
    exact .inl ⟨j, p, o, q1, q2⟩
  · obtain ⟨hj, q1⟩ := own q
    rw [List.getElem?_set_ne hj]
    exact ⟨rfl, o, q1⟩
/-- a name is given a result -/
theorem SR.putR {i : Nat} {v : V} {r : R} {σ0 : St} {ρ0 : Rho} {F0 H0 : Hp} (st : Stp σ0 ρ0 F0 H0 σ ρ F H) (sr : SR K F H ρ σ) (hi : i < ρ.length) (q : rlX K σ0 ρ0 H0 σ ρ F H r v) : SR K F H (ρ.set i r.slot) (σ.set i (some v)) ∧ Stp σ0 ρ0 F0 H0 (σ.set i (some v)) (ρ.set i r.slot) F H := by
  cases r with
  | fz d =>
    obtain ⟨h1, h2⟩ := sr.putF hi q
    exact ⟨h1, st.trans h2⟩
  | own ob =>
    obtain ⟨a, rfl, hn, hO, hw, hz⟩ := q
    have hiσ : i < σ.length := by rw [← sr.len]; exact hi
    have own : ∀ {j : Nat} {p : Bool} {o : O}, (ρ.set i (.own false ob))[j]? = some (.own p o) → (i = j ∧ p = false ∧ o = ob) ∨ (i ≠ j ∧ ρ[j]? = some (.own p o)) := fun {j p o} q => by
      rcases get_set_cases hi q with ⟨e, e2⟩ | h
      · cases e2; exact .inl ⟨e, rfl, rfl⟩
      · exact .inr h
    show SR K F H (ρ.set i (.own false ob)) _ ∧ Stp σ0 ρ0 F0 H0 _ (ρ.set i (.own false ob)) F H
    refine ⟨⟨by rw [List.length_set, List.length_set]; exact sr.len, sr.sub, fun j e q => ?_, fun j p o q => ?_, fun j k p o p' o' b q1 q2 q3 q4 => ?_⟩, ⟨st.ff, st.kp, st.nf, fun b ⟨j, p, o, q1, q2⟩ => ?_, st.mo, fun j o q => ?_, by rw [List.length_set]; exact st.ln⟩⟩
    · rcases get_set_cases hi q with ⟨_, e⟩ | ⟨hj, q⟩
      · cases e
      · rw [List.getElem?_set_ne hj]
        exact sr.fz j e q
    · rcases own q with ⟨rfl, rfl, rfl⟩ | ⟨hj, q⟩
      · exact ⟨a, List.getElem?_set_self hiσ, hn, hO⟩
      · rw [List.getElem?_set_ne hj]
        exact sr.own j p o q
    · rcases own q1 with ⟨rfl, rfl, rfl⟩ | ⟨hj, q5⟩
      · rcases own q2 with ⟨rfl, rfl, rfl⟩ | ⟨hk, q6⟩
        · rfl
        · rw [List.getElem?_set_self hiσ] at q3
          cases q3
          rw [List.getElem?_set_ne hk] at q4
          exact absurd ⟨k, p', o', q6, q4⟩ hw
      · rw [List.getElem?_set_ne hj] at q3
        rcases own q2 with ⟨rfl, rfl, rfl⟩ | ⟨hk, q6⟩
        · rw [List.getElem?_set_self hiσ] at q4
          cases q4
          exact absurd ⟨j, p, o, q5, q3⟩ hw
        · rw [List.getElem?_set_ne hk] at q4
          exact sr.sep j k p o p' o' b q5 q6 q3 q4
    · rcases own q1 with ⟨rfl, rfl, rfl⟩ | ⟨hj, q1⟩
      · rw [List.getElem?_set_self hiσ] at q2
        cases q2
        exact hz.symm
      · rw [List.getElem?_set_ne hj] at q2
        exact st.no b ⟨j, p, o, q1, q2⟩
    · rcases own q with ⟨_, h, _⟩ | ⟨hj, q⟩
      · cases h
      · rw [List.getElem?_set_ne hj]
        exact st.pin j o q

/-! ### targets -/
/-- only these slots are others -/
def Only (vs : List Nat) (σ σ' : St) : Prop := σ'.length = σ.length ∧ ∀ j : Nat, j ∉ vs → σ'[j]? = σ[j]?
mutual
def pvars : Pat → List Nat
  | .nm i => [i]
  | .tup ps => pvarsL ps
def pvarsL : List Pat → List Nat
  | [] => []
  | p :: ps => pvars p ++ pvarsL ps
end
def TMG (K : PySem.W.Frag) (vs : List Nat) (m : M Unit) (F : Hp) (ρ : Rho) (σ : St) (H : Hp) (Q : St → Hp → Prop) : Prop := SR K F H ρ σ ∧ match m ρ with
  | .ok _ ρ' => ∀ σ' F' H', Only vs σ σ' → Stp σ ρ F H σ' ρ' F' H' → SR K F' H' ρ' σ' → Q σ' H'
  | _ => False
variable (X) in
def tPat (p : Pat) : TG := fun v σ H Q => ∃ F ρ d, Rep X.K F v d ∧ TMG X.K (pvars p) (setPat p d) F ρ σ H Q
variable (X) in
def tPats (ps : List Pat) : TGs := fun vs σ H Q => ∃ F ρ ds, DqAll X.K F vs ds ∧ TMG X.K (pvarsL ps) (setPats ps ds) F ρ σ H Q
theorem _root_.L2.PG.weak {X : Cx} {e : Expr} {t t' : TG} (h : PG X e t) (w : ∀ v σ H Q, t' v σ H Q → t v σ H Q) : PG X e t' := ⟨fun pins s σ H v u Q I r q => h.run pins s σ H v u Q I r (w v σ H Q q)⟩
theorem _root_.L2.PGs.weak {X : Cx} {e : List Expr} {t t' : TGs} (h : PGs X e t) (w : ∀ v σ H Q, t' v σ H Q → t v σ H Q) : PGs X e t' := ⟨fun pins s σ H v u Q I r q => h.run pins s σ H v u Q I r (w v σ H Q q)⟩
theorem q_nm {i : Nat} {x : Str} {pos : Pos} (hN : X.N.Nodup) (hi : X.N[i]? = some x) (hx : Loc X.env.scope x) (hf : X.fn x = true ∨ X.env.scope.names.lookup x = some .local) : PG X (.Name x pos) (tPat X (.nm i)) := by
  refine (pg_name hN hi hx hf).weak fun v σ H Q ⟨F, ρ, d, r, sr, h⟩ => ?_
  have h : (match (if i < ρ.length then Out.ok () (ρ.set i (.fz d)) else Out.bad : Out Unit) with
    | .ok _ ρ' => ∀ σ' F' H', Only [i] σ σ' → Stp σ ρ F H σ' ρ' F' H' → SR X.K F' H' ρ' σ' → Q σ' H'
    | _ => False) := by
    have h2 := h
    unfold setPat pvars at h2
    exact h2
  by_cases hl : i < ρ.length
  · rw [if_pos hl] at h
    obtain ⟨h1, h2⟩ := sr.putF hl r
    exact h _ F H ⟨List.length_set, fun j hj => List.getElem?_set_ne fun e => hj (by simp [e])⟩ h2 h1
  · rw [if_neg hl] at h
    exact False.elim h
theorem q_pnil : PGs X [] (tPats X []) := by
  refine pgs_nil.weak fun vs σ H Q ⟨F, ρ, ds, r, sr, h⟩ => ?_
  cases r with
  | nil =>
    unfold setPats at h
    exact ⟨rfl, h σ F H ⟨rfl, fun _ _ => rfl⟩ .refl sr⟩
  | cons a b =>
    unfold setPats at h
    exact False.elim h
theorem assignEach_cons {e : Expr} {es : List Expr} {env : Env} (h : notStar e = true) : assignEach (e :: es) env = (false, assign e env) :: assignEach es env := by
  cases e <;> first | rfl | exact absurd (show false = true from h) Bool.false_ne_true
theorem assignEach_all {es : List Expr} {env : Env} (h : es.all notStar = true) : (assignEach es env).length = es.length ∧ (assignEach es env).findIdx? (·.1) = none := by
  induction es with
  | nil => exact ⟨rfl, rfl⟩
  | cons e es ih =>
    rw [List.all_cons, Bool.and_eq_true] at h
    obtain ⟨h1, h2⟩ := ih h.2
    rw [assignEach_cons h.1]
    refine ⟨by simp [h1], ?_⟩
    rw [List.findIdx?_cons]
    simp [h2]
theorem q_pcons {e : Expr} {es : List Expr} {p : Pat} {ps : List Pat} (h1 : PG X e (tPat X p)) (h2 : PGs X es (tPats X ps)) (hs : notStar e = true) : PGs X (e :: es) (tPats X (p :: ps)) := by
  refine (pgs_cons h1 h2 (by rw [assignEach_cons hs]; rfl)).weak fun vs σ H Q ⟨F, ρ, ds, r, sr, h⟩ => ?_
  cases r with
  | nil => unfold setPats at h; exact False.elim h
  | @cons v vs d ds a b =>
    have h : (match bnd (setPat p d) (fun _ => setPats ps ds) ρ with
      | .ok _ ρ' => ∀ σ' F' H', Only (pvars p ++ pvarsL ps) σ σ' → Stp σ ρ F H σ' ρ' F' H' → SR X.K F' H' ρ' σ' → Q σ' H'
      | _ => False) := by
      have h2 := h
      unfold setPats pvarsL at h2
      exact h2
    refine ⟨v, vs, rfl, F, ρ, d, a, sr, ?_⟩
    unfold bnd at h
    cases e1 : setPat p d ρ with
    | bad => rw [e1] at h; exact h
    | exn x ρ' => rw [e1] at h; exact h
    | ok u ρ1 =>
      rw [e1] at h
      dsimp only at h ⊢
      refine fun σ1 F1 H1 on1 st sr1 => ⟨F1, ρ1, ds, dpAll_mono st.ff b, sr1, ?_⟩
      cases e2 : setPats ps ds ρ1 with
      | bad => rw [e2] at h; exact h
      | exn x ρ' => rw [e2] at h; exact h
      | ok u ρ2 =>
        rw [e2] at h
        exact fun σ2 F2 H2 on2 st2 sr2 => h σ2 F2 H2 ⟨on2.1.trans on1.1, fun j hj => by
          rw [List.mem_append, not_or] at hj
          exact (on2.2 j hj.2).trans (on1.2 j hj.1)⟩ (st.trans st2) sr2
theorem setPats_len : ∀ {ps : List Pat} {ds : List PyData} {ρ ρ' : Rho}, setPats ps ds ρ = .ok () ρ' → ds.length = ps.length
  | [], [], _, _, _ => rfl
  | [], _ :: _, _, _, h => by unfold setPats at h; cases h
  | _ :: _, [], _, _, h => by unfold setPats at h; cases h
  | p :: ps, d :: ds, ρ, ρ', h => by
    unfold setPats bnd at h
    cases e : setPat p d ρ with
    | bad => rw [e] at h; cases h
    | exn x ρ1 => rw [e] at h; cases h
    | ok u ρ1 => rw [e] at h; exact congrArg (· + 1) (setPats_len h)
theorem q_ptup {es : List Expr} {k : Nat} {pos : Pos} {ps : List Pat} (hc : X.calm = true) (h : PGs X es (tPats X ps)) (hs : es.all notStar = true) (hl : ps.length = es.length) : PG X (.Tuple es k pos) (tPat X (.tup ps)) := by
  obtain ⟨n1, n2⟩ := assignEach_all (env := X.env) hs
  refine (pg_tup hc h n1 n2).weak fun v σ H Q ⟨F, ρ, d, r, sr, q⟩ => ?_
  cases d with
  | tuple ds =>
    unfold setPat pvars at q
    cases (show Dq X.K F v (.tuple ds) from r) with
    | tup h1 h2 =>
      refine ⟨_, _, rfl, seqT_mono sr.sub h1, ?_, F, ρ, ds, h2, sr, q⟩
      cases e : setPats ps ds ρ with
      | bad => rw [e] at q; exact False.elim q
      | exn x ρ' => rw [e] at q; exact False.elim q
      | ok u ρ' => rw [dpAll_len h2, setPats_len e]; exact hl
  | _ => unfold setPat at q; exact False.elim q

mutual
theorem setPat_exn : ∀ (p : Pat) (d : PyData) (ρ : Rho) (x : Exn) (ρ' : Rho), setPat p d ρ ≠ .exn x ρ'
  | .nm i, d, ρ, x, ρ' => by
    unfold setPat
    split
    · exact fun h => by cases h
    · exact fun h => by cases h
  | .tup ps, .tuple ds, ρ, x, ρ' => by
    unfold setPat
    exact setPats_exn ps ds ρ x ρ'
  | .tup ps, .list ds, ρ, x, ρ' => by unfold setPat; exact fun h => by cases h
  | .tup ps, .none, ρ, x, ρ' => by unfold setPat; exact fun h => by cases h
  | .tup ps, .bool _, ρ, x, ρ' => by unfold setPat; exact fun h => by cases h
  | .tup ps, .int _, ρ, x, ρ' => by unfold setPat; exact fun h => by cases h
  | .tup ps, .str _, ρ, x, ρ' => by unfold setPat; exact fun h => by cases h
  | .tup ps, .dict _, ρ, x, ρ' => by unfold setPat; exact fun h => by cases h
theorem setPats_exn : ∀ (ps : List Pat) (ds : List PyData) (ρ : Rho) (x : Exn) (ρ' : Rho), setPats ps ds ρ ≠ .exn x ρ'
  | [], [], ρ, x, ρ' => by unfold setPats; exact fun h => by cases h
  | [], _ :: _, ρ, x, ρ' => by unfold setPats; exact fun h => by cases h
  | _ :: _, [], ρ, x, ρ' => by unfold setPats; exact fun h => by cases h
  | p :: ps, d :: ds, ρ, x, ρ' => by
    unfold setPats bnd
    cases e : setPat p d ρ with
    | bad => exact fun h => by cases h
    | exn y ρ1 => exact absurd e (setPat_exn p d ρ y ρ1)
    | ok u ρ1 => exact setPats_exn ps ds ρ1 x ρ'
end

/-! ### statements -/
variable (X E Γ) in
def tS (s : Y.S) : TS := fun D σ H => ∃ F ρ, TMS X.K E (ex Γ s) F ρ D σ H
variable (X E Γ) in
def tSs (s : Ss) : TS := fun D σ H => ∃ F ρ, TMS X.K E (exs Γ s) F ρ D σ H
theorem qs_nil : PSs X [] (tSs X E Γ .nil) := pss_nil.weak fun D σ H ⟨F, ρ, q⟩ => q.nx
theorem qs_cons {st : Stmt} {rest : List Stmt} {a : Y.S} {b : Ss} (h1 : PS X st (tS X E Γ a)) (h2 : PSs X rest (tSs X E Γ b)) : PSs X (st :: rest) (tSs X E Γ (.cons a b)) := by
  refine (pss_cons h1 h2).weak fun D σ H ⟨F, ρ, q⟩ => ?_
  refine ⟨F, ρ, q.1, ?_⟩
  have q : TMS X.K E (bnd (ex Γ a) (thenK (exs Γ b))) F ρ D σ H := by
    have q2 := q
    unfold exs at q2
    exact q2
  cases e : ex Γ a ρ with
  | bad => have := q.2; rw [show bnd (ex Γ a) _ ρ = .bad from by unfold bnd; rw [e]] at this; exact this
  | exn x ρ' => have := q.2; rw [bnd_exn e] at this; exact this
  | ok fl ρ1 =>
    cases fl with
    | nx => exact fun σ1 F1 H1 st sr => ⟨F1, ρ1, q.go e st sr⟩
    | bk => have := q.2; rw [bnd_ok e] at this; exact this
    | ct => have := q.2; rw [bnd_ok e] at this; exact this
    | rt r => have := q.2; rw [bnd_ok e] at this; exact this
theorem q_set {i : Nat} {x : Str} {e : Expr} {ie : Y.E} {pos pos' : Pos} (hN : X.N.Nodup) (hi : X.N[i]? = some x) (hx : Loc X.env.scope x) (he : PE X e (tE X E Γ ie)) (hs : swapsWith e (some (.Name x pos')) pos.line X.env = pure false) (hf : X.fn x = true ∨ X.env.scope.names.lookup x = some .local) :
    PS X (.Assign [.Name x pos'] e pos) (tS X E Γ (.set i ie)) := by
  refine (ps_set hN hi hx he hs hf).weak fun D σ H ⟨F, ρ, q⟩ => ?_
  have q : TMS X.K E (bnd (ev Γ ie) fun r ρ => if i < ρ.length then .ok .nx (ρ.set i r.slot) else .bad) F ρ D σ H := by
    have q2 := q
    unfold ex at q2
    exact q2
  refine ⟨F, ρ, q.1, ?_⟩
  cases e : ev Γ ie ρ with
  | bad => have := q.2; rw [show bnd (ev Γ ie) _ ρ = .bad from by unfold bnd; rw [e]] at this; exact this
  | exn x ρ' => have := q.2; rw [bnd_exn e] at this; exact this
  | ok r ρ1 =>
    intro v F1 H1 st sr rl
    have h := q.2
    rw [bnd_ok e] at h
    by_cases hl : i < ρ1.length
    · rw [if_pos hl] at h
      obtain ⟨h1, h2⟩ := SR.putR (r := r) (v := v) st sr hl (by cases r <;> exact rl)
      exact h _ F1 H1 h2 h1
    · rw [if_neg hl] at h
      exact False.elim h
theorem q_ret {e : Expr} {ie : Y.E} {pos : Pos} (he : PE X e (tE X E Γ ie)) : PS X (.Return (some e) pos) (tS X E Γ (.ret ie)) := by
  refine (ps_ret he).weak fun D σ H ⟨F, ρ, q⟩ => ?_
  have q : TMS X.K E (bnd (ev Γ ie) fun r => ret (.rt r)) F ρ D σ H := by
    have q2 := q
    unfold ex at q2
    exact q2
  refine ⟨F, ρ, q.1, ?_⟩
  cases e : ev Γ ie ρ with
  | bad => have := q.2; rw [show bnd (ev Γ ie) _ ρ = .bad from by unfold bnd; rw [e]] at this; exact this
  | exn x ρ' => have := q.2; rw [bnd_exn e] at this; exact this
  | ok r ρ1 =>
    intro v F1 H1 st sr rl
    have h := q.2
    rw [bnd_ok e] at h
    exact h σ F1 H1 st sr v (by cases r <;> exact rl)
theorem q_retn {pos : Pos} : PS X (.Return none pos) (tS X E Γ .retn) := ps_retN.weak fun D σ H ⟨F, ρ, q⟩ => by
  have h := q.2
  unfold ex at h
  exact h σ F H .refl q.1 .non .non
theorem q_exp {e : Expr} {ie : Y.E} {pos : Pos} (he : PE X e (tE X E Γ ie)) (hs : swapsWith e none pos.line X.env = pure false) : PS X (.Expr e pos) (tS X E Γ (.exp ie)) := by
  refine (ps_expr he hs).weak fun D σ H ⟨F, ρ, q⟩ => ?_
  have q : TMS X.K E (bnd (ev Γ ie) fun _ => ret .nx) F ρ D σ H := by
    have q2 := q
    unfold ex at q2
    exact q2
  exact ⟨F, ρ, (TMS.bind q).post fun x H1 ⟨r, ρ1, F1, rx, st, q1⟩ => q1.nx⟩
theorem q_pss {pos : Pos} : PS X (.Pass pos) (tS X E Γ .pss) := ps_pass.weak fun D σ H ⟨F, ρ, q⟩ => by
  have h := q.2
  unfold ex at h
  exact h σ F H .refl q.1
theorem q_brk {pos : Pos} : PS X (.Break pos) (tS X E Γ .brk) := ps_break.weak fun D σ H ⟨F, ρ, q⟩ => by
  have h := q.2
  unfold ex at h
  exact h σ F H .refl q.1
theorem q_cnt {pos : Pos} : PS X (.Continue pos) (tS X E Γ .cnt) := ps_continue.weak fun D σ H ⟨F, ρ, q⟩ => by
  have h := q.2
  unfold ex at h
  exact h σ F H .refl q.1
theorem qs_ife {c : Expr} {a b : List Stmt} {ic : Y.E} {ia ib : Ss} {pos : Pos} (hc : PT X c (tT X E Γ ic)) (ha : PSs X a (tSs X E Γ ia)) (hb : PSs X b (tSs X E Γ ib)) : PS X (.If c a b pos) (tS X E Γ (.ife ic ia ib)) := by
  refine (ps_if hc ha hb).weak fun D σ H ⟨F, ρ, q⟩ => ?_
  have q : TMS X.K E (bnd (evT Γ ic) fun t => if t then exs Γ ia else exs Γ ib) F ρ D σ H := by
    have q2 := q
    unfold ex at q2
    exact q2
  refine ⟨F, ρ, (TMS.bind q).post fun c0 H1 ⟨t0, ρ1, F1, rl, st, q1⟩ => ?_⟩
  cases (show t0 = c0 from rl)
  cases c0 with
  | true => exact iteT ⟨F1, ρ1, q1⟩
  | false => exact iteF ⟨F1, ρ1, q1⟩
theorem q_unp {tg e : Expr} {ie : Y.E} {p : Pat} {pos : Pos} (he : PE X e (tV X E Γ ie)) (hg : PG X tg (tPat X p)) (hs : swapsWithSole [tg] e pos.line X.env = pure false) (hw : swappedStores [tg] e X.env = pure none) (hn : notStar tg = true) : PS X (.Assign [tg] e pos) (tS X E Γ (.unp p ie)) := by
  refine (ps_asg he hg hs hw (by rw [assignEach_cons hn]; rfl)).weak fun D σ H ⟨F, ρ, q⟩ => ?_
  have q : TMS X.K E (bnd (asV ie (ev Γ ie)) fun d => bnd (setPat p d) fun _ => ret .nx) F ρ D σ H := by
    have q2 := q
    unfold ex at q2
    exact q2
  refine ⟨F, ρ, (TMS.bind q).post fun v H1 ⟨d, ρ1, F1, rl, st, q1⟩ => ?_⟩
  refine ⟨F1, ρ1, d, rl, q1.1, ?_⟩
  have h := q1.2
  unfold bnd at h
  cases e2 : setPat p d ρ1 with
  | bad => rw [e2] at h; exact h
  | exn x ρ' => exact absurd e2 (setPat_exn p d ρ1 x ρ')
  | ok u ρ2 => rw [e2] at h; exact fun σ' F' H' _ st sr => h σ' F' H' st sr
end
end Y

set_option Elab.async false
set_option linter.all false
set_option maxRecDepth 100000
namespace Y
open PySem L2
section
variable {X : Cx} {E : XW} {Γ : Gam} {K : PySem.W.Frag} {F H F' H' : Hp} {ρ ρ' : Rho} {σ σ' : St} {D : Ends}
theorem TMS.step {m : M Fl} {σ1 : St} {F1 H1 : Hp} {ρ1 : Rho} (h : TMS K E m F ρ D σ H) (st : Stp σ ρ F H σ1 ρ1 F1 H1) (sr : SR K F1 H1 ρ1 σ1) (e : m ρ1 = m ρ) : TMS K E m F1 ρ1 D σ1 H1 := by
  refine ⟨sr, ?_⟩
  have h2 := h.2
  rw [e]
  cases e2 : m ρ with
  | bad => rw [e2] at h2; exact h2
  | exn x ρ' => rw [e2] at h2; exact h2.step st
  | ok fl ρ2 =>
    rw [e2] at h2
    exact fun σ' F' H' st2 sr2 => (h2 σ' F' H' (st.trans st2) sr2).step st
theorem TMS.body {m : M Fl} {A : M Fl} {N : St → Hp → Prop} (h : TMS K E (bnd m (loopK A)) F ρ D σ H) (hN : ∀ σ' F' ρ' H', Same F F' → TMS K E A F' ρ' D σ' H' → N σ' H') :
    TMS K E m F ρ { D with nx := N, ct := N, bk := D.nx } σ H := by
  refine ⟨h.1, ?_⟩
  cases e : m ρ with
  | bad => have := h.2; rw [show bnd m (loopK A) ρ = .bad from by unfold bnd; rw [e]] at this; exact this
  | exn x ρ' => have := h.2; rw [bnd_exn e] at this; exact this
  | ok fl ρ1 =>
    cases fl with
    | nx => exact fun σ' F' H' st sr => hN σ' F' ρ1 H' st.ff (h.go e st sr)
    | ct => exact fun σ' F' H' st sr => hN σ' F' ρ1 H' st.ff (h.go e st sr)
    | bk => have := h.2; rw [bnd_ok e] at this; exact this
    | rt r => have := h.2; rw [bnd_ok e] at this; exact this
theorem setPat_TMG {p : Pat} {d : PyData} {f : M Fl} {Q : St → Hp → Prop} (h : TMS K E (bnd (setPat p d) fun _ => f) F ρ D σ H) (hQ : ∀ σ' F' ρ' H', TMS K E f F' ρ' D σ' H' → Q σ' H') : TMG K (pvars p) (setPat p d) F ρ σ H Q := by
  refine ⟨h.1, ?_⟩
  cases e : setPat p d ρ with
  | bad => have := h.2; rw [show bnd (setPat p d) _ ρ = .bad from by unfold bnd; rw [e]] at this; exact this
  | exn x ρ' => exact absurd e (setPat_exn p d ρ x ρ')
  | ok u ρ1 => exact fun σ' F' H' _ st sr => hQ σ' F' ρ1 H' (h.go e st sr)
theorem q_frr {tg iter : Expr} {body : List Stmt} {p : Pat} {it : Y.It} {b : Ss} {pos : Pos} (hp : PassesOwn (model X.prog X.w) X.A X.env X.xe) (hc : X.calm = true) (hi : PI X tg iter (tIt X E Γ it)) (hg : PG X tg (tPat X p)) (hb : PSs X body (tSs X E Γ b))
    (hs : ∀ x, foldedSetIterable iter X.env x = pure x) : PS X (.For tg iter body [] pos) (tS X E Γ (.frr p it b)) := by
  refine (ps_for hp hc hi hg hb hs).weak fun D σ H ⟨F, ρ, q⟩ => ?_
  have q : TMS X.K E (bnd (evIt Γ it) fun ds => forL (fun d => bnd (setPat p d) fun _ => exs Γ b) ds) F ρ D σ H := by
    have q2 := q
    unfold ex at q2
    exact q2
  refine ⟨F, ρ, (TMS.bind q).post fun J H1 ⟨ds, ρ1, F1, yl, st, q1⟩ => ?_⟩
  refine ⟨fun i m σ' H' => m = ds.length - i ∧ i ≤ ds.length ∧ ∃ F' ρ', Same F1 F' ∧ TMS X.K E (forL (fun d => bnd (setPat p d) fun _ => exs Γ b) (ds.drop i)) F' ρ' D σ' H', ⟨ds.length, by simp, Nat.zero_le _, F1, ρ1, .refl F1, q1⟩, ?_⟩
  rintro i m σ' H' ⟨rfl, hi, F', ρ', sm, q2⟩
  obtain ⟨y1, y2, y3⟩ := yl i F' H' sm q2.1.sub
  by_cases hlt : i < ds.length
  · rw [List.drop_eq_getElem_cons hlt] at q2
    refine .inr ⟨y1 hlt, fun σ'' H'' => ∃ F'' ρ'', Same F1 F'' ∧ TMS X.K E (forL (fun d => bnd (setPat p d) fun _ => exs Γ b) (ds.drop (i + 1))) F'' ρ'' D σ'' H'', fun σ'' H'' ⟨F'', ρ'', s2, q3⟩ => ⟨ds.length - (i + 1), by omega, rfl, hlt, F'', ρ'', s2, q3⟩, fun x H2 yy => ?_⟩
    obtain ⟨F2, al, rp⟩ := y3 x H2 ds[i] (List.getElem?_eq_getElem hlt) yy
    obtain ⟨sr2, st2⟩ := al.stp q2.1
    have q3 := TMS.body (q2.step st2 sr2 rfl) (N := fun σ'' H'' => ∃ F'' ρ'', Same F1 F'' ∧ TMS X.K E (forL (fun d => bnd (setPat p d) fun _ => exs Γ b) (ds.drop (i + 1))) F'' ρ'' D σ'' H'') fun σ'' F'' ρ'' H'' s3 q3 => ⟨F'', ρ'', sm.trans (al.ff.trans s3), q3⟩
    exact ⟨F2, ρ', ds[i], rp, setPat_TMG q3 fun σ'' F'' ρ'' H'' q4 => ⟨F'', ρ'', q4⟩⟩
  · have e : i = ds.length := by omega
    subst e
    rw [List.drop_length] at q2
    exact .inl ⟨y2 rfl, q2.nx⟩
theorem q_whl {c : Expr} {body : List Stmt} {ic : Y.E} {b : Ss} {pos : Pos} (hp : PassesOwn (model X.prog X.w) X.A X.env X.xe) (hc : PT X c (tT X E Γ ic)) (hb : PSs X body (tSs X E Γ b)) : PS X (.While c body [] pos) (tS X E Γ (.whl ic b)) := by
  refine (ps_while hp hc hb).weak fun D σ H ⟨F, ρ, q⟩ => ?_
  have q : TMS X.K E (whlL (evT Γ ic) (exs Γ b) Γ.fuel) F ρ D σ H := by
    have q2 := q
    unfold ex at q2
    exact q2
  refine ⟨fun m σ' H' => ∃ F' ρ', TMS X.K E (whlL (evT Γ ic) (exs Γ b) m) F' ρ' D σ' H', ⟨Γ.fuel, F, ρ, q⟩, ?_⟩
  rintro m σ' H' ⟨F', ρ', q2⟩
  cases m with
  | zero => exact False.elim q2.2
  | succ n =>
    refine ⟨F', ρ', (TMS.bind (f := fun t => if t then bnd (exs Γ b) (loopK (whlL (evT Γ ic) (exs Γ b) n)) else ret .nx) q2).post fun c0 H1 ⟨t0, ρ1, F1, rl, st, q3⟩ => ?_⟩
    cases (show t0 = c0 from rl)
    cases c0 with
    | false => exact iteF q3.nx
    | true =>
      refine iteT ⟨fun σ'' H'' => ∃ F'' ρ'', TMS X.K E (whlL (evT Γ ic) (exs Γ b) n) F'' ρ'' D σ'' H'', fun σ'' H'' h => ⟨n, Nat.lt_succ_self n, h⟩, F1, ρ1, ?_⟩
      exact TMS.body (m := exs Γ b) (A := whlL (evT Γ ic) (exs Γ b) n) q3 fun σ'' F'' ρ'' H'' _ q4 => ⟨F'', ρ'', q4⟩

/-! ### objects changed where they stand -/
/-- an owned object is given another content -/
theorem SR.mut {i : Nat} {p : Bool} {o o' : O} {a : Addr} {u : HO} (sr : SR K F H ρ σ) (ho : ρ[i]? = some (.own p o)) (ha : σ[i]? = some (some (.ref a))) (h' : ObjR K F (upd H a u) a o') :
    SR K F (upd H a u) (ρ.set i (.own p o')) σ ∧ Stp σ ρ F H σ (ρ.set i (.own p o')) F (upd H a u) := by
  have hi : i < ρ.length := (List.getElem?_eq_some_iff.mp ho).1
  obtain ⟨a', e1, hF, hO⟩ := sr.own i p o ho
  rw [ha] at e1; cases e1
  have own : ∀ {j : Nat} {q : Bool} {ob : O}, (ρ.set i (.own p o'))[j]? = some (.own q ob) → (i = j ∧ q = p ∧ ob = o') ∨ (i ≠ j ∧ ρ[j]? = some (.own q ob)) := fun {j q ob} h => by
    rcases get_set_cases hi h with ⟨e, e2⟩ | h
    · cases e2; exact .inl ⟨e, rfl, rfl⟩
    · exact .inr h
  have own0 : ∀ {j : Nat} {q : Bool} {ob : O}, (ρ.set i (.own p o'))[j]? = some (.own q ob) → ∃ ob0, ρ[j]? = some (.own q ob0) := fun {j q ob} h => by
    rcases own h with ⟨e, e2, e3⟩ | ⟨_, h⟩
    · subst e e2 e3; exact ⟨o, ho⟩
    · exact ⟨ob, h⟩
  have ne : ∀ {b : Addr} {x : HO}, F b = some x → b ≠ a := fun h => ne_of_none h hF
  refine ⟨⟨by rw [List.length_set]; exact sr.len, fun b x h => by rw [upd_ne (ne h)]; exact sr.sub b x h, fun j d h => ?_, fun j q ob h => ?_, fun j k q ob q' ob' c h1 h2 h3 h4 => ?_⟩, ⟨.refl F, fun b x h n => ?_, fun b x h n => absurd (h.symm.trans n) (by simp), fun b ⟨j, q, ob, h1, h2⟩ => ?_, fun b h => ?_, fun j ob h => ?_, List.length_set⟩⟩
  · rcases get_set_cases hi h with ⟨_, e⟩ | ⟨_, h⟩
    · cases e
    · exact sr.fz j d h
  · rcases own h with ⟨e, e2, e3⟩ | ⟨hj, h⟩
    · subst e e2 e3; exact ⟨a, ha, hF, h'⟩
    · obtain ⟨c, h1, h2, h3⟩ := sr.own j q ob h
      refine ⟨c, h1, h2, h3.mono (.refl F) fun x hx => ?_⟩
      have hca : c ≠ a := fun z => hj (sr.sep i j p o q ob a ho h ha (by rw [← z]; exact h1))
      rw [upd_ne hca]; exact hx
  · obtain ⟨_, h1⟩ := own0 h1
    obtain ⟨_, h2⟩ := own0 h2
    exact sr.sep j k _ _ _ _ c h1 h2 h3 h4
  · have : b ≠ a := fun z => n ⟨i, p, o, ho, by rw [z]; exact ha⟩
    rw [upd_ne this]; exact h
  · obtain ⟨_, h1⟩ := own0 h1
    exact .inl ⟨j, q, _, h1, h2⟩
  · by_cases hb : b = a
    · subst hb; rw [upd_same] at h; cases h
    · rw [upd_ne hb] at h; exact h
  · obtain ⟨ob0, h0⟩ := own0 h
    exact ⟨rfl, ob0, h0⟩
theorem guardOwn_of {α : Type} {i : Nat} {m : M α} {o : Out α} (h : guardOwn i m ρ = o) (hb : o ≠ .bad) : (∃ p ob, ρ[i]? = some (.own p ob)) ∧ m ρ = o := by
  unfold guardOwn at h
  split at h
  · rename_i p ds e; exact ⟨⟨p, _, e⟩, h⟩
  · rename_i p ds e; exact ⟨⟨p, _, e⟩, h⟩
  · exact absurd h.symm hb
theorem TMS.guard {i : Nat} {m : M Fl} (h : TMS K E (guardOwn i m) F ρ D σ H) : (∃ p ob, ρ[i]? = some (.own p ob)) ∧ TMS K E m F ρ D σ H := by
  have h2 := h.2
  cases e : guardOwn i m ρ with
  | bad => rw [e] at h2; exact False.elim h2
  | exn x ρ' =>
    obtain ⟨h3, h4⟩ := guardOwn_of e (fun z => by cases z)
    refine ⟨h3, h.1, ?_⟩
    rw [h4, ← e]; exact h2
  | ok a ρ' =>
    obtain ⟨h3, h4⟩ := guardOwn_of e (fun z => by cases z)
    refine ⟨h3, h.1, ?_⟩
    rw [h4, ← e]; exact h2
theorem TMS.guardL {i : Nat} {m : M Fl} (h : TMS K E (Y.guardL i m) F ρ D σ H) : (∃ p ds, ρ[i]? = some (.own p (.lst ds))) ∧ TMS K E m F ρ D σ H := by
  unfold Y.guardL at h
  have h2 := h.2
  dsimp only at h2
  split at h2
  · rename_i heq
    split at heq
    · rename_i p ds e
      refine ⟨⟨p, ds, e⟩, h.1, ?_⟩
      rw [heq]; exact h2
    · cases heq
  · rename_i heq
    split at heq
    · rename_i p ds e
      refine ⟨⟨p, ds, e⟩, h.1, ?_⟩
      rw [heq]; exact h2
    · cases heq
  · exact h2.elim
theorem tyV_own {a : Addr} {ds : List PyData} (h : ObjR K F H a (.lst ds)) : tyV K "list" (.ref a) H := by
  obtain ⟨vs, e, _⟩ := h
  exact .inl ⟨rfl, vs, SqL.of e⟩
theorem q_app {i : Nat} {x : Str} {e : Expr} {ie : Y.E} {p apos cpos pos : Pos} (hN : X.N[i]? = some x) (hv : Vis X.env.scope x) (hd : (x == ("__debug__" : Str)) = false) (hcd : (x == ("__classdict__" : Str)) = false) (he : PE X e (tV X E Γ ie)) (hs : notStar e = true) (hl : (apos.endLine == cpos.line) = true) :
    PS X (.Expr (.Call (.Attribute (.Name x p) "append" apos) [e] [] cpos) pos) (tS X E Γ (.app i ie)) := by
  refine (ps_expr (pe_bm PySem.F.plainAttrs_list PySem.F.slot_list_append PySem.F.type_list_append mt_append (pe_var hN hv hd hcd) (pa_cons he pa_nil (star_cons hs)) (by rfl) (by rw [star_cons hs]; rfl) hl (star_cons hs) (by rfl)) rfl).weak fun D σ H ⟨F, ρ, q⟩ => ?_
  have q : TMS X.K E (Y.guardL i <| bnd (asV ie (ev Γ ie)) fun d ρ => match ρ[i]? with
    | some (.own p (.lst ds)) => if ds.length < lim then .ok .nx (ρ.set i (.own p (.lst (ds ++ [d])))) else .bad
    | _ => .bad) F ρ D σ H := by
    have q2 := q
    unfold ex at q2
    exact q2
  obtain ⟨⟨p0, ds0, ho⟩, q⟩ := q.guardL
  obtain ⟨a, ha, hF, hO⟩ := q.1.own i p0 (.lst ds0) ho
  refine ⟨.ref a, ha, ?_, F, ρ, (TMS.bind q).post fun v H1 ⟨d, ρ1, F1, rl, st, q1⟩ => ?_⟩
  · exact tyV_own hO
  · have h := q1.2
    dsimp only at h
    split at h
    · rename_i heq
      split at heq
      · rename_i p1 ds e1
        split at heq
        · rename_i hlen
          cases heq
          obtain ⟨a', e2, hF1, vs, hH, hds⟩ := q1.1.own i p1 (.lst ds) e1
          rw [ha] at e2; cases e2
          refine ⟨a, vs, v, rfl, rfl, hH, by rw [dpAll_len hds, ← lim_eq]; exact hlen, ?_⟩
          obtain ⟨s1, s2⟩ := q1.1.mut (u := .lst (vs ++ [v])) (o' := .lst (ds ++ [d])) e1 ha ⟨_, upd_same, dpAll_app hds (.cons rl .nil)⟩
          exact h σ F1 _ s2 s1
        · cases heq
      · cases heq
    · rename_i heq
      split at heq
      · split at heq <;> cases heq
      · cases heq
    · exact False.elim h
end
end Y

set_option Elab.async false
set_option linter.all false
set_option maxRecDepth 100000
namespace Y
open PySem L2
theorem wipe_get (σ : St) : ∀ (l : List Nat) (j : Nat), (wipe σ l)[j]? = if j ∈ l then (if j < σ.length then some none else none) else σ[j]?
  | [], j => by simp [wipe]
  | a :: l, j => by
    have ih := wipe_get σ l j
    have hl := wipe_length σ l
    unfold wipe
    by_cases e : a = j
    · subst e
      rw [if_pos List.mem_cons_self]
      by_cases h : a < σ.length
      · rw [List.getElem?_set_self (by rw [hl]; exact h), if_pos h]
      · rw [List.getElem?_eq_none (by rw [List.length_set, hl]; omega), if_neg h]
    · rw [List.getElem?_set_ne e, ih]
      have : (j ∈ a :: l) = (j ∈ l) := by simp [Ne.symm e]
      simp only [this]
theorem wipeR_len (ρ : Rho) : ∀ l : List Nat, (wipeR ρ l).length = ρ.length
  | [] => rfl
  | a :: l => by unfold wipeR; rw [List.length_set, wipeR_len ρ l]
theorem wipeR_get (ρ : Rho) : ∀ (l : List Nat) (j : Nat), (wipeR ρ l)[j]? = if j ∈ l then (if j < ρ.length then some .und else none) else ρ[j]?
  | [], j => by simp [wipeR]
  | a :: l, j => by
    have ih := wipeR_get ρ l j
    have hl := wipeR_len ρ l
    unfold wipeR
    by_cases e : a = j
    · subst e
      rw [if_pos List.mem_cons_self]
      by_cases h : a < ρ.length
      · rw [List.getElem?_set_self (by rw [hl]; exact h), if_pos h]
      · rw [List.getElem?_eq_none (by rw [List.length_set, hl]; omega), if_neg h]
    · rw [List.getElem?_set_ne e, ih]
      have : (j ∈ a :: l) = (j ∈ l) := by simp [Ne.symm e]
      simp only [this]
theorem wipeR_some {ρ : Rho} {l : List Nat} {j : Nat} {s : Slot} (h : (wipeR ρ l)[j]? = some s) (n : s ≠ .und) : j ∉ l ∧ ρ[j]? = some s := by
  rw [wipeR_get] at h
  split at h
  · split at h
    · cases h; exact absurd rfl n
    · cases h
  · rename_i hj; exact ⟨hj, h⟩
theorem backR_len (old ρ : Rho) : ∀ l : List Nat, (backR old ρ l).length = ρ.length
  | [] => rfl
  | a :: l => by
    unfold backR
    split
    · rw [List.length_set, backR_len old ρ l]
    · exact backR_len old ρ l
theorem backR_get (old ρ : Rho) (he : old.length = ρ.length) : ∀ (l : List Nat) (j : Nat), (backR old ρ l)[j]? = if j ∈ l then old[j]? else ρ[j]?
  | [], j => by simp [backR]
  | a :: l, j => by
    have ih := backR_get old ρ he l j
    have hl := backR_len old ρ l
    unfold backR
    by_cases e : a = j
    · subst e
      rw [if_pos List.mem_cons_self]
      cases q : old[a]? with
      | none =>
        have hn : old.length ≤ a := List.getElem?_eq_none_iff.mp q
        exact List.getElem?_eq_none (by rw [hl]; omega)
      | some s =>
        have hn : a < old.length := (List.getElem?_eq_some_iff.mp q).1
        exact List.getElem?_set_self (by rw [hl]; omega)
    · have : (j ∈ a :: l) = (j ∈ l) := by simp [Ne.symm e]
      simp only [this]
      split
      · rw [List.getElem?_set_ne e, ih]
      · exact ih
theorem wipe_only {vs own : List Nat} {σ σ' : St} (h : Only vs (wipe σ own) σ') (hv : ∀ i ∈ vs, i ∈ own) : wipe σ' own = wipe σ own := by
  apply List.ext_getElem?
  intro j
  have hl : σ'.length = σ.length := h.1.trans (wipe_length σ own)
  rw [wipe_get, wipe_get, hl]
  by_cases hj : j ∈ own
  · rw [if_pos hj, if_pos hj]
  · rw [if_neg hj, if_neg hj, h.2 j fun z => hj (hv j z), wipe_get, if_neg hj]
section
variable {X : Cx} {E : XW} {Γ : Gam} {K : PySem.W.Frag} {F H F' H' : Hp} {ρ ρ' : Rho} {σ σ' : St}
theorem wipe_out' {l : List Nat} {j : Nat} (h : j ∉ l) : (wipe σ l)[j]? = σ[j]? := by rw [wipe_get, if_neg h]
theorem owned_wipe {own : List Nat} {b : Addr} (h : Owned (wipeR ρ own) (wipe σ own) b) : ∃ (j : Nat) (p : Bool) (o : O), j ∉ own ∧ ρ[j]? = some (.own p o) ∧ σ[j]? = some (some (.ref b)) := by
  obtain ⟨j, p, o, h1, h2⟩ := h
  obtain ⟨h3, h4⟩ := wipeR_some h1 (fun z => by cases z)
  rw [wipe_out' h3] at h2
  exact ⟨j, p, o, h3, h4, h2⟩
/-- into a block -/
theorem SR.wiped (sr : SR K F H ρ σ) (own : List Nat) : SR K F H (wipeR ρ own) (wipe σ own) ∧ Stp σ ρ F H (wipe σ own) (wipeR ρ own) F H := by
  refine ⟨⟨by rw [wipeR_len, wipe_length]; exact sr.len, sr.sub, fun j d h => ?_, fun j p o h => ?_, fun j k p o p' o' a h1 h2 h3 h4 => ?_⟩, ⟨.refl F, fun _ _ h _ => h, fun b o h n => absurd (h.symm.trans n) (by simp), fun b h => ?_, fun _ h => h, fun j o h => ?_, wipeR_len ρ own⟩⟩
  · obtain ⟨h1, h2⟩ := wipeR_some h (fun z => by cases z)
    rw [wipe_out' h1]
    exact sr.fz j d h2
  · obtain ⟨h1, h2⟩ := wipeR_some h (fun z => by cases z)
    rw [wipe_out' h1]
    exact sr.own j p o h2
  · obtain ⟨n1, h1⟩ := wipeR_some h1 (fun z => by cases z)
    obtain ⟨n2, h2⟩ := wipeR_some h2 (fun z => by cases z)
    rw [wipe_out' n1] at h3
    rw [wipe_out' n2] at h4
    exact sr.sep j k p o p' o' a h1 h2 h3 h4
  · obtain ⟨j, p, o, _, h1, h2⟩ := owned_wipe h
    exact .inl ⟨j, p, o, h1, h2⟩
  · obtain ⟨h1, h2⟩ := wipeR_some h (fun z => by cases z)
    rw [wipe_out' h1]
    exact ⟨rfl, o, h2⟩
/-- out of a block -/
theorem comp_out {own : List Nat} (sr : SR K F H ρ σ) (st : Stp (wipe σ own) (wipeR ρ own) F H (wipe σ own) (wipeR ρ' own) F' H') (sr' : SR K F' H' (wipeR ρ' own) (wipe σ own)) (hl : ρ'.length = ρ.length) :
    SR K F' H' (backR ρ (wipeR ρ' own) own) σ ∧ Stp σ ρ F H σ (backR ρ (wipeR ρ' own) own) F' H' := by
  have he : ρ.length = (wipeR ρ' own).length := by rw [wipeR_len]; exact hl.symm
  have cases2 : ∀ {j : Nat} {s : Slot}, (backR ρ (wipeR ρ' own) own)[j]? = some s → (j ∈ own ∧ ρ[j]? = some s) ∨ (j ∉ own ∧ (wipeR ρ' own)[j]? = some s ∧ (wipe σ own)[j]? = σ[j]?) := fun {j s} h => by
    rw [backR_get _ _ he] at h
    split at h
    · rename_i hj; exact .inl ⟨hj, h⟩
    · rename_i hj; exact .inr ⟨hj, h, wipe_out' hj⟩
  have hid : ∀ {j : Nat} {p : Bool} {o : O} {a : Addr}, j ∈ own → ρ[j]? = some (.own p o) → σ[j]? = some (some (.ref a)) → ¬ Owned (wipeR ρ own) (wipe σ own) a := fun {j p o a} hj h1 h2 z => by
    obtain ⟨k, p', o', hk, h3, h4⟩ := owned_wipe z
    have := sr.sep j k _ _ _ _ a h1 h3 h2 h4
    subst this
    exact hk hj
  refine ⟨⟨by rw [backR_len, ← he]; exact sr.len, sr'.sub, fun j d h => ?_, fun j p o h => ?_, fun j k p o p' o' a h1 h2 h3 h4 => ?_⟩, ⟨st.ff, fun b o h n => st.kp b o h fun z => n ?_, fun b o h n => (st.nf b o h n).imp id fun z => ?_, fun b ⟨j, p, o, h1, h2⟩ => ?_, st.mo, fun j o h => ?_, by rw [backR_len, ← he]⟩⟩
  · rcases cases2 h with ⟨hj, h⟩ | ⟨hj, h, e⟩
    · obtain ⟨v, h1, h2⟩ := sr.fz j d h
      exact ⟨v, h1, h2.mono st.ff⟩
    · rw [← e]; exact sr'.fz j d h
  · rcases cases2 h with ⟨hj, h⟩ | ⟨hj, h, e⟩
    · obtain ⟨a, h1, h2, h3⟩ := sr.own j p o h
      obtain ⟨u, hu⟩ := h3.some
      obtain ⟨e1, e2, _⟩ := st.apart hu h2 (hid hj h h1)
      exact ⟨a, h1, e2, h3.mono st.ff fun w hw => by rw [hu] at hw; cases hw; exact e1⟩
    · rw [← e]; exact sr'.own j p o h
  · have apart : ∀ {j k : Nat} {p p' : Bool} {o o' : O}, j ∈ own → ρ[j]? = some (.own p o) → σ[j]? = some (some (.ref a)) → (wipeR ρ' own)[k]? = some (.own p' o') → (wipe σ own)[k]? = some (some (.ref a)) → False := fun {j k p p' o o'} hj g1 g2 g3 g4 => by
      obtain ⟨a', z1, z2, z3⟩ := sr.own j _ _ g1
      rw [g2] at z1; cases z1
      obtain ⟨u, hu⟩ := z3.some
      rcases st.no a ⟨k, p', o', g3, g4⟩ with z | z
      · exact hid hj g1 g2 z
      · rw [z] at hu; cases hu
    rcases cases2 h1 with ⟨hj, h1⟩ | ⟨hj, h1, e1⟩
    · rcases cases2 h2 with ⟨hk, h2⟩ | ⟨hk, h2, e2⟩
      · exact sr.sep j k _ _ _ _ a h1 h2 h3 h4
      · exact (apart hj h1 h3 h2 (e2.trans h4)).elim
    · rcases cases2 h2 with ⟨hk, h2⟩ | ⟨hk, h2, e2⟩
      · exact (apart hk h2 h4 h1 (e1.trans h3)).elim
      · exact sr'.sep j k _ _ _ _ a h1 h2 (e1.trans h3) (e2.trans h4)
  · obtain ⟨j, p, o', _, h1, h2⟩ := owned_wipe z
    exact ⟨j, p, o', h1, h2⟩
  · obtain ⟨j, p, o', _, h1, h2⟩ := owned_wipe z
    exact ⟨j, p, o', h1, h2⟩
  · rcases cases2 h1 with ⟨hj, h1⟩ | ⟨hj, h1, e1⟩
    · exact .inl ⟨j, p, o, h1, h2⟩
    · rcases st.no b ⟨j, p, o, h1, e1.trans h2⟩ with z | z
      · obtain ⟨j, p, o', _, h1, h2⟩ := owned_wipe z
        exact .inl ⟨j, p, o', h1, h2⟩
      · exact .inr z
  · rcases cases2 h with ⟨hj, h⟩ | ⟨hj, h, e1⟩
    · exact ⟨rfl, o, h⟩
    · obtain ⟨_, o0, h2⟩ := st.pin j o h
      exact ⟨rfl, o0, (wipeR_some h2 (fun z => by cases z)).2⟩
/-- an object that is nobody's is changed -/
theorem SR.nobody {a : Addr} {u : HO} (sr : SR K F H ρ σ) (n : F a = none) (o : ¬ Owned ρ σ a) : SR K F (upd H a u) ρ σ := by
  refine ⟨sr.len, fun b x h => by rw [upd_ne (ne_of_none h n)]; exact sr.sub b x h, sr.fz, fun j p ob h => ?_, sr.sep⟩
  obtain ⟨c, h1, h2, h3⟩ := sr.own j p ob h
  have hc : c ≠ a := fun z => o ⟨j, p, ob, h, by rw [← z]; exact h1⟩
  exact ⟨c, h1, h2, h3.mono (.refl F) fun x hx => by rw [upd_ne hc]; exact hx⟩
theorem Stp.later {a : Addr} {u : HO} (st : Stp σ ρ F H σ' ρ' F' H') (n : H a = none) : Stp σ ρ F H σ' ρ' F' (upd H' a u) :=
  ⟨st.ff, fun b o h x => by rw [upd_ne (ne_of_none h n)]; exact st.kp b o h x, st.nf, st.no, fun b h => by
    by_cases hb : b = a
    · subst hb; exact n
    · rw [upd_ne hb] at h; exact st.mo b h, st.pin, st.ln⟩

/-! ### list comprehensions -/
variable (X E Γ) in
def tTs (cs : Es) : TT := fun σ H Q => ∃ F ρ, TM X.K E rlB (evTs Γ cs) F ρ σ H Q
theorem q_tsnil : PTs X [] (tTs X E Γ .nil) := ⟨fun pins s σ H Q I ⟨F, ρ, q⟩ => (pts_nil (X := X)).run pins s σ H Q I (q.ret rfl)⟩
theorem evTs_one {e : Y.E} : evTs Γ (.cons e .nil) = evT Γ e := by
  show bnd (ev Γ e) (fun r => bnd (toB r) fun t => if t then ret true else ret false) = bnd (ev Γ e) toB
  congr 1
  funext r
  have : (fun t : Bool => if t = true then ret true else ret false) = fun t => ret t := by funext t; cases t <;> rfl
  rw [this]
  funext ρ
  unfold bnd
  cases toB r ρ <;> rfl
theorem q_tsone {c : Expr} {ic : Y.E} (h : PT X c (tT X E Γ ic)) : PTs X [c] (tTs X E Γ (.cons ic .nil)) := ⟨fun pins s σ H Q I ⟨F, ρ, q⟩ => (pts_one h).run pins s σ H Q I ⟨F, ρ, by rw [evTs_one] at q; exact q⟩⟩
theorem bnd_some {α β : Type} {m : M α} {f : α → M β} {ρ : Rho} {b : β} {ρ2 : Rho} (h : bnd m f ρ = .ok b ρ2) : ∃ a ρ1, m ρ = .ok a ρ1 ∧ f a ρ1 = .ok b ρ2 := by
  unfold bnd at h
  cases e : m ρ with
  | bad => rw [e] at h; cases h
  | exn x ρ' => rw [e] at h; cases h
  | ok a ρ1 => rw [e] at h; exact ⟨a, ρ1, rfl, h⟩
theorem inner_some {α : Type} {own : List Nat} {m : M α} {ρ ρ2 : Rho} {a : α} (h : inner own m ρ = .ok a ρ2) : ∃ ρ1, m ρ = .ok a ρ1 ∧ ρ2 = backR ρ (wipeR ρ1 own) own := by
  unfold inner at h
  cases e : m ρ with
  | bad => rw [e] at h; cases h
  | exn x ρ' => rw [e] at h; cases h
  | ok b ρ1 => rw [e] at h; cases h; exact ⟨ρ1, rfl, rfl⟩
/-- where a comprehension stands ahead of its turn i -/
structure LcI (K : PySem.W.Frag) (own : List Nat) (fb : PyData → M (Option PyData)) (ds xs : List PyData) (σ : St) (ρ1 ρ2 : Rho) (F1 H1 : Hp) (Da : Addr) (i : Nat) (H' : Hp) (F' : Hp) (ρ' : Rho) (acc r : List PyData) (vs : List V) : Prop where
  le : i ≤ ds.length
  sm : Same F1 F'
  sr : SR K F' H' (wipeR ρ' own) (wipe σ own)
  st : Stp (wipe σ own) (wipeR ρ1 own) F1 H1 (wipe σ own) (wipeR ρ' own) F' H'
  at_ : H' Da = some (.lst vs)
  dp : DqAll K F' vs acc
  nF : F' Da = none
  nO : ¬ Owned (wipeR ρ' own) (wipe σ own) Da
  go : lcL fb (ds.drop i) ρ' = .ok r ρ2
  all : acc ++ r = xs
  ln : ρ'.length = ρ1.length
theorem w_lc {own : List Nat} {p : Pat} {it : Y.It} {cs : Es} {ie : Y.E} (hv : ∀ i ∈ pvars p, i ∈ own) (σ : St) (H : Hp) (Q : VK) (h : tE X E Γ (.lc own p it cs ie) σ H Q) : tLc (tIt X E Γ it) (tPat X p) (tTs X E Γ cs) (tV X E Γ ie) own σ H Q := by
  obtain ⟨F, ρ, q⟩ := h
  generalize hfb : (fun d => turnW own <| bnd (setPat p d) fun _ => bnd (evTs Γ cs) fun t => if t = true then bnd (asV ie (ev Γ ie)) fun x => ret (some x) else ret none) = fb
  have q : TM X.K E (rlR X.K) (bnd (evIt Γ it) fun ds => bnd (inner own (lcL fb ds)) fun xs => if xs.length ≤ lim then ret (.own (.lst xs)) else Y.bad) F ρ σ H Q := by
    rw [← hfb]; exact q
  refine ⟨F, ρ, (q.bind rlR_t).post fun J H1 ⟨ds, ρ1, F1, yl, st, q1⟩ => ?_⟩
  intro Da hDa
  -- the whole outcome
  obtain ⟨xs, ρ2, go0, hlen, fin⟩ : ∃ xs ρ2, lcL fb ds ρ1 = .ok xs ρ2 ∧ xs.length ≤ lim ∧ ∀ v F' H', Stp σ ρ1 F1 H1 σ (backR ρ1 (wipeR ρ2 own) own) F' H' → SR X.K F' H' (backR ρ1 (wipeR ρ2 own) own) σ → rlR X.K σ ρ1 H1 (backR ρ1 (wipeR ρ2 own) own) F' H' (.own (.lst xs)) v → Q v H' := by
    have h := q1.2
    cases e : inner own (lcL fb ds) ρ1 with
    | bad => rw [show bnd (inner own (lcL fb ds)) _ ρ1 = .bad from by unfold bnd; rw [e]] at h; exact False.elim h
    | exn x ρ' =>
      exfalso
      unfold inner at e
      split at e <;> cases e
    | ok xs ρ' =>
      rw [bnd_ok e] at h
      obtain ⟨ρ2, e1, e2⟩ := inner_some e
      subst e2
      by_cases hl : xs.length ≤ lim
      · rw [if_pos hl] at h
        exact ⟨xs, ρ2, e1, hl, h⟩
      · rw [if_neg hl] at h
        exact False.elim h
  obtain ⟨srw, stw⟩ := q1.1.wiped own
  refine ⟨fun i m H' => m = ds.length - i ∧ ∃ F' ρ' acc r vs, LcI X.K own fb ds xs σ ρ1 ρ2 F1 H1 Da i H' F' ρ' acc r vs, ⟨ds.length, by simp, F1, ρ1, [], xs, [], ?_⟩, ?_⟩
  · obtain ⟨s1, s2⟩ := srw.newO (u := .lst []) hDa
    exact ⟨Nat.zero_le _, .refl F1, s1, s2, upd_same, .nil, srw.sub.free hDa, not_owned_none srw hDa, by rw [List.drop_zero]; exact go0, rfl, rfl⟩
  rintro i m H' ⟨rfl, F', ρ', acc, r, vs, L⟩
  obtain ⟨y1, y2, y3⟩ := yl i F' H' L.sm L.sr.sub
  by_cases hlt : i < ds.length
  · refine .inr ⟨y1 hlt, fun H' => ∃ F' ρ' acc r vs, LcI X.K own fb ds xs σ ρ1 ρ2 F1 H1 Da (i + 1) H' F' ρ' acc r vs, fun H'' h => ⟨ds.length - (i + 1), by omega, rfl, h⟩, fun x H2 yy => ?_⟩
    obtain ⟨F2, al, rp⟩ := y3 x H2 ds[i] (List.getElem?_eq_getElem hlt) yy
    obtain ⟨sr2, st2⟩ := al.stp L.sr
    have t2 := st2.apart L.at_ L.nF L.nO
    -- the turn's outcome
    have go := L.go
    rw [List.drop_eq_getElem_cons hlt] at go
    obtain ⟨o, ρ3, e1, go⟩ := bnd_some (m := fb ds[i]) go
    obtain ⟨r', ρ3', e2, go⟩ := bnd_some (m := lcL fb (ds.drop (i + 1))) go
    rw [← hfb] at e1
    obtain ⟨_, ρa, ea, e1⟩ := bnd_some (m := setPat p ds[i]) (ρ := wipeR ρ' own) e1
    obtain ⟨t, ρb, eb, e1⟩ := bnd_some (m := evTs Γ cs) e1
    refine ⟨F2, wipeR ρ' own, ds[i], rp, sr2, ?_⟩
    rw [ea]
    intro σ3 F3 H3 on st3 sr3
    have hw : wipe σ3 own = wipe σ own := wipe_only on hv
    have t3 := st3.apart t2.1 t2.2.1 t2.2.2
    refine ⟨hw, F3, ρa, sr3, ?_⟩
    rw [eb]
    intro b F4 H4 st4 sr4 hb
    cases (show t = b from hb)
    have t4 := st4.apart t3.1 t3.2.1 t3.2.2
    cases t with
    | false =>
      refine iteF ?_
      have e1 : (ret none : M (Option PyData)) ρb = .ok o ρ3 := e1
      cases e1
      cases go
      obtain ⟨s5, st5⟩ := sr4.wiped own
      rw [hw] at s5 st5
      have t5 := st5.apart t4.1 t4.2.1 t4.2.2
      have chain := st2.trans (st3.trans (st4.trans st5))
      exact ⟨F4, ρ3, acc, _, vs, hlt, L.sm.trans chain.ff, s5, L.st.trans chain, t5.1, dpAll_mono chain.ff L.dp, t5.2.1, t5.2.2, e2, L.all, by have := chain.ln; rw [wipeR_len, wipeR_len] at this; exact this.trans L.ln⟩
    | true =>
      refine iteT ⟨F4, ρb, sr4, ?_⟩
      have e1 : bnd (asV ie (ev Γ ie)) (fun x => ret (some x)) ρb = .ok o ρ3 := e1
      obtain ⟨d, ρc, ec, e1⟩ := bnd_some e1
      cases e1
      cases go
      rw [ec]
      intro v F5 H5 st5 sr5 rv
      have t5 := st5.apart t4.1 t4.2.1 t4.2.2
      have chain := st2.trans (st3.trans (st4.trans st5))
      obtain ⟨s6, st6⟩ := sr5.wiped own
      rw [hw] at s6 st6
      have t6 := st6.apart t5.1 t5.2.1 t5.2.2
      have chain6 := chain.trans st6
      have hacc : vs.length = acc.length := dpAll_len L.dp
      have hall := L.all
      refine ⟨vs, t5.1, ?_, F5, ρ3, acc ++ [d], r', vs ++ [v], hlt, L.sm.trans chain.ff, s6.nobody t6.2.1 t6.2.2, (L.st.trans chain6).later hDa, upd_same, dpAll_app (dpAll_mono chain.ff L.dp) (.cons rv .nil), t6.2.1, t6.2.2, e2, ?_, ?_⟩
      · have : xs.length = acc.length + (r'.length + 1) := by rw [← hall, List.length_append, List.length_cons]
        rw [← lim_eq]
        omega
      · rw [List.append_assoc]; exact hall
      · have := chain6.ln
        rw [wipeR_len, wipeR_len] at this
        exact this.trans L.ln
  · have e : i = ds.length := by have := L.le; omega
    subst e
    have go := L.go
    rw [List.drop_length] at go
    cases go
    have hall := L.all
    rw [List.append_nil] at hall
    subst hall
    obtain ⟨s1, s2⟩ := comp_out q1.1 L.st L.sr L.ln
    refine .inl ⟨y2 rfl, fin _ F' H' s2 s1 ⟨Da, rfl, L.nF, ⟨vs, L.at_, L.dp⟩, fun ⟨j, p, o, h1, h2⟩ => ?_, .inl hDa⟩⟩
    have he : ρ1.length = (wipeR ρ2 own).length := by rw [wipeR_len]; exact L.ln.symm
    rw [backR_get _ _ he] at h1
    split at h1
    · obtain ⟨a, z1, z2, z3⟩ := q1.1.own j p o h1
      rw [h2] at z1; cases z1
      obtain ⟨u, hu⟩ := z3.some
      rw [hDa] at hu; cases hu
    · rename_i hj
      exact L.nO ⟨j, p, o, h1, by rw [wipe_out' hj]; exact h2⟩
theorem q_lc {elt tg iter : Expr} {ifs : List Expr} {scope : Scope} {ownN : List (Str × Nat)} {pos : Pos} {p : Pat} {it : Y.It} {cs : Es} {ie : Y.E} (hc : X.calm = true) (hN : X.N.Nodup) (hi : PI X tg iter (tIt X E Γ it)) (ok : BlkOk X.N X.env.scope scope ownN)
    (hg : ∀ (s : Shared) (H : Hp) (C : Addr) (cl : List (Str × Addr)) (fp : List Addr), PG (X.blk s H scope (compEnvC scope cl C X.env) fp) tg (tPat X p)) (ht : ∀ (s : Shared) (H : Hp) (C : Addr) (cl : List (Str × Addr)) (fp : List Addr), PTs (X.blk s H scope (compEnvC scope cl C X.env) fp) ifs (tTs X E Γ cs))
    (he : ∀ (s : Shared) (H : Hp) (C : Addr) (cl : List (Str × Addr)) (fp : List Addr), PE (X.blk s H scope (compEnvC scope cl C X.env) fp) elt (tV X E Γ ie)) (hs : ∀ x, foldedSetIterable iter X.env x = pure x) (hv : ∀ i ∈ pvars p, i ∈ ownN.map (·.2)) :
    PE X (.ListComp elt [⟨tg, iter, ifs, 0⟩] scope pos) (tE X E Γ (.lc (ownN.map (·.2)) p it cs ie)) := (pe_lc hc hN hi ok hg ht he hs).weak (w_lc hv)
theorem q_setlc {i : Nat} {y : Str} {py spos : Pos} {elt tg iter : Expr} {ifs : List Expr} {scope : Scope} {ownN : List (Str × Nat)} {pos : Pos} {p : Pat} {it : Y.It} {cs : Es} {ie : Y.E} (hc : X.calm = true) (hN : X.N.Nodup) (hy : X.N[i]? = some y) (hyl : X.env.scope.names.lookup y = some .local)
    (hsw : swapsWith (.ListComp elt [⟨tg, iter, ifs, 0⟩] scope pos) (some (.Name y py)) spos.line X.env = pure true) (hi : PI X tg iter (tIt X E Γ it)) (ok : BlkOk X.N X.env.scope scope ownN)
    (hg : ∀ (s : Shared) (H : Hp) (C : Addr) (cl : List (Str × Addr)) (fp : List Addr), PG (X.blk s H scope (compEnvC scope cl C X.env) fp) tg (tPat X p)) (ht : ∀ (s : Shared) (H : Hp) (C : Addr) (cl : List (Str × Addr)) (fp : List Addr), PTs (X.blk s H scope (compEnvC scope cl C X.env) fp) ifs (tTs X E Γ cs))
    (he : ∀ (s : Shared) (H : Hp) (C : Addr) (cl : List (Str × Addr)) (fp : List Addr), PE (X.blk s H scope (compEnvC scope cl C X.env) fp) elt (tV X E Γ ie)) (hs : ∀ x, foldedSetIterable iter X.env x = pure x) (hv : ∀ i ∈ pvars p, i ∈ ownN.map (·.2)) :
    PS X (.Assign [.Name y py] (.ListComp elt [⟨tg, iter, ifs, 0⟩] scope pos) spos) (tS X E Γ (.set i (.lc (ownN.map (·.2)) p it cs ie))) := by
  refine (ps_setLc hc hN hy hyl hsw hi ok hg ht he hs).weak fun D σ H ⟨F, ρ, q⟩ => ?_
  have q : TMS X.K E (bnd (ev Γ (.lc (ownN.map (·.2)) p it cs ie)) fun r ρ => if i < ρ.length then .ok .nx (ρ.set i r.slot) else .bad) F ρ D σ H := by
    have q2 := q
    unfold ex at q2
    exact q2
  refine w_lc hv σ H _ ⟨F, ρ, q.1, ?_⟩
  cases e : ev Γ (.lc (ownN.map (·.2)) p it cs ie) ρ with
  | bad => have := q.2; rw [show bnd (ev Γ _) _ ρ = .bad from by unfold bnd; rw [e]] at this; exact this
  | exn x ρ' => have := q.2; rw [bnd_exn e] at this; exact this
  | ok r ρ1 =>
    intro v F1 H1 st sr rl
    have h := q.2
    rw [bnd_ok e] at h
    by_cases hl : i < ρ1.length
    · rw [if_pos hl] at h
      obtain ⟨h1, h2⟩ := SR.putR (r := r) (v := v) st sr hl (by cases r <;> exact rl)
      exact h _ F1 H1 h2 h1
    · rw [if_neg hl] at h
      exact False.elim h
end
end Y

set_option Elab.async false
set_option linter.all false
set_option maxRecDepth 100000
namespace Y
open PySem L2
section
variable {X : Cx} {E : XW} {Γ : Gam} {K : PySem.W.Frag} {F H F' H' : Hp} {ρ ρ' : Rho} {σ σ' : St}
theorem rlX_on {σ1 : St} {ρ1 : Rho} {F1 H1 : Hp} {r : R} {v : V} (h : rlX K σ ρ H σ1 ρ1 F1 H1 r v) (st : Stp σ1 ρ1 F1 H1 σ' ρ' F' H') : rlX K σ ρ H σ' ρ' F' H' r v := by
  cases r with
  | fz d => exact Rep.mono h st.ff
  | own o =>
    obtain ⟨a, e, n, q, w, z⟩ := h
    obtain ⟨u, hu⟩ := q.some
    obtain ⟨e1, e2, e3⟩ := st.apart hu n w
    exact ⟨a, e, e2, q.mono st.ff fun x hx => by rw [hu] at hx; cases hx; exact e1, e3, z⟩
theorem rlR_X {r : R} {v : V} : rlR K σ ρ H ρ' F' H' r v ↔ rlX K σ ρ H σ ρ' F' H' r v := by cases r <;> exact Iff.rfl
theorem q_par2 {i j : Nat} {x y : Str} {a b : Expr} {ia ib : Y.E} {px py pt pos : Pos} {kt k2 pt2} (hc : X.calm = true) (hN : X.N.Nodup) (hi : X.N[i]? = some x) (hj : X.N[j]? = some y) (hij : i ≠ j)
    (hx : X.env.scope.names.lookup x = some .local) (hy : X.env.scope.names.lookup y = some .local) (ha : PE X a (tE X E Γ ia)) (hb : PE X b (tE X E Γ ib)) (hsa : notStar a = true) (hsb : notStar b = true)
    (hw : swappedStores [.Tuple [.Name x px, .Name y py] kt pt] (.Tuple [a, b] k2 pt2) X.env = pure (some [x, y])) :
    PS X (.Assign [.Tuple [.Name x px, .Name y py] kt pt] (.Tuple [a, b] k2 pt2) pos) (tS X E Γ (.par [i, j] (.cons ia (.cons ib .nil)))) := by
  refine (ps_par hc hN hi hj hij hx hy (pa_cons ha (pa_cons hb pa_nil (star_cons hsb)) (star_cons hsa)) hw rfl).weak fun D σ H ⟨F, ρ, q⟩ => ?_
  have q : TMS X.K E (bnd (evRs Γ (.cons ia (.cons ib .nil))) fun rs => bnd (setAll [i, j] rs) fun _ => ret .nx) F ρ D σ H := by
    have q2 := q
    unfold ex at q2
    exact q2
  have q : TMS X.K E (bnd (ev Γ ia) fun r1 => bnd (ev Γ ib) fun r2 => bnd (setAll [i, j] [r1, r2]) fun _ => ret .nx) F ρ D σ H := by
    have e : (bnd (evRs Γ (.cons ia (.cons ib .nil))) fun rs => bnd (setAll [i, j] rs) fun _ => ret Fl.nx) = bnd (ev Γ ia) fun r1 => bnd (ev Γ ib) fun r2 => bnd (setAll [i, j] [r1, r2]) fun _ => ret Fl.nx := by
      show bnd (bnd (ev Γ ia) fun r => bnd (bnd (ev Γ ib) fun r => bnd (ret []) fun rs => ret (r :: rs)) fun rs => ret (r :: rs)) _ = _
      rw [bnd_assoc]
      congr 1
      funext r1
      rw [bnd_assoc, bnd_assoc]
      rfl
    rw [← e]; exact q
  refine ⟨F, ρ, q.1, ?_⟩
  cases e1 : ev Γ ia ρ with
  | bad => have := q.2; rw [show bnd (ev Γ ia) _ ρ = .bad from by unfold bnd; rw [e1]] at this; exact this
  | exn x ρ' => have := q.2; rw [bnd_exn e1] at this; exact this
  | ok r1 ρ1 =>
    intro v F1 H1 st1 sr1 rl1
    have q1 := q.go e1 st1 sr1
    refine ⟨F1, ρ1, sr1, ?_⟩
    cases e2 : ev Γ ib ρ1 with
    | bad => have := q1.2; rw [show bnd (ev Γ ib) _ ρ1 = .bad from by unfold bnd; rw [e2]] at this; exact this
    | exn x ρ' => have := q1.2; rw [bnd_exn e2] at this; exact this
    | ok r2 ρ2 =>
      intro w F2 H2 st2 sr2 rl2
      refine ⟨v, w, rfl, ?_⟩
      have h := q.2
      rw [bnd_ok e1, bnd_ok e2] at h
      have l1 := rlX_on (rlR_X.mp rl1) st2
      by_cases hl : i < ρ2.length
      · obtain ⟨s3, t3⟩ := SR.putR (r := r1) (v := v) (st1.trans st2) sr2 hl l1
        by_cases hl2 : j < ρ2.length
        · have l2 : rlX X.K σ ρ H (σ.set i (some v)) (ρ2.set i r1.slot) F2 H2 r2 w := by
            have l2 := rlX_step st1 (rlR_X.mp rl2)
            cases r2 with
            | fz d => exact l2
            | own o =>
              obtain ⟨a2, e, n, qO, nw, z⟩ := l2
              refine ⟨a2, e, n, qO, fun ⟨k, p, ob, g1, g2⟩ => ?_, z⟩
              rcases get_set_cases hl g1 with ⟨rfl, g3⟩ | ⟨hk, g1⟩
              · rw [List.getElem?_set_self (by rw [← sr2.len]; exact hl)] at g2
                cases g2
                cases r1 with
                | fz d => cases g3
                | own o1 =>
                  obtain ⟨a1, f1, f2, f3, f4, _⟩ := rlR_X.mp rl1
                  cases f1
                  obtain ⟨a2', f5, _, _, _, f6⟩ := rlR_X.mp rl2
                  rw [e] at f5; cases f5
                  obtain ⟨u, hu⟩ := f3.some
                  rcases f6 with f6 | f6
                  · rw [f6] at hu; cases hu
                  · exact f4 f6
              · rw [List.getElem?_set_ne hk] at g2
                exact nw ⟨k, p, ob, g1, g2⟩
          obtain ⟨s4, t4⟩ := SR.putR (r := r2) (v := w) t3 s3 (by rw [List.length_set]; exact hl2) l2
          have es : bnd (setAll [i, j] [r1, r2]) (fun _ => ret Fl.nx) ρ2 = .ok .nx ((ρ2.set i r1.slot).set j r2.slot) := by
            unfold bnd setAll
            dsimp only
            rw [if_pos hl]
            unfold setAll
            rw [if_pos (by rw [List.length_set]; exact hl2)]
            rfl
          rw [es] at h
          exact h _ F2 H2 t4 s4
        · have es : bnd (setAll [i, j] [r1, r2]) (fun _ => ret Fl.nx) ρ2 = .bad := by
            unfold bnd setAll
            dsimp only
            rw [if_pos hl]
            unfold setAll
            rw [if_neg (by rw [List.length_set]; exact hl2)]
          rw [es] at h
          exact False.elim h
      · have es : bnd (setAll [i, j] [r1, r2]) (fun _ => ret Fl.nx) ρ2 = .bad := by
          unfold bnd setAll
          dsimp only
          rw [if_neg hl]
        rw [es] at h
        exact False.elim h
def notSlice : Expr → Bool
  | .Slice .. => false
  | _ => true
theorem set_ld (hu : X.A.units + 70 < cLine) : PSet X fun o i v H Q => rSetL o i v H Q ∨ rSetD o i v H Q := fun pins s σ H o i v ov iv u Q I ro ri rv h =>
  h.elim (set_list pins s σ H o i v ov iv u Q I ro ri rv) (set_dict (by omega) pins s σ H o i v ov iv u Q I ro ri rv)
theorem q_setix (hu : X.A.units + 70 < cLine) {i : Nat} {x : Str} {k e : Expr} {ik ie : Y.E} {p tp pos : Pos} (hN : X.N[i]? = some x) (hv : Vis X.env.scope x) (hd : (x == ("__debug__" : Str)) = false) (hcd : (x == ("__classdict__" : Str)) = false) (hk : PE X k (tV X E Γ ik)) (he : PE X e (tV X E Γ ie)) (hns : notSlice k = true)
    (hs : swapsWithSole [.Subscript (.Name x p) k tp] e pos.line X.env = pure false) (hw : swappedStores [.Subscript (.Name x p) k tp] e X.env = pure none) :
    PS X (.Assign [.Subscript (.Name x p) k tp] e pos) (tS X E Γ (.setix i ik ie)) := by
  refine (ps_asg he (pg_sub (pe_var hN hv hd hcd) hk (set_ld hu) (by intro v; cases k <;> first | rfl | exact absurd (show false = true from hns) Bool.false_ne_true)) hs hw rfl).weak fun D σ H ⟨F, ρ, q⟩ => ?_
  have q : TMS X.K E (bnd (asV ie (ev Γ ie)) fun d => guardOwn i <| bnd (asV ik (ev Γ ik)) fun kd ρ => match ρ[i]? with
    | some (.own p (.lst ds)) => match kd with
      | .int n => match L2.ixN ds.length n with
        | some j => .ok .nx (ρ.set i (.own p (.lst (ds.set j d))))
        | none => .bad
      | _ => .bad
    | some (.own p (.dic kvs)) => if isKey kd && decide (kvs.length < lim) then .ok .nx (ρ.set i (.own p (.dic (putD kd d kvs)))) else .bad
    | _ => .bad) F ρ D σ H := by
    have q2 := q
    unfold ex at q2
    exact q2
  refine ⟨F, ρ, (TMS.bind q).post fun v H1 ⟨d, ρ1, F1, rv, st, q1⟩ => ?_⟩
  obtain ⟨⟨p0, ob, ho⟩, q1⟩ := q1.guard
  obtain ⟨a, ha, hF, hO⟩ := q1.1.own i p0 ob ho
  refine ⟨.ref a, ha, F1, ρ1, (TMS.bind q1).post fun kv H2 ⟨kd, ρ2, F2, rk, st2, q2⟩ => ?_⟩
  have h := q2.2
  dsimp only at h
  cases e1 : ρ2[i]? with
  | none => rw [e1] at h; exact False.elim h
  | some sl =>
    rw [e1] at h
    cases sl with
    | und => exact False.elim h
    | fz d => exact False.elim h
    | own p1 ob1 =>
      obtain ⟨a', e2, hF2, hO2⟩ := q2.1.own i p1 ob1 e1
      rw [ha] at e2; cases e2
      cases ob1 with
      | dic kvs =>
        obtain ⟨vs, hH, hk2⟩ := hO2
        dsimp only at h
        cases eb : (isKey kd && decide (kvs.length < lim)) with
        | false => rw [eb] at h; exact h.elim
        | true =>
          rw [eb] at h
          rw [Bool.and_eq_true, decide_eq_true_eq] at eb
          obtain ⟨k, rfl⟩ := isKey_of eb.1
          have ek : kv = kV k := by
            cases k with
            | inl n => cases (show Dq X.K F2 kv (.int n) from rk); rfl
            | inr y => cases (show Dq X.K F2 kv (.str y) from rk); rfl
          subst ek
          obtain ⟨s1, s2⟩ := q2.1.mut (u := .dK (putK vs k v)) (o' := .dic (putD (keyP k) d kvs)) e1 ha ⟨_, upd_same, dqK_put k (dp_mono st2.ff rv) hk2⟩
          exact .inr ⟨a, _, rfl, DPut.k hH (by rw [dqK_len hk2, ← lim_eq]; exact eb.2), h σ F2 _ s2 s1⟩
      | lst ds =>
        obtain ⟨vs, hH, hds⟩ := hO2
        dsimp only at h
        cases kd with
        | int n =>
          dsimp only at h
          cases e3 : L2.ixN ds.length n with
          | none => rw [e3] at h; exact False.elim h
          | some jj =>
            rw [e3] at h
            cases (show Dq X.K F2 kv (.int n) from rk)
            obtain ⟨s1, s2⟩ := q2.1.mut (u := .lst (vs.set jj v)) (o' := .lst (ds.set jj d)) e1 ha ⟨_, upd_same, dpAll_set (dp_mono st2.ff rv) jj hds⟩
            exact .inl ⟨a, vs, n, jj, rfl, rfl, hH, by rw [dpAll_len hds]; exact e3, h σ F2 _ s2 s1⟩
        | _ => exact False.elim h
/-- constants alone -/
def conEs : Es → Bool
  | .nil => true
  | .cons (.con _) es => conEs es
  | _ => false
theorem conEs_ev : ∀ {es : Es}, conEs es = true → ∀ ρ, ∃ ds, evVs Γ es ρ = .ok ds ρ
  | .nil, _, ρ => ⟨[], rfl⟩
  | .cons (.con d) es, h, ρ => by
    obtain ⟨ds, e⟩ := conEs_ev (es := es) h ρ
    refine ⟨d :: ds, ?_⟩
    have : evVs Γ (.cons (.con d) es) = bnd (ret d) fun d => bnd (evVs Γ es) fun ds => ret (d :: ds) := rfl
    rw [this]
    show bnd (evVs Γ es) (fun ds => ret (d :: ds)) ρ = _
    rw [bnd_ok e]
    rfl
theorem q_rse0 {st : Stmt} {cls : Str} {es : Es} {Ex : XK} (h : conEs es = true) : PS X st (tS X (EX X.K Ex) Γ (.rse cls es)) := by
  refine ps_never.weak fun D σ H ⟨F, ρ, q⟩ => ?_
  obtain ⟨ds, e⟩ := conEs_ev (Γ := Γ) h ρ
  have h2 := q.2
  have e2 : ex Γ (.rse cls es) ρ = .exn (.mk cls ds) ρ := by
    show bnd (evVs Γ es) (fun ds ρ => Out.exn (.mk cls ds) ρ) ρ = _
    rw [bnd_ok e]
  rw [e2] at h2
  exact h2 σ F H .refl q.1
end
end Y

set_option Elab.async false
set_option linter.all false
set_option maxRecDepth 100000
/-! enumerate over a tuple or a text; zip over any two of them -/
namespace Y
open PySem
open Sem (wp)
set_option maxHeartbeats 1000000 in
theorem enum_new1 {v : Value} {o : Obj} {H : Heap → Prop} (B : Begins v o H) :
    Meets (Builtin.«enumerate.__new__» ⟨[.type "enumerate", v], []⟩) (fun _ R s => H s.heap ∧
      R (.ok (.ret (.ref (s.heap.push o).objs.size))) { s with heap := (s.heap.push o).push { cls := .type "enumerate", data := .fields #[.none, .bool false, .ref s.heap.objs.size, rawInt 0, .none, .none] } }) :=
  .of_wp fun prog w A R s h => by
    obtain ⟨hp, g, d, tk, os⟩ := s
    obtain ⟨h1, h⟩ := h
    have hsub := sub_enumerate
    have q1 : ∀ {A' : Around} {E : Value → Shared → Prop} {Q : Value → Shared → Prop}, Q (.ref hp.objs.size) ⟨hp.push o, g, d, tk, os⟩ → wpAny (model prog w) A' (pyIter v) Q E ⟨hp, g, d, tk, os⟩ :=
      fun q => B.iter prog w _ _ ⟨hp, g, d, tk, os⟩ _ h1 q
    wp_walk using q1
    refine wpAny_stack_any fun st => wpAny_pure ?_
    split
    · rename_i c _ _ _ _ _
      cases (c == Value.type "enumerate")
      · wp_walk using q1
        exact ⟨_, rfl, h⟩
      · wp_walk using q1
        exact ⟨_, rfl, h⟩
    · wp_walk using q1
      exact ⟨_, rfl, h⟩
theorem enum_made {prog : Program} {w : World} {A : Around} {E : Value → Shared → Prop} {s : Shared} {v : Value} {o : Obj} {H : Heap → Prop} {Q : Value → Shared → Prop} (B : Begins v o H) (h1 : H s.heap)
    (h : ∀ h', IsEnum h' (s.heap.objs.size + 1) s.heap.objs.size 0 .none → h'.get? s.heap.objs.size = some o → (∀ b o, s.heap.get? b = some o → h'.get? b = some o) → Q (.ref (s.heap.objs.size + 1)) { s with heap := h' }) :
    wpAny (model prog w) A (call (.type "enumerate") [v]) Q E s := by
  refine callType_new F.called_enumerate (by decide) (F.typeCall_enumerate_1 _) (F.newCall_enumerate_1 _) (fun obj => F.args_object_init_2 obj _) F.entry_enumerate_new (enum_new1 B) ⟨h1, ?_⟩
  have hz : (s.heap.push o).objs.size = s.heap.objs.size + 1 := Heap.size_push ..
  show _ ∧ _
  rw [hz]
  have he : IsEnum ((s.heap.push o).push { cls := .type "enumerate", data := .fields #[.none, .bool false, .ref s.heap.objs.size, rawInt 0, .none, .none] }) (s.heap.objs.size + 1) s.heap.objs.size 0 .none := by
    have := Heap.get?_push_size (s.heap.push o) (o := { cls := .type "enumerate", data := .fields #[.none, .bool false, .ref s.heap.objs.size, rawInt 0, .none, .none] }) rfl
    rw [hz] at this; exact this
  exact ⟨⟨_, he, rfl⟩, h _ he (Heap.get?_push_of_some _ (Heap.get?_push_size _ B.free)) fun b o x => Heap.get?_push_of_some _ (Heap.get?_push_of_some _ x)⟩
open L2
/-- the tuple at a, each item in a new pair -/
def IteT (K : PySem.W.Frag) (a : Addr) : L2.It :=
  ⟨fun i H => ∃ (xs : List V) (x : V), SqT K H a xs ∧ xs[i]? = some x, fun i H v H' => ∃ T x, v = .ref T ∧ H T = none ∧ H' = upd H T (.tup [.int (i : Nat), x]) ∧ ∀ xs, SqT K H a xs → xs[i]? = some x, fun i H => ∃ xs : List V, SqT K H a xs ∧ xs.length = i⟩
theorem turn_enumT {P : Program} {w : World} {K : PySem.W.Frag} {elts : List Expr} {kk : Nat} {tpos : Pos} (a e it : Addr) (hne : e ≠ it) (hia : a ≠ it) (hea : e ≠ a) :
    Turn P w K (.Tuple elts kk tpos) (IteT K a) [e, it] e (fun i h => (∃ old, IsEnum h e it ((i : Nat) : Int) old) ∧ h.IsTupleIter it a i) where
  mem := by simp
  obj := fun i h st b hb => by
    obtain ⟨⟨old, he⟩, ⟨o, ho, hc, hd⟩⟩ := st
    have e' : b = e ∨ b = it := by simpa using hb
    rcases e' with z | z
    · rw [z]; exact ⟨_, he, fun v q => nomatch q⟩
    · rw [z]; exact ⟨o, ho, fun v q => by rw [hd] at q; cases q⟩
  keep := fun i h h' st k => let ⟨⟨old, he⟩, hi⟩ := st; ⟨⟨old, k e (by simp) _ he⟩, hi.at fun o q => k it (by simp) o q⟩
  item := by
    intro X hP hw hK hc i pins s σ H E I hf st hg
    subst hP hw hK
    obtain ⟨⟨old, he⟩, hit⟩ := st
    obtain ⟨xs, x, hq, hx⟩ := hg
    obtain ⟨its, rv, p, hz⟩ := I.tuple hq
    obtain ⟨u, hu, ru⟩ := rv.get hx
    have hel : e < s.heap.objs.size := Heap.lt_size he
    have hil : it < s.heap.objs.size := by obtain ⟨_, q, _⟩ := hit; exact Heap.lt_size q
    have D := Draws.tuple (prog := X.prog) (w := X.w) (A := X.A.in1) (I.ok.hd hc) it a hia its.toArray
    have hlt : i < its.toArray.size := by
      have := (List.getElem?_eq_some_iff.mp hu).1
      simpa using this
    refine wpAny_pyNext_enum_itemC D he ⟨hit, p⟩ hlt hne (by simp [hne, hea]) fun x2 h' tk hP ho hit' hT hsz hk => ?_
    have ex : x2 = u := by
      have hP : its.toArray[i]? = some x2 := hP
      have hu2 : its.toArray[i]? = some u := by simpa using hu
      rw [hP] at hu2; cases hu2; rfl
    subst ex
    refine ⟨_, rfl, wpAny_letOwnedTupleGo_enum (s := { s with heap := h', toks := tk + 1 }) ho fun h'' he' sb => ?_⟩
    have hT2 : h''.get? s.heap.objs.size = some { cls := .type "tuple", data := .seq #[.int i tk, x2] } := (sb.2 _ (Nat.ne_of_gt hel)).trans hT
    have new : ObjOk X.prog X.w (upd H s.heap.objs.size (.tup [.int (i : Nat), x])) h'' s.heap.objs.size (.tup [.int (i : Nat), x]) :=
      ⟨by show 2 ≤ sizeLine; decide, [.int i tk, x2], .cons ⟨_, rfl⟩ (.cons ru .nil), ⟨_, hT2, rfl, _, rfl⟩⟩
    have I1 : L2.Inv X pins σ (upd H s.heap.objs.size (.tup [.int (i : Nat), x])) { s with heap := h'', toks := tk + 1 } :=
      I.turnedNew (ch := [e, it]) (fun b ob hb q => (sb.2 b (fun z => hb (by simp [z]))).trans (hk b ob (fun z => hb (by simp [z])) (fun z => hb (by simp [z])) q)) hf (Nat.le_refl _) new
    refine ⟨.ref s.heap.objs.size, _, I1, rfl, ⟨_, x, rfl, I.hok.fresh (Nat.le_refl _), rfl, fun ys hy => by rw [I.tuple_inj hy hq]; exact hx⟩, ⟨⟨x2, ?_⟩, hit'.1.at fun o q => (sb.2 it (Ne.symm hne)).trans q⟩, fun b hb => ?_⟩
    · have e1 : ((i + 1 : Nat) : Int) = (i : Int) + 1 := by omega
      rw [e1]; exact he'
    · have hb' : b < s.heap.objs.size := by
        have e' : b = e ∨ b = it := by simpa using hb
        rcases e' with z | z
        · rw [z]; exact hel
        · rw [z]; exact hil
      rw [upd_ne (Nat.ne_of_lt hb')]
      exact (hf b hb).1
  done := by
    intro X hP hw hK hc i pins s σ H E I hf st hg
    subst hP hw hK
    obtain ⟨⟨old, he⟩, hit⟩ := st
    obtain ⟨xs, hq, hx⟩ := hg
    obtain ⟨its, rv, p, hz⟩ := I.tuple hq
    obtain ⟨f0, f1, f2, f3, f4, f5⟩ := hf it (by simp)
    have hl := rv.length
    have D := Draws.tuple (prog := X.prog) (w := X.w) (A := X.A.in1) (I.ok.hd hc) it a hia its.toArray
    have hn : its.toArray.size = i := by simp; omega
    refine wpAny_pyNext_enum_endD D he ⟨by rw [hn]; exact hit, p⟩ fun h' eb => ⟨rfl, I.turned (t' := s.toks) (fun b o hb q => eb b o hb q) f0 f1 f3 f4 f5⟩
  self := fun A i s Q E st h => let ⟨⟨_, he⟩, _⟩ := st; wpAny_pyIter_enum he h
/-- a tuple and a text, in pairs -/
def ItzS (K : PySem.W.Frag) (a : Addr) (y : Str) : L2.It :=
  ⟨fun i H => ∃ (xs : List V) (x : V) (c : Nat), SqT K H a xs ∧ xs[i]? = some x ∧ y.cps[i]? = some c,
    fun i H v H' => ∃ T x c, v = .ref T ∧ H T = none ∧ H' = upd H T (.tup [x, .str ⟨#[c]⟩]) ∧ (∀ xs, SqT K H a xs → xs[i]? = some x) ∧ y.cps[i]? = some c,
    fun i H => ∃ xs : List V, SqT K H a xs ∧ i = min xs.length y.cps.size⟩
theorem turn_zipS {P : Program} {w : World} {K : PySem.W.Frag} {elts : List Expr} {kk : Nat} {tpos : Pos} {a z TI TO i1 i2 : Addr} {y : Str} {t : Tok} (hia : a ≠ i1) (D : ZipSep2 z TI TO i1 i2 [i1, a] [i2]) :
    Turn P w K (.Tuple elts kk tpos) (ItzS K a y) [z, TI, TO, i1, i2] z (fun i h => IsZip h z TI TO .none ∧ IsTupOf2 h TI (.ref i1) (.ref i2) ∧ (∃ x y, IsTupOf2 h TO x y) ∧ h.IsTupleIter i1 a i ∧ h.IsStrIter i2 (strIterType y) y t i) where
  mem := by simp
  obj := fun i h st c hc => by
    obtain ⟨hz, hTI, ⟨x, y, hTO⟩, ⟨o1, e1, _, d1⟩, ⟨o2, e2, _, d2⟩⟩ := st
    have e' : c = z ∨ c = TI ∨ c = TO ∨ c = i1 ∨ c = i2 := by simpa using hc
    rcases e' with q | q | q | q | q
    · rw [q]; exact ⟨_, hz, fun v q => nomatch q⟩
    · rw [q]; exact ⟨_, hTI, fun v q => nomatch q⟩
    · rw [q]; exact ⟨_, hTO, fun v q => nomatch q⟩
    · rw [q]; exact ⟨o1, e1, fun v q => by rw [d1] at q; cases q⟩
    · rw [q]; exact ⟨o2, e2, fun v q => by rw [d2] at q; cases q⟩
  keep := fun i h h' st k => by
    obtain ⟨hz, hTI, ⟨x, y, hTO⟩, h1, h2⟩ := st
    exact ⟨k z (by simp) _ hz, k TI (by simp) _ hTI, ⟨x, y, k TO (by simp) _ hTO⟩, h1.at fun o q => k i1 (by simp) o q, let ⟨o, ho, r⟩ := h2; ⟨o, k i2 (by simp) _ ho, r⟩⟩
  item := by
    intro X hP hw hK hc i pins s σ H E I hf st hg
    subst hP hw hK
    obtain ⟨hz, hTI, ⟨x0, y0, hTO⟩, h1, h2⟩ := st
    obtain ⟨xs, x, c, hqx, hx, hy⟩ := hg
    obtain ⟨its, rv, p, _⟩ := I.tuple hqx
    obtain ⟨u, hu, ru⟩ := rv.get hx
    have hzl : z < s.heap.objs.size := Heap.lt_size hz
    have D1 := Draws.tuple (prog := X.prog) (w := X.w) (A := X.A.in1) (I.ok.hd hc) i1 a hia its.toArray
    have D2 := Draws.text (prog := X.prog) (w := X.w) (A := X.A.in1) (I.ok.hd hc) i2 y t
    have hlt1 : i < its.toArray.size := by
      have := (List.getElem?_eq_some_iff.mp hu).1
      simpa using this
    have hlt2 : i < y.cps.size := (Array.getElem?_eq_some_iff.mp hy).1
    refine wpAny_pyNext_zipD2_item D D1 D2 hz hTI hTO ⟨h1, p⟩ h2 hlt1 hlt2 fun x1 x2 h' tk hP1 hP2 z' TO' h1' h2' hT hsz hk => ?_
    have ex : x1 = u := by
      have hP : its.toArray[i]? = some x1 := hP1
      have hu2 : its.toArray[i]? = some u := by simpa using hu
      rw [hP] at hu2; cases hu2; rfl
    subst ex
    obtain ⟨c2, t2, hc2, ec⟩ := hP2
    rw [hy] at hc2; cases hc2
    refine ⟨_, rfl, wpAny_letOwnedTupleGo_zip (s := { s with heap := h', toks := tk }) z' fun h'' z'' sb => ?_⟩
    have hT2 : h''.get? s.heap.objs.size = some { cls := .type "tuple", data := .seq #[x1, x2] } := (sb.2 _ (Nat.ne_of_gt hzl)).trans hT
    have new : ObjOk X.prog X.w (upd H s.heap.objs.size (.tup [x, .str ⟨#[c]⟩])) h'' s.heap.objs.size (.tup [x, .str ⟨#[c]⟩]) :=
      ⟨by show 2 ≤ sizeLine; decide, [x1, x2], .cons ru (.cons ⟨t2, ec⟩ .nil), ⟨_, hT2, rfl, _, rfl⟩⟩
    have I1 : L2.Inv X pins σ (upd H s.heap.objs.size (.tup [x, .str ⟨#[c]⟩])) { s with heap := h'', toks := tk } :=
      I.turnedNew (t' := tk) (ch := [z, TI, TO, i1, i2]) (fun c o hb q => (sb.2 c (fun q' => hb (by simp [q']))).trans (hk c o (fun q' => hb (by simp [q'])) (fun q' => hb (by simp [q'])) (fun q' => hb (by simp [q'])) (fun q' => hb (by simp [q'])) q)) hf (Nat.le_refl _) new
    refine ⟨.ref s.heap.objs.size, _, I1, rfl, ⟨_, x, c, rfl, I.hok.fresh (Nat.le_refl _), rfl, fun l hl => by rw [I.tuple_inj hl hqx]; exact hx, hy⟩, ⟨z'', ?_, ⟨x1, x2, ?_⟩, ?_, ?_⟩, fun c hcm => ?_⟩
    · exact (sb.2 _ D.TIz).trans (hk _ _ D.TIz D.TITO D.TIi1 D.TIi2 hTI)
    · exact (sb.2 _ D.TOz).trans TO'
    · exact h1'.1.at fun o q => (sb.2 _ (Ne.symm D.zi1)).trans q
    · obtain ⟨o, ho, r⟩ := h2'
      exact ⟨o, (sb.2 _ (Ne.symm D.zi2)).trans ho, r⟩
    · have hlt : c < s.heap.objs.size := by
        have e' : c = z ∨ c = TI ∨ c = TO ∨ c = i1 ∨ c = i2 := by simpa using hcm
        rcases e' with q | q | q | q | q
        · rw [q]; exact hzl
        · rw [q]; exact Heap.lt_size hTI
        · rw [q]; exact Heap.lt_size hTO
        · rw [q]; obtain ⟨_, e1, _⟩ := h1; exact Heap.lt_size e1
        · rw [q]; obtain ⟨_, e2, _⟩ := h2; exact Heap.lt_size e2
      rw [upd_ne (Nat.ne_of_lt hlt)]
      exact (hf c hcm).1
  done := by
    intro X hP hw hK hc i pins s σ H E I hf st hg
    subst hP hw hK
    obtain ⟨hz, hTI, ⟨x0, y0, hTO⟩, h1, h2⟩ := st
    obtain ⟨xs, hqx, hend⟩ := hg
    obtain ⟨its, rv, p, _⟩ := I.tuple hqx
    have l1 := rv.length
    have D1 := Draws.tuple (prog := X.prog) (w := X.w) (A := X.A.in1) (I.ok.hd hc) i1 a hia its.toArray
    have D2 := Draws.text (prog := X.prog) (w := X.w) (A := X.A.in1) (I.ok.hd hc) i2 y t
    have e1 : its.toArray.size = xs.length := by simp [l1]
    exact wpAny_pyNext_zipD2_end D D1 D2 hz hTI hTO ⟨h1, p⟩ h2 (by omega) (by omega) (by omega) fun h' tk hk => ⟨rfl, I.turnedL (t' := tk) (ch := [z, TI, TO, i1, i2]) (fun c o hb q =>
      hk c o (fun q' => hb (by simp [q'])) (fun q' => hb (by simp [q'])) (fun q' => hb (by simp [q'])) (fun q' => hb (by simp [q'])) q) hf⟩
  self := fun A i s Q E st h => wpAny_pyIter_zip st.1 h
section
open PySem.Spec PyProof.Rows
def iEnumA (K : PySem.W.Frag) (ta : TA) : TI := fun σ H R => ta σ H fun vs H1 => ∃ a xs, vs = [.ref a] ∧ ((SqL K H1 a xs ∧ R (Ite K a) H1) ∨ (SqT K H1 a xs ∧ R (IteT K a) H1))
theorem pi_enumA {X : Cx} {e : Expr} {ta : TA} {p pos tpos : Pos} {elts : List Expr} {kk : Nat} (hg : Gl X "enumerate") (hm : X.mg "enumerate" = none) (ha : PA X [e] ta) (hs : starEach [e] X.env = [(false, eval e X.env)]) :
    PI X (.Tuple elts kk tpos) (.Call (.Name "enumerate" p) [e] [] pos) (iEnumA X.K ta) := by
  refine ⟨fun pins s σ H R I h => ?_⟩
  refine Call_ (ld_blt I hg hm boot_enumerate (PyProof.Rows.callWith_type1 (thn (ha.run pos pins s σ H _ I h) fun us s1 ⟨vs, H1, I1, r1, q1⟩ => ?_) hs rfl))
  obtain ⟨a, xs, ex, q1⟩ := q1
  subst ex
  cases r1 with
  | cons r rr =>
    cases rr
    cases r
    have fresh2 : ∀ b ∈ [s1.heap.objs.size + 1, s1.heap.objs.size], FpOk X pins H1 b := fun b hb => by
      have e' : b = s1.heap.objs.size + 1 ∨ b = s1.heap.objs.size := by simpa using hb
      have hle : s1.heap.objs.size ≤ b := by
        rcases e' with z | z
        · rw [z]; exact Nat.le_add_right _ _
        · rw [z]; exact Nat.le_refl _
      exact I1.fpOk hle (I1.hok.fresh hle)
    rcases q1 with ⟨hq, q⟩ | ⟨hq, q⟩
    · obtain ⟨its, rv, p', hz⟩ := I1.list hq
      refine call_enumerate_list p'.isList fun h' he hit hsz hk => wpAny_pyIter_enum he ?_
      have I2 : L2.Inv X pins σ H1 { s1 with heap := h' } := I1.kept (t' := s1.toks) hk
      exact ⟨s1.heap.objs.size + 1, [s1.heap.objs.size + 1, s1.heap.objs.size], _, _, H1, rfl, I2, turn_enum a (s1.heap.objs.size + 1) s1.heap.objs.size, ⟨⟨.none, he⟩, hit, Nat.succ_ne_self _⟩, fresh2, q⟩
    · obtain ⟨its, rv, p', hz⟩ := I1.tuple hq
      have hlt : a < s1.heap.objs.size := by obtain ⟨o, ho, _⟩ := id p'; exact Heap.lt_size ho
      refine enum_made (begins_tuple a its.toArray) p' fun h' he hit hk => wpAny_pyIter_enum he ?_
      have I2 : L2.Inv X pins σ H1 { s1 with heap := h' } := I1.kept (t' := s1.toks) hk
      exact ⟨s1.heap.objs.size + 1, [s1.heap.objs.size + 1, s1.heap.objs.size], _, _, H1, rfl, I2, turn_enumT a (s1.heap.objs.size + 1) s1.heap.objs.size (Nat.succ_ne_self _) (Nat.ne_of_lt hlt) (Nat.ne_of_gt (Nat.lt_succ_of_lt hlt)), ⟨⟨.none, he⟩, ⟨_, hit, rfl, rfl⟩⟩, fresh2, q⟩
def iZipB (K : PySem.W.Frag) (ta : TA) : TI := fun σ H R => ta σ H fun vs H1 => (∃ a b xs ys, vs = [.ref a, .ref b] ∧ ((SqL K H1 a xs ∧ SqL K H1 b ys ∧ R (Itz K a b) H1) ∨ (SqT K H1 a xs ∧ SqT K H1 b ys ∧ R (RZ.ItzT K a b) H1))) ∨ ∃ a xs y, vs = [.ref a, .str y] ∧ SqT K H1 a xs ∧ R (ItzS K a y) H1
theorem pi_zipB {X : Cx} {e e2 : Expr} {ta : TA} {p pos tpos : Pos} {elts : List Expr} {kk : Nat} (hg : Gl X "zip") (hm : X.mg "zip" = none) (ha : PA X [e, e2] ta)
    (hs : starEach [e, e2] X.env = (false, eval e X.env) :: starEach [e2] X.env) (hpl : (backTo pos (starEach [e2] X.env)).any (·.1) = false) :
    PI X (.Tuple elts kk tpos) (.Call (.Name "zip" p) [e, e2] [] pos) (iZipB X.K ta) := by
  refine ⟨fun pins s σ H R I h => ?_⟩
  refine Call_ (ld_blt I hg hm PyProof.Rows.boot_zip (PyProof.Rows.callWith_type1 (thn (ha.run pos pins s σ H _ I h) fun us s1 ⟨vs, H1, I1, r1, q1⟩ => ?_) hs hpl))
  have fresh5 : ∀ c, c ∈ [s1.heap.objs.size + 4, s1.heap.objs.size + 2, s1.heap.objs.size + 3, s1.heap.objs.size, s1.heap.objs.size + 1] → FpOk X pins H1 c := fun c hcm => by
    have e' : c = s1.heap.objs.size + 4 ∨ c = s1.heap.objs.size + 2 ∨ c = s1.heap.objs.size + 3 ∨ c = s1.heap.objs.size ∨ c = s1.heap.objs.size + 1 := by simpa using hcm
    have hle : s1.heap.objs.size ≤ c := by
      rcases e' with z | z | z | z | z
      · rw [z]; exact Nat.le_add_right _ _
      · rw [z]; exact Nat.le_add_right _ _
      · rw [z]; exact Nat.le_add_right _ _
      · rw [z]; exact Nat.le_refl _
      · rw [z]; exact Nat.le_add_right _ _
    exact I1.fpOk hle (I1.hok.fresh hle)
  rcases q1 with ⟨a, b, xs, ys, ex, q1⟩ | ⟨a, xs, y, ex, hqx, q⟩
  · subst ex
    cases r1 with
    | cons r rr =>
      cases rr with
      | cons r' rr =>
        cases rr
        cases r
        cases r'
        rcases q1 with ⟨hqx, hqy, q⟩ | ⟨hqx, hqy, q⟩
        · obtain ⟨its, rv, p1, _⟩ := I1.list hqx
          obtain ⟨its2, rv2, p2, _⟩ := I1.list hqy
          refine call_zip_2 p1.isList p2.isList fun h' hz hTI hTO h1 h2 hsz hk => wpAny_pyIter_zip hz ?_
          have I2 : L2.Inv X pins σ H1 { s1 with heap := h' } := I1.kept (t' := s1.toks) hk
          exact ⟨s1.heap.objs.size + 4, [s1.heap.objs.size + 4, s1.heap.objs.size + 2, s1.heap.objs.size + 3, s1.heap.objs.size, s1.heap.objs.size + 1], _, _, H1, rfl, I2, turn_zip (PySem.W.ktu_apart s1.heap.objs.size a b p1.lt p2.lt), ⟨hz, hTI, ⟨_, _, hTO⟩, h1, h2⟩, fresh5, q⟩
        · obtain ⟨its, rv, p1, _⟩ := I1.tuple hqx
          obtain ⟨its2, rv2, p2, _⟩ := I1.tuple hqy
          have l1 : a < s1.heap.objs.size := by obtain ⟨o, ho, _⟩ := id p1; exact Heap.lt_size ho
          have l2 : b < s1.heap.objs.size := by obtain ⟨o, ho, _⟩ := id p2; exact Heap.lt_size ho
          refine zip_begins2 (begins_tuple a its.toArray) (begins_tuple b its2.toArray) p1 p2 fun h' hz hTI hTO h1 h2 hsz hk => wpAny_pyIter_zip hz ?_
          have I2 : L2.Inv X pins σ H1 { s1 with heap := h' } := I1.kept (t' := s1.toks) hk
          exact ⟨s1.heap.objs.size + 4, [s1.heap.objs.size + 4, s1.heap.objs.size + 2, s1.heap.objs.size + 3, s1.heap.objs.size, s1.heap.objs.size + 1], _, _, H1, rfl, I2, RZ.turn_zipT (PySem.W.ktu_apart s1.heap.objs.size a b l1 l2), ⟨hz, hTI, ⟨_, _, hTO⟩, ⟨_, h1, rfl, rfl⟩, ⟨_, h2, rfl, rfl⟩⟩, fresh5, q⟩
  · subst ex
    cases r1 with
    | cons r rr =>
      cases rr with
      | cons r' rr =>
        cases rr
        cases r
        obtain ⟨t, rfl⟩ := r'
        obtain ⟨its, rv, p1, _⟩ := I1.tuple hqx
        have l1 : a < s1.heap.objs.size := by obtain ⟨o, ho, _⟩ := id p1; exact Heap.lt_size ho
        refine zip_begins2 (begins_tuple a its.toArray) (begins_text y t) p1 trivial fun h' hz hTI hTO h1 h2 hsz hk => wpAny_pyIter_zip hz ?_
        have I2 : L2.Inv X pins σ H1 { s1 with heap := h' } := I1.kept (t' := s1.toks) hk
        exact ⟨s1.heap.objs.size + 4, [s1.heap.objs.size + 4, s1.heap.objs.size + 2, s1.heap.objs.size + 3, s1.heap.objs.size, s1.heap.objs.size + 1], _, _, H1, rfl, I2, turn_zipS (y := y) (t := t) (Nat.ne_of_lt l1) (zip_sep2 (N := s1.heap.objs.size) (fp1 := [a]) (fp2 := []) (fun b hb => by rw [List.mem_singleton.mp hb]; exact l1) (fun b hb => by cases hb)), ⟨hz, hTI, ⟨_, _, hTO⟩, ⟨_, h1, rfl, rfl⟩, ⟨_, h2, rfl, rfl⟩⟩, fresh5, q⟩
end
section
variable {X : Cx} {E : XW} {Γ : Gam} {K : PySem.W.Frag} {F H : Hp} {ρ : Rho} {σ : List (Option V)}
theorem enuD_get : ∀ {ds : List PyData} {k i : Nat} {d : PyData}, (enuD k ds)[i]? = some d → ∃ x, ds[i]? = some x ∧ d = .tuple [.int ((k + i : Nat) : Int), x]
  | [], k, i, d, h => by simp [enuD] at h
  | a :: r, k, 0, d, h => by simp [enuD] at h; exact ⟨a, rfl, h.symm⟩
  | a :: r, k, i + 1, d, h => by
    have h : (enuD (k + 1) r)[i]? = some d := by simpa [enuD] using h
    obtain ⟨x, h1, h2⟩ := enuD_get h
    refine ⟨x, by simpa using h1, ?_⟩
    rw [h2, show k + 1 + i = k + (i + 1) by omega]
theorem enuD_len : ∀ {ds : List PyData} {k : Nat}, (enuD k ds).length = ds.length
  | [], _ => rfl
  | _ :: r, k => congrArg (· + 1) (enuD_len (ds := r) (k := k + 1))
theorem yields_enuL {a : Addr} {vs : List V} {ds : List PyData} (q : SqL K F a vs) (r : DqAll K F vs ds) : Yields K F (Ite K a) (enuD 0 ds) := fun i G H s1 s2 => by
  have qH : SqL K H a vs := s2.seq (s1.seq q)
  have hl := dpAll_len r
  rw [enuD_len]
  refine ⟨fun h => ?_, fun h => ⟨vs, qH, by omega⟩, fun x H' d hd ⟨T, x1, e1, n, e2, z1⟩ => ?_⟩
  · obtain ⟨v, h1, _⟩ := dpAll_get r (List.getElem?_eq_getElem h)
    exact ⟨vs, v, qH, h1⟩
  · subst e1 e2
    obtain ⟨d1, h1, rfl⟩ := enuD_get hd
    obtain ⟨v, g1, g2⟩ := dpAll_get r h1
    have t1 := z1 vs qH
    rw [g1] at t1; cases t1
    have al := Alc.newF (u := .tup [.int (i : Nat), x1]) s2 n
    refine ⟨_, al, Dq.tup (SqT.of upd_same) ?_⟩
    rw [Nat.zero_add]
    exact .cons (.int _) (.cons (dp_mono al.ff (dp_mono s1 g2)) .nil)
theorem yields_enuT {a : Addr} {vs : List V} {ds : List PyData} (q : SqT K F a vs) (r : DqAll K F vs ds) : Yields K F (IteT K a) (enuD 0 ds) := fun i G H s1 s2 => by
  have qH : SqT K H a vs := seqT_mono s2 (seqT_mono s1 q)
  have hl := dpAll_len r
  rw [enuD_len]
  refine ⟨fun h => ?_, fun h => ⟨vs, qH, by omega⟩, fun x H' d hd ⟨T, x1, e1, n, e2, z1⟩ => ?_⟩
  · obtain ⟨v, h1, _⟩ := dpAll_get r (List.getElem?_eq_getElem h)
    exact ⟨vs, v, qH, h1⟩
  · subst e1 e2
    obtain ⟨d1, h1, rfl⟩ := enuD_get hd
    obtain ⟨v, g1, g2⟩ := dpAll_get r h1
    have t1 := z1 vs qH
    rw [g1] at t1; cases t1
    have al := Alc.newF (u := .tup [.int (i : Nat), x1]) s2 n
    refine ⟨_, al, Dq.tup (SqT.of upd_same) ?_⟩
    rw [Nat.zero_add]
    exact .cons (.int _) (.cons (dp_mono al.ff (dp_mono s1 g2)) .nil)
theorem yields_zipS {a : Addr} {vs : List V} {ds : List PyData} {y : Str} (q : SqT K F a vs) (r : DqAll K F vs ds) : Yields K F (ItzS K a y) (zipD ds (y.cps.toList.map fun c => .str ⟨#[c]⟩)) := fun i G H s1 s2 => by
  have qH : SqT K H a vs := seqT_mono s2 (seqT_mono s1 q)
  have hl := dpAll_len r
  have hy : (y.cps.toList.map fun c => PyData.str ⟨#[c]⟩).length = y.cps.size := by simp
  rw [zipD_len, hy]
  refine ⟨fun h => ?_, fun h => ⟨vs, qH, by omega⟩, fun x H' d hd ⟨T, x1, c, e1, n, e2, z1, z2⟩ => ?_⟩
  · obtain ⟨v, h1, _⟩ := dpAll_get r (List.getElem?_eq_getElem (by omega : i < ds.length))
    exact ⟨vs, v, _, qH, h1, Array.getElem?_eq_getElem (by omega : i < y.cps.size)⟩
  · subst e1 e2
    obtain ⟨d1, d2, h1, h2, rfl⟩ := zipD_get hd
    obtain ⟨v, g1, g2⟩ := dpAll_get r h1
    have t1 := z1 vs qH
    rw [g1] at t1; cases t1
    rw [List.getElem?_map, Array.getElem?_toList, z2] at h2
    cases h2
    have al := Alc.newF (u := .tup [x1, .str ⟨#[c]⟩]) s2 n
    exact ⟨_, al, Dq.tup (SqT.of upd_same) (.cons (dp_mono al.ff (dp_mono s1 g2)) (.cons (.str _) .nil))⟩
theorem q_zip {a b : Expr} {ia ib : Y.E} {p pos tpos : Pos} {elts : List Expr} {kk : Nat} (hg : Gl X "zip") (hm : X.mg "zip" = none) (ha : PE X a (tV X E Γ ia)) (hb : PE X b (tV X E Γ ib)) (hs : notStar a = true) (hs' : notStar b = true) :
    PI X (.Tuple elts kk tpos) (.Call (.Name "zip" p) [a, b] [] pos) (tIt X E Γ (.zip ia ib)) := by
  refine ⟨fun pins s σ H R I ⟨F, ρ, q⟩ => ?_⟩
  refine (pi_zipB hg hm (pa_cons ha (pa_cons hb pa_nil (star_cons hs')) (star_cons hs)) (star_cons hs) (by rw [star_cons hs']; rfl)).run pins s σ H R I ?_
  refine ⟨F, ρ, (TM.bind rlIt_t q).post fun x H1 ⟨d, ρ1, F1, rx, st, q1⟩ => ?_⟩
  refine ⟨F1, ρ1, (TM.bind rlIt_t q1).post fun y H2 ⟨e, ρ2, F2, ry, st2, q2⟩ => ?_⟩
  have q2 : TM X.K E (rlIt X.K) (ofO (zip2D d e)) F2 ρ2 σ H2 R := q2
  obtain ⟨r, hr⟩ := q2.get?
  have he := ofO_ok (ρ := ρ2) hr
  have rx : Dq X.K F2 x d := Rep.mono rx st2.ff
  have ry : Dq X.K F2 y e := ry
  have sub := q2.sr.sub
  have fin : ∀ J, Yields X.K F2 J r → R J H2 := fun J y => by
    have h := q2.2
    rw [he] at h
    exact h J F2 H2 .refl q2.1 y
  unfold zip2D at hr
  split at hr
  · cases hr
    cases rx with
    | lst k1 k2 =>
      cases ry with
      | lst k3 k4 => exact .inl ⟨_, _, _, _, rfl, .inl ⟨sub.seq k1, sub.seq k3, fin _ (yields_zipL k1 k2 k3 k4)⟩⟩
  · cases hr
    cases rx with
    | tup k1 k2 =>
      cases ry with
      | tup k3 k4 => exact .inl ⟨_, _, _, _, rfl, .inr ⟨seqT_mono sub k1, seqT_mono sub k3, fin _ (yields_zipT k1 k2 k3 k4)⟩⟩
  · cases hr
    cases rx with
    | tup k1 k2 =>
      cases ry
      exact .inr ⟨_, _, _, rfl, seqT_mono sub k1, fin _ (yields_zipS k1 k2)⟩
  · cases hr
theorem q_enu {a : Expr} {ia : Y.E} {p pos tpos : Pos} {elts : List Expr} {kk : Nat} (hg : Gl X "enumerate") (hm : X.mg "enumerate" = none) (ha : PE X a (tV X E Γ ia)) (hs : notStar a = true) :
    PI X (.Tuple elts kk tpos) (.Call (.Name "enumerate" p) [a] [] pos) (tIt X E Γ (.enu ia)) := by
  refine ⟨fun pins s σ H R I ⟨F, ρ, q⟩ => ?_⟩
  refine (pi_enumA hg hm (pa_cons ha pa_nil (star_cons hs)) (by rw [star_cons hs]; rfl)).run pins s σ H R I ?_
  refine ⟨F, ρ, (TM.bind rlIt_t q).post fun x H1 ⟨d, ρ1, F1, rx, st, q1⟩ => ?_⟩
  obtain ⟨xs, hr, q2⟩ := q1.ofO
  have rx : Dq X.K F1 x d := rx
  have sub := q2.sr.sub
  unfold enuQ at hr
  split at hr
  · cases hr
    cases rx with
    | lst k1 k2 => exact ⟨_, _, rfl, .inl ⟨sub.seq k1, q2.ret (yields_enuL k1 k2)⟩⟩
  · cases hr
    cases rx with
    | tup k1 k2 => exact ⟨_, _, rfl, .inr ⟨seqT_mono sub k1, q2.ret (yields_enuT k1 k2)⟩⟩
  · cases hr
end
end Y

set_option Elab.async false
set_option linter.all false
set_option maxRecDepth 100000
namespace HT
open PySem PySem.Spec PyProof.Rows
theorem fm_cong {α β : Type} {f g : α → Option β} : ∀ {l : List α}, (∀ x ∈ l, f x = g x) → l.filterMap f = l.filterMap g
  | [], _ => rfl
  | a :: r, h => by
    rw [List.filterMap_cons, List.filterMap_cons, h a List.mem_cons_self, fm_cong fun x hx => h x (List.mem_cons_of_mem _ hx)]
section
variable {prog : Program} {w : World} {A : Around} {E : Value → Shared → Prop} {s : Shared}
theorem rev_places (n : Nat) : Builtin.Slice.slicePlaces ((n : Int) - 1) (-1) (-1) = n := by
  unfold Builtin.Slice.slicePlaces
  simp
  try omega
theorem rev_adjust (n : Nat) : Builtin.Slice.sliceAdjust none none (-1) (n : Int) = ((n : Int) - 1, -1) := by
  unfold Builtin.Slice.sliceAdjust
  simp
  try omega
theorem sliceApplied_rev {sl : Addr} {vs : Value} {n : Nat} {Q : Int × Int × Nat → Shared → Prop} (hs : s.heap.IsSliceOf sl .none .none vs) (ps : PySem.IsPart vs (some (-1)))
    (h : Q ((n : Int) - 1, -1, n) s) : wpAny (model prog w) A (Builtin.Slice.sliceApplied (.ref sl) (pure (n : Int))) Q E s := by
  obtain ⟨os, hos, hcs, hds⟩ := id hs
  unfold Builtin.Slice.sliceApplied Builtin.Slice.sliceFields
  refine wpAny_bind (wpAny_bind (wpAny_field hos hds (x := .none) rfl (wpAny_bind (wpAny_field hos hds (x := .none) rfl (wpAny_bind (wpAny_field hos hds (x := vs) rfl (wpAny_pure ?_)))))))
  refine wpAny_bind (slicePart_ ps ?_)
  show wpAny _ _ (if ((-1 : Int) == 0) = true then _ else _) _ _ s
  rw [if_neg (by decide)]
  refine wpAny_bind (slicePart_none (wpAny_bind (slicePart_none (wpAny_bind (wpAny_pure ?_)))))
  show wpAny _ _ (match Builtin.Slice.sliceAdjust none none (-1) (n : Int) with | (lo, hi) => pure (lo, (-1 : Int), Builtin.Slice.slicePlaces lo hi (-1))) _ _ s
  rw [rev_adjust n]
  show wpAny _ _ (pure ((n : Int) - 1, (-1 : Int), Builtin.Slice.slicePlaces ((n : Int) - 1) (-1) (-1))) _ _ s
  rw [rev_places]
  exact wpAny_pure h
theorem pick_rev (xs : Array Value) : ((List.range xs.size).filterMap fun (k : Nat) => xs[(((xs.size : Int) - 1) + (k : Int) * (-1)).toNat]?).toArray = xs.toList.reverse.toArray := by
  congr 1
  rw [← PySem.W.krv_all xs, ← List.filterMap_reverse, ← PySem.W.krv_range, List.filterMap_map]
  refine fm_cong fun k hk => ?_
  have := List.mem_range.mp hk
  show xs[(((xs.size : Int) - 1) + (k : Int) * (-1)).toNat]? = xs[xs.size - 1 - k]?
  have e : (((xs.size : Int) - 1) + (k : Int) * (-1)).toNat = xs.size - 1 - k := by omega
  rw [e]
theorem getItem_tuple_rev {t sl : Addr} {items : Array Value} {vs : Value} {Q : Value → Shared → Prop} (ht : IsTup s.heap t items) (hs : s.heap.IsSliceOf sl .none .none vs) (ps : PySem.IsPart vs (some (-1)))
    (h : Q (.ref s.heap.objs.size) { s with heap := s.heap.push { cls := .type "tuple", data := .seq items.toList.reverse.toArray } }) (hsz : items.size ≤ sizeLine) : wpAny (model prog w) A (getItem (.ref t) (.ref sl)) Q E s := by
  have htake : sizeOk (.seq items.toList.reverse.toArray) := by
    show items.toList.reverse.toArray.size ≤ sizeLine
    rw [List.size_toArray, List.length_reverse, Array.length_toList]
    exact hsz
  obtain ⟨os, hos, hcs, hds⟩ := id hs
  have hTs : s.TypeIs (.ref sl) "slice" := ⟨os, hos, hcs⟩
  unfold getItem
  try with_reducible refine wpAny_holding ?_
  first | refine wpAny_bind (wpAny_pure ?_) | skip
  refine wpAny_bind (wpAny_sequenceKey ht.typeIs (by decide) ?_)
  refine wpAny_bind (wpAny_callSpecial?_slot (name := Str.ofString "__getitem__") ht.typeIs PyProof.Rows.slot_tuple_getitem
    (wpAny_call_entry PyProof.Rows.slot_tuple_getitem ht.typeIs entry_tuple_getitem ?_ (args_tuple_getitem _ _)))
  show wpAny _ _ (Builtin.Tuple.tupleItemsOf (.ref t) >>= _) _ _ s
  refine wpAny_bind (tupleItemsOf_ ht ?_)
  refine wpAny_bind (wpAny_typeOf hTs ?_)
  rw [if_pos (by decide)]
  refine wpAny_bind (sliceApplied_rev hs ps ?_)
  have hno : ¬ ((((items.size : Int) - 1) == 0 && (-1 : Int) == 1 && items.size == items.size) = true) := by
    intro q
    rw [Bool.and_eq_true, Bool.and_eq_true] at q
    exact absurd (eq_of_beq q.1.2) (by decide)
  show wpAny _ _ (if (((items.size : Int) - 1) == 0 && (-1 : Int) == 1 && items.size == items.size) = true then _ else _) _ _ s
  rw [if_neg hno, pick_rev]
  first
    | exact wpAny_bind (m := Builtin.Tuple.tupleExact _) (wpAny_newObj_type (wpAny_pure ⟨_, rfl, wpAny_pure h⟩) htake)
    | exact wpAny_bind (m := Builtin.Tuple.tupleExact _) (wpAny_newObj_type (wpAny_bind (wpAny_pure (wpAny_pure ⟨_, rfl, wpAny_pure h⟩))) htake)
    | exact wpAny_bind (wpAny_bind (m := Builtin.Tuple.tupleExact _) (wpAny_newObj_type (wpAny_pure (wpAny_pure ⟨_, rfl, wpAny_pure h⟩)) htake))
    | exact wpAny_bind (wpAny_bind (m := Builtin.Tuple.tupleExact _) (wpAny_newObj_type (wpAny_pure ⟨_, rfl, wpAny_pure h⟩) htake))
end
end HT
namespace Y
open PySem L2 PySem.Spec PyProof.Rows
def tRevA (K : PySem.W.Frag) (te : TE) : TE := fun σ H Q => te σ H fun x H1 => ∃ a xs, x = .ref a ∧ ((SqL K H1 a xs ∧ ∀ p, H1 p = none → Q (.ref p) (upd H1 p (.lst xs.reverse))) ∨ (SqT K H1 a xs ∧ ∀ p, H1 p = none → Q (.ref p) (upd H1 p (.tup xs.reverse))))
theorem pe_revA {X : Cx} {e : Expr} {te : TE} {k : Nat} {p1 p2 p3 pos : Pos} (he : PE X e te) : PE X (.Subscript e (.Slice none none (some (.UnaryOp .USub (.Constant (.int 1) k p1) p2)) p3) pos) (tRevA X.K te) := by
  refine ⟨fun pins s σ H Q I h => ?_⟩
  refine Subscript_ (thn (he.run pins s σ H _ I h) fun v s1 ⟨x, H1, I1, r1, q1⟩ => ?_)
  obtain ⟨a, xs, ex, q1⟩ := q1
  subst ex
  cases r1
  have hst : PO X (some (.UnaryOp .USub (.Constant (.int 1) k p1) p2)) (tPart (tUn (rU fun i => .int (-i)) (tC (.int 1)))) := po_some (pe_un un_neg pe_int)
  refine wpAny_Slice (thn (po_none.run pins s1 σ H1 (fun o H2 => o = none ∧ H2 = H1) I1 ⟨rfl, rfl⟩) fun vl s2 ⟨l, H2, I2, pl, el, e2⟩ => ?_)
  subst el e2
  refine thn (po_none.run pins s2 σ H2 (fun o H3 => o = none ∧ H3 = H2) I2 ⟨rfl, rfl⟩) fun vu s3 ⟨u, H3, I3, pu, eu, e3⟩ => ?_
  subst eu e3
  refine thn (hst.run pins s3 σ H3 (fun o H4 => o = some (-1) ∧ H4 = H3) I3 ⟨1, rfl, -1, rfl, rfl, rfl⟩) fun vs s4 ⟨o, H4, I4, ps, eo, e4⟩ => ?_
  subst eo e4
  have I5 : L2.Inv X pins σ H4 { s4 with heap := s4.heap.push { cls := .type "slice", data := .fields #[vl, vu, vs] } } := I4.kept (t' := s4.toks) fun b ob q => Heap.get?_push_of_some _ q
  show wpAny (model X.prog X.w) X.A (subscriptTail e (.Slice none none (some (.UnaryOp .USub (.Constant (.int 1) k p1) p2)) p3) (.ref a) (.ref s4.heap.objs.size)) (EP X pins σ Q) X.xe { s4 with heap := s4.heap.push { cls := .type "slice", data := .fields #[vl, vu, vs] } }
  rcases q1 with ⟨hx, q⟩ | ⟨hx, q⟩
  · obtain ⟨its, r, ht, hz⟩ := I5.list hx
    have hlen := r.length
    refine tail_any (ops := [.ref a, .ref s4.heap.objs.size]) ht.isList.typeIs (PySem.slot_list_getitem.lookup) ?_ (by with_unfolding_all rfl)
    refine wpAny_getItem_list_slice ht.isList (Heap.IsSliceOf.new _ vl vu vs) pl pu ps (by decide) ?_ (by rw [List.size_toArray]; omega)
    rw [PySem.W.krv_pick]
    refine ⟨.ref _, _, I5.laid (t' := s4.toks) (o := .lst xs.reverse) (fun b ob q => Heap.get?_push_of_some _ q) (Nat.le_refl _) ?_, rfl, q _ (I5.hok.fresh (Nat.le_refl _))⟩
    exact ⟨by rw [List.length_reverse]; exact hz, _, 0, r.reverse, Heap.get?_push_size _ rfl⟩
  · obtain ⟨its, r, ht, hz⟩ := I5.tuple hx
    have hlen := r.length
    cases pl
    cases pu
    refine tail_any (ops := [.ref a, .ref s4.heap.objs.size]) ht.typeIs (PyProof.Rows.slot_tuple_getitem.lookup) ?_ (by with_unfolding_all rfl)
    refine HT.getItem_tuple_rev ht (Heap.IsSliceOf.new _ .none .none vs) ps ?_ (by rw [List.size_toArray]; omega)
    refine ⟨.ref _, _, I5.laid (t' := s4.toks) (o := .tup xs.reverse) (fun b ob q => Heap.get?_push_of_some _ q) (Nat.le_refl _) ?_, rfl, q _ (I5.hok.fresh (Nat.le_refl _))⟩
    exact ⟨by rw [List.length_reverse]; exact hz, _, r.reverse, ⟨_, Heap.get?_push_size _ rfl, rfl, 0, rfl⟩⟩
end Y

set_option Elab.async false
set_option linter.all false
set_option maxRecDepth 100000
namespace Y
open PySem L2
section
variable {X : Cx} {E : XW} {Γ : Gam} {K : PySem.W.Frag} {F H : Hp} {ρ : Rho} {σ : List (Option V)}
theorem q_rev {a : Expr} {ia : Y.E} {k : Nat} {p1 p2 p3 pos : Pos} (ha : PE X a (tO X E Γ ia)) : PE X (.Subscript a (.Slice none none (some (.UnaryOp .USub (.Constant (.int 1) k p1) p2)) p3) pos) (tE X E Γ (.rev ia)) := by
  refine (pe_revA ha).weak fun σ H Q ⟨F, ρ, q⟩ => ?_
  refine ⟨F, ρ, (q.bind rlR_t).post fun x H1 ⟨d, ρ1, F1, rx, st, q1⟩ => ?_⟩
  obtain ⟨dx, hx, h⟩ := q1.get rx
  obtain ⟨r, hr⟩ := h.get?
  have he := ofO_ok (ρ := ρ1) hr
  unfold revD at hr
  split at hr
  · cases hr
    obtain ⟨a, vs, rfl, k1, k2⟩ := hx
    exact ⟨a, vs, rfl, .inl ⟨k1, fun p n => h.newLst he n (dpAll_rev k2)⟩⟩
  · cases hr
    obtain ⟨a, vs, rfl, k1, k2, _⟩ := dpt hx h.sr.sub
    exact ⟨a, vs, rfl, .inr ⟨k1, fun p n => h.newTup he n (dpAll_rev k2)⟩⟩
  · cases hr
def conOk : PyData → Const → Bool
  | .none, .none => true
  | .bool a, .bool b => a == b
  | .int a, .int b => a == b
  | .str a, .str b => decide (a = b)
  | _, _ => false
def flatVV : PyData → V
  | .bool b => .bl b
  | .int i => .int i
  | .str x => .str x
  | _ => .non
theorem con_pe {d : PyData} {c : Const} {j pos} (h : conOk d c = true) : PE X (.Constant c j pos) (tC (flatVV d)) ∧ ∀ K F, Dq K F (flatVV d) d := by
  unfold conOk at h
  split at h
  · exact ⟨pe_non, fun _ _ => .non⟩
  · rw [beq_iff_eq] at h; subst h; exact ⟨pe_bl, fun _ _ => .bl _⟩
  · rw [beq_iff_eq] at h; subst h; exact ⟨pe_int, fun _ _ => .int _⟩
  · rw [decide_eq_true_eq] at h; subst h; exact ⟨pe_str, fun _ _ => .str _⟩
  · cases h
/-- a display of constants, keys ints and texts -/
def dlB : Es → Es → List (Option Expr) → List Expr → Bool
  | .nil, .nil, [], [] => true
  | .cons (.con d) ks, .cons (.con e) vs, some (.Constant c _ _) :: keys, (.Constant c' _ _) :: vals => isKey d && conOk d c && conOk e c' && dlB ks vs keys vals
  | _, _, _, _ => false
structure Dl (X : Cx) (Γ : Gam) (pos : Pos) (ks vs : Es) (keys : List (Option Expr)) (vals : List Expr) (kvs : List (Key × V)) (ds : List (PyData × PyData)) : Prop where
  pps : PPs X pos keys vals (kvs.map fun p => (tC (kV p.1), tC p.2))
  all : keys.all (·.isSome) = true
  lk : keys.length = vals.length
  ln : keys.length = kvs.length
  e1 : ∀ ρ, evVs Γ ks ρ = .ok (ds.map (·.1)) ρ
  e2 : ∀ ρ, evVs Γ vs ρ = .ok (ds.map (·.2)) ρ
  rel : ∀ K F, DqK K F kvs ds
theorem dl_of {pos : Pos} : ∀ {ks vs : Es} {keys : List (Option Expr)} {vals : List Expr}, dlB ks vs keys vals = true → ∃ kvs ds, Dl X Γ pos ks vs keys vals kvs ds
  | .nil, vs, keys, vals, h => by
    unfold dlB at h
    split at h
    · exact ⟨[], [], pps_nil, rfl, rfl, rfl, fun _ => rfl, fun _ => rfl, fun _ _ => .nil⟩
    · rename_i heq; cases heq
    · cases h
  | .cons e ks, vs, keys, vals, h => by
    unfold dlB at h
    split at h
    · rename_i heq; cases heq
    · rename_i d ks' e' vs' c j1 p1 keys' c' j2 p2 vals' heq
      cases heq
      simp only [Bool.and_eq_true] at h
      obtain ⟨⟨⟨h0, h1⟩, h2⟩, h3⟩ := h
      obtain ⟨kvs, ds, D⟩ := dl_of h3
      obtain ⟨k, rfl⟩ := isKey_of h0
      obtain ⟨pk, _⟩ := con_pe (X := X) (j := j1) (pos := p1) h1
      obtain ⟨pv, rv⟩ := con_pe (X := X) (j := j2) (pos := p2) h2
      have ek : flatVV (keyP k) = kV k := by cases k <;> rfl
      rw [ek] at pk
      refine ⟨(k, flatVV e') :: kvs, (keyP k, e') :: ds, pps_cons pk pv D.pps, by simpa using D.all, congrArg (· + 1) D.lk, congrArg (· + 1) D.ln, fun ρ => ?_, fun ρ => ?_, fun K F => .cons (rv K F) (D.rel K F)⟩
      · show bnd (evVs Γ ks) (fun ds => ret (keyP k :: ds)) ρ = _
        rw [bnd_ok (D.e1 ρ)]
        rfl
      · show bnd (evVs Γ vs') (fun ds => ret (e' :: ds)) ρ = _
        rw [bnd_ok (D.e2 ρ)]
        rfl
    · cases h
theorem tPairs_const {Q : List (V × V) → Hp → Prop} : ∀ (kvs : List (Key × V)), Q (kvs.map fun p => (kV p.1, p.2)) H → tPairs (kvs.map fun p => (tC (kV p.1), tC p.2)) σ H Q
  | [], h => h
  | p :: r, h => tPairs_const (Q := fun ps H3 => Q ((kV p.1, p.2) :: ps) H3) r h
theorem merge_rel {F : Hp} : ∀ {kvs : List (Key × V)} {ds : List (PyData × PyData)} {acc : List (Key × V)} {ac : List (PyData × PyData)}, DqK K F kvs ds → DqK K F acc ac → DqK K F (mergeK acc kvs) (ds.foldl (fun acc p => putD p.1 p.2 acc) ac)
  | _, _, _, _, .nil, h => h
  | _, _, _, _, .cons (k := k) a b, h => by
    have := merge_rel b (dqK_put k a h)
    exact this
theorem zip_maps {α β : Type} : ∀ l : List (α × β), (l.map (·.1)).zip (l.map (·.2)) = l
  | [] => rfl
  | p :: r => congrArg (p :: ·) (zip_maps r)
theorem q_dlit {ks vs : Es} {keys : List (Option Expr)} {vals : List Expr} {pos : Pos} (h : dlB ks vs keys vals = true) (h0 : keys ≠ []) (h15 : keys.length ≤ 15) : PE X (.Dict keys vals pos) (tE X E Γ (.dlit ks vs)) := by
  obtain ⟨kvs, ds, D⟩ := dl_of (X := X) (Γ := Γ) (pos := pos) h
  refine (pe_disp D.pps D.all D.lk h0 h15).weak fun σ H Q ⟨F, ρ, q⟩ p n => ?_
  refine tPairs_const kvs ⟨upd_same, kvs, rfl, by rw [← D.ln]; exact h15, ?_⟩
  rw [upd_upd]
  have q2 := q.2
  have ee : ev Γ (.dlit ks vs) ρ = if (ds.map (·.1)).all isKey && decide ((ds.map (·.1)).length = (ds.map (·.2)).length) && decide ((ds.map (·.1)).length ≤ 15) then .ok (.own (.dic (ds.foldl (fun kvs p => putD p.1 p.2 kvs) []))) ρ else .bad := by
    show bnd (evVs Γ ks) (fun kd => bnd (evVs Γ vs) fun vd => if kd.all isKey && decide (kd.length = vd.length) && decide (kd.length ≤ 15) then (ret (R.own (O.dic ((kd.zip vd).foldl (fun kvs p => putD p.1 p.2 kvs) []))) : M R) else Y.bad) ρ = _
    rw [bnd_ok (D.e1 ρ), bnd_ok (D.e2 ρ), zip_maps]
    split <;> rfl
  rw [ee] at q2
  split at q2
  · rename_i heq
    split at heq
    · cases heq
      obtain ⟨s1, s2⟩ := q.1.newO (u := .dK (mergeK [] kvs)) n
      exact q2 _ _ _ s2 s1 ⟨p, rfl, q.1.sub.free n, ⟨_, upd_same, merge_rel (D.rel X.K F) .nil⟩, not_owned_none q.1 n, .inl n⟩
    · cases heq
  · rename_i heq
    split at heq <;> cases heq
  · exact q2.elim
end
end Y

set_option Elab.async false
set_option linter.all false
set_option maxRecDepth 100000
namespace Y
open PySem L2
section
variable {K : PySem.W.Frag} {F H F' H' : Hp} {ρ ρ' : Rho} {σ σ' : St} {sl sl' : List Slot} {vs : List V}
theorem argsOut_get : ∀ {sl : List Slot} {ρ : Rho} {as : List Slot}, argsOut sl ρ = some as → as.length = sl.length ∧ ∀ {k : Nat} {s : Slot}, as[k]? = some s →
    (∃ o o', sl[k]? = some (.own true o) ∧ ρ[k]? = some (.own true o') ∧ s = .own true o') ∨ (sl[k]? = some s ∧ ∀ p o, s ≠ .own p o)
  | [], ρ, as, h => by
    unfold argsOut at h
    cases h
    exact ⟨rfl, fun h => by simp at h⟩
  | .fz d :: r, [], as, h => by simp [argsOut] at h
  | .und :: r, [], as, h => by simp [argsOut] at h
  | .own p o :: r, [], as, h => by cases p <;> simp [argsOut] at h
  | .fz d :: r, t :: q, as, h => by
    have h : (argsOut r q).map (Slot.fz d :: ·) = some as := by cases t <;> simpa [argsOut] using h
    cases e : argsOut r q with
    | none => rw [e] at h; cases h
    | some as' =>
      rw [e] at h
      cases h
      obtain ⟨h1, h2⟩ := argsOut_get e
      refine ⟨congrArg (· + 1) h1, fun {k s} hk => ?_⟩
      cases k with
      | zero => simp at hk; subst hk; exact .inr ⟨rfl, fun _ _ z => by cases z⟩
      | succ k => exact h2 (k := k) (by simpa using hk)
  | .und :: r, t :: q, as, h => by
    have h : (argsOut r q).map (Slot.und :: ·) = some as := by cases t <;> simpa [argsOut] using h
    cases e : argsOut r q with
    | none => rw [e] at h; cases h
    | some as' =>
      rw [e] at h
      cases h
      obtain ⟨h1, h2⟩ := argsOut_get e
      refine ⟨congrArg (· + 1) h1, fun {k s} hk => ?_⟩
      cases k with
      | zero => simp at hk; subst hk; exact .inr ⟨rfl, fun _ _ z => by cases z⟩
      | succ k => exact h2 (k := k) (by simpa using hk)
  | .own p o :: r, t :: q, as, h => by
    cases p with
    | false => cases t <;> simp [argsOut] at h
    | true =>
      cases t with
      | und => simp [argsOut] at h
      | fz d => simp [argsOut] at h
      | own p' o' =>
        cases p' with
        | false => simp [argsOut] at h
        | true =>
          have h : (argsOut r q).map (Slot.own true o' :: ·) = some as := by simpa [argsOut] using h
          cases e : argsOut r q with
          | none => rw [e] at h; cases h
          | some as' =>
            rw [e] at h
            cases h
            obtain ⟨h1, h2⟩ := argsOut_get e
            refine ⟨congrArg (· + 1) h1, fun {k s} hk => ?_⟩
            cases k with
            | zero => simp at hk; subst hk; exact .inl ⟨o, o', rfl, rfl, rfl⟩
            | succ k => exact h2 (k := k) (by simpa using hk)
/-- the slots at a def's entry -/
def entry (sl : List Slot) (n : Nat) : Rho := sl ++ List.replicate n .und
theorem entry_get {n k : Nat} {s : Slot} (h : (entry sl n)[k]? = some s) (hs : s ≠ .und) : sl[k]? = some s := by
  unfold entry at h
  by_cases hk : k < sl.length
  · rw [List.getElem?_append_left hk] at h; exact h
  · rw [List.getElem?_append_right (by omega), List.getElem?_replicate] at h
    split at h
    · cases h; exact absurd rfl hs
    · cases h
theorem entry_get' {n k : Nat} {s : Slot} (h : sl[k]? = some s) : (entry sl n)[k]? = some s := by
  unfold entry
  rw [List.getElem?_append_left (List.getElem?_eq_some_iff.mp h).1]; exact h
theorem start_get {N : List Str} {k : Nat} {v : Option V} (h : (vs.map some)[k]? = some v) : (L2.start N vs)[k]? = some v := by
  unfold L2.start
  rw [List.getElem?_append_left (List.getElem?_eq_some_iff.mp h).1]; exact h
theorem entry_sr {N : List Str} (sr : SR K F H sl (vs.map some)) (hN : vs.length ≤ N.length) : SR K F H (entry sl (N.length - vs.length)) (L2.start N vs) := by
  have hl : sl.length = vs.length := by rw [sr.len, List.length_map]
  have back : ∀ {k : Nat} {s : Slot}, sl[k]? = some s → (L2.start N vs)[k]? = (vs.map some)[k]? := fun {k s} h => by
    have : k < (vs.map some).length := by rw [List.length_map, ← hl]; exact (List.getElem?_eq_some_iff.mp h).1
    unfold L2.start
    rw [List.getElem?_append_left this]
  refine ⟨?_, sr.sub, fun k d h => ?_, fun k p o h => ?_, fun j k p o p' o' a h1 h2 h3 h4 => ?_⟩
  · unfold entry L2.start
    rw [List.length_append, List.length_append, List.length_replicate, List.length_replicate, List.length_map, hl]
  · have h := entry_get h (fun z => by cases z)
    rw [back h]; exact sr.fz k d h
  · have h := entry_get h (fun z => by cases z)
    rw [back h]; exact sr.own k p o h
  · have h1 := entry_get h1 (fun z => by cases z)
    have h2 := entry_get h2 (fun z => by cases z)
    rw [back h1] at h3
    rw [back h2] at h4
    exact sr.sep j k p o p' o' a h1 h2 h3 h4
/-- from a body's end to its call's end -/
theorem fn_end {N : List Str} (sr : SR K F H sl (vs.map some)) (hN : vs.length ≤ N.length) (st : Stp (L2.start N vs) (entry sl (N.length - vs.length)) F H σ' ρ' F' H') (sr' : SR K F' H' ρ' σ') (ho : argsOut sl ρ' = some sl') :
    Stp (vs.map some) sl F H (vs.map some) sl' F' H' ∧ SR K F' H' sl' (vs.map some) ∧ ∀ {r : R} {v : V}, rlX K (L2.start N vs) (entry sl (N.length - vs.length)) H σ' ρ' F' H' r v → rlR K (vs.map some) sl H sl' F' H' r v := by
  obtain ⟨hl, hg⟩ := argsOut_get ho
  have hsl : sl.length = vs.length := by rw [sr.len, List.length_map]
  have back : ∀ {k : Nat} {s : Slot}, sl[k]? = some s → (L2.start N vs)[k]? = (vs.map some)[k]? := fun {k s} h => by
    have : k < (vs.map some).length := by rw [List.length_map, ← hsl]; exact (List.getElem?_eq_some_iff.mp h).1
    unfold L2.start
    rw [List.getElem?_append_left this]
  have own0 : ∀ {b : Addr}, Owned (entry sl (N.length - vs.length)) (L2.start N vs) b → Owned sl (vs.map some) b := fun ⟨k, p, o, h1, h2⟩ => by
    have h1 := entry_get h1 (fun z => by cases z)
    rw [back h1] at h2
    exact ⟨k, p, o, h1, h2⟩
  have own1 : ∀ {k : Nat} {p : Bool} {o : O}, sl'[k]? = some (.own p o) → p = true ∧ ρ'[k]? = some (.own true o) ∧ σ'[k]? = (vs.map some)[k]? ∧ ∃ o0, sl[k]? = some (.own true o0) := fun {k p o} h => by
    rcases hg h with ⟨o1, o2, h1, h2, e⟩ | ⟨_, n⟩
    · cases e
      obtain ⟨e1, _⟩ := st.pin k _ h2
      exact ⟨rfl, h2, e1.trans (back h1), o1, h1⟩
    · exact absurd rfl (n p o)
  have own2 : ∀ {b : Addr}, Owned sl' (vs.map some) b → Owned ρ' σ' b := fun ⟨k, p, o, h1, h2⟩ => by
    obtain ⟨_, h3, h4, _⟩ := own1 h1
    exact ⟨k, true, o, h3, h4.trans h2⟩
  refine ⟨⟨st.ff, fun b o h n => st.kp b o h fun z => n (own0 z), fun b o h n => (st.nf b o h n).imp id own0, fun b h => (st.no b (own2 h)).imp own0 id, st.mo, fun k o h => ?_, hl⟩, ⟨by rw [hl]; exact sr.len, sr'.sub, fun k d h => ?_, fun k p o h => ?_, fun j k p o p' o' a h1 h2 h3 h4 => ?_⟩, fun {r v} q => ?_⟩
  · exact ⟨rfl, (own1 h).2.2.2⟩
  · rcases hg h with ⟨o1, o2, h1, h2, e⟩ | ⟨h1, n⟩
    · cases e
    · obtain ⟨v, e1, e2⟩ := sr.fz k d h1
      exact ⟨v, e1, e2.mono st.ff⟩
  · obtain ⟨_, h3, h4, _⟩ := own1 h
    rw [← h4]; exact sr'.own k true o h3
  · obtain ⟨_, g1, e1, _⟩ := own1 h1
    obtain ⟨_, g2, e2, _⟩ := own1 h2
    exact sr'.sep j k _ _ _ _ a g1 g2 (e1.trans h3) (e2.trans h4)
  · cases r with
    | fz d => exact q
    | own o =>
      obtain ⟨a, e1, e2, e3, e4, e5⟩ := q
      exact ⟨a, e1, e2, e3, fun z => e4 (own2 z), e5.imp id own0⟩
end
section
open PySem.Spec PyProof.Rows
variable {P : Program} {w : World} {K : PySem.W.Frag} {mg : Str → Option Value} {base : Heap}
/-- THE RULE: a def keeps the promise that its meaning is -/
theorem fn_ok {k : Nat} {f : Addr} {name qual : Str} {params : Arguments} {body : List Stmt} {scope : Scope} {kV doc pm cdv ct oc : Value} {an od : Option Addr} {osl : Array (Option Value)} {ps : List Str} {Γ : Gam} {fn : Fn}
    (lk : K.lookup f = some ⟨oc, od, .func (PySem.W.fnOf name qual params body scope .none kV doc pm an cdv ct), osl⟩) (hcd : PySem.W.codeIn K cdv qual = true) (S : FnScope fn.names ps scope) (hnp : fn.np = ps.length)
    (hbody : ∀ (A : Around) (outer : List Env) (s : Shared) (H : Hp) (E : L2.XK), L2.Room k (A.deeper (envOfC qual scope s.heap.objs.size f cdv)) →
      PSs (cxOf CX0 P w K mg base fn.names qual scope f cdv A outer s H E).nox body (tSs (cxOf CX0 P w K mg base fn.names qual scope f cdv A outer s H E).nox (EX K E0) Γ fn.body)) :
    FnOk P w K mg base CX0 (k + 1) f (PySem.W.fnOf name qual params body scope .none kV doc pm an cdv ct) ps (spOf K ps.length (run Γ fn)) := by
  refine fn_of lk hcd S (fun vs H Q E h => h.1) fun A outer s H vs Q E hr hsp => ?_
  refine ⟨_, (hbody A outer s H E hr).nox, ?_⟩
  obtain ⟨hl, F, sl, hb, sr, h⟩ := hsp
  have hN : vs.length ≤ fn.names.length := by
    have := congrArg List.length S.pre
    rw [List.length_take] at this
    omega
  have hsl : sl.length = fn.np := by rw [sr.len, List.length_map, hl, hnp]
  refine ⟨F, entry sl (fn.names.length - vs.length), entry_sr sr hN, ?_⟩
  unfold run at h
  rw [if_pos hsl] at h
  have ee : (sl ++ List.replicate (fn.names.length - fn.np) Slot.und) = entry sl (fn.names.length - vs.length) := by unfold entry; rw [hnp, hl]
  rw [ee] at h
  cases e : exs Γ fn.body (entry sl (fn.names.length - vs.length)) with
  | bad => rw [e] at h; exact h
  | exn x ρ' =>
    rw [e] at h
    dsimp only at h
    cases eo : argsOut sl ρ' with
    | none => rw [eo] at h; exact False.elim h
    | some as' =>
      rw [eo] at h
      intro σ' F' H' st sr'
      obtain ⟨s1, s2, _⟩ := fn_end sr hN st sr' eo
      exact h _ F' H' s1 s2
  | ok fl ρ' =>
    rw [e] at h
    dsimp only at h
    cases eo : argsOut sl ρ' with
    | none => rw [eo] at h; exact False.elim h
    | some as' =>
      rw [eo] at h
      intro σ' F' H' st sr'
      obtain ⟨s1, s2, s3⟩ := fn_end sr hN st sr' eo
      cases fl with
      | nx => exact h .non F' H' s1 s2 Dq.non
      | bk => exact False.elim h
      | ct => exact False.elim h
      | rt r => exact fun v q => h v F' H' s1 s2 (s3 q)
end
end Y

set_option Elab.async false
set_option linter.all false
set_option maxRecDepth 100000
namespace Y
open PySem L2
/-- what is known of the module's names -/
structure GI where
  defs : List (Str × Nat)
  consts : List (Str × PyData)
  blts : List Str
mutual
def beqP : PyData → PyData → Bool
  | .none, .none => true
  | .bool a, .bool b => a == b
  | .int a, .int b => a == b
  | .str a, .str b => decide (a = b)
  | .list a, .list b => beqPs a b
  | .tuple a, .tuple b => beqPs a b
  | _, _ => false
def beqPs : List PyData → List PyData → Bool
  | [], [] => true
  | a :: r, b :: q => beqP a b && beqPs r q
  | _, _ => false
end
mutual
theorem beqP_eq : ∀ {a b : PyData}, beqP a b = true → a = b
  | .none, b, h => by cases b <;> first | rfl | (exact absurd h (by simp [beqP]))
  | .bool a, b, h => by cases b <;> first | (simp [beqP] at h; rw [h]) | (exact absurd h (by simp [beqP]))
  | .int a, b, h => by cases b <;> first | (simp [beqP] at h; rw [h]) | (exact absurd h (by simp [beqP]))
  | .str a, b, h => by cases b <;> first | (simp [beqP] at h; rw [h]) | (exact absurd h (by simp [beqP]))
  | .list a, b, h => by cases b <;> first | (simp [beqP] at h; rw [beqPs_eq h]) | (exact absurd h (by simp [beqP]))
  | .tuple a, b, h => by cases b <;> first | (simp [beqP] at h; rw [beqPs_eq h]) | (exact absurd h (by simp [beqP]))
  | .dict a, b, h => by cases b <;> (exact absurd h (by simp [beqP]))
theorem beqPs_eq : ∀ {a b : List PyData}, beqPs a b = true → a = b
  | [], [], _ => rfl
  | [], _ :: _, h => by simp [beqPs] at h
  | _ :: _, [], h => by simp [beqPs] at h
  | a :: r, b :: q, h => by
    simp [beqPs] at h
    rw [beqP_eq h.1, beqPs_eq h.2]
end
def visB (sc : Scope) (x : Str) : Bool := match sc.names.lookup x with
  | some .local => true
  | some .cell => true
  | some .free => true
  | _ => false
def nmOk (N : List Str) (sc : Scope) (i : Nat) (x : Str) : Bool := decide (N[i]? = some x) && visB sc x && (x != ("__debug__" : Str)) && (x != ("__classdict__" : Str))
def glOk (sc : Scope) (x : Str) : Bool := decide (sc.names.lookup x = some .globalImplicit) && (x != ("__debug__" : Str))
def bltOk (g : GI) (sc : Scope) (x : Str) : Bool := glOk sc x && g.blts.contains x
def glbOk (g : GI) (sc : Scope) (n : Str) (d : PyData) (x : Str) : Bool := glOk sc x && decide (n = x) && g.consts.any fun p => decide (p.1 = x) && beqP p.2 d
def locOk (sc : Scope) (fc : Str → Bool) (x : Str) : Bool := match sc.names.lookup x with
  | some .local => true
  | some .cell => fc x
  | _ => false
def notSet : Expr → Bool
  | .Set .. => false
  | _ => true
def notComp : Expr → Bool
  | .ListComp .. => false
  | .SetComp .. => false
  | .DictComp .. => false
  | _ => true
def lcOrNot : Expr → Bool
  | .ListComp .. => true
  | .SetComp .. => false
  | .DictComp .. => false
  | _ => true
def notTup : Expr → Bool
  | .Tuple .. => false
  | _ => true
/-- an expression whose test is served -/
def tOk : Expr → Bool
  | .IfExp .. => false
  | .UnaryOp .Not x _ => tOk x
  | .BoolOp _ xs _ => tOks xs
  | _ => true
where tOks : List Expr → Bool
  | [] => true
  | x :: xs => tOk x && tOks xs
mutual
def chkP (N : List Str) (sc : Scope) (fc : Str → Bool) : Pat → Expr → Bool
  | .nm i => fun t => match t with
    | .Name x _ => decide (N[i]? = some x) && locOk sc fc x
    | _ => false
  | .tup ps => fun t => match t with
    | .Tuple es _ _ => chkPs N sc fc ps es
    | _ => false
def chkPs (N : List Str) (sc : Scope) (fc : Str → Bool) : List Pat → List Expr → Bool
  | [] => fun es => match es with
    | [] => true
    | _ => false
  | p :: ps => fun es => match es with
    | e :: es => chkP N sc fc p e && notStar e && chkPs N sc fc ps es
    | _ => false
end
def asLen : As → Nat
  | .nil => 0
  | .val _ as => asLen as + 1
  | .mut _ as => asLen as + 1
def ownN (N : List Str) (own : List Nat) : List (Str × Nat) := own.map fun i => (N.getD i "", i)
def blkFc (scope : Scope) : Str → Bool := fun x => scope.names.lookup x == some .cell
mutual
def chkE (g : GI) (N : List Str) : E → Scope → (Str → Bool) → Expr → Bool
  | .var i => fun sc fc a => match a with
    | .Name x _ => nmOk N sc i x
    | _ => false
  | .con d => fun sc fc a => match a with
    | .Constant c _ _ => conOk d c
    | _ => false
  | .glb n d => fun sc fc a => match a with
    | .Name x _ => glbOk g sc n d x
    | _ => false
  | .tup es => fun sc fc a => match a with
    | .Tuple as _ _ => decide (as.length ≤ 1000) && chkVs g N es sc fc as
    | _ => false
  | .lst es => fun sc fc a => match a with
    | .List as _ => decide (as.length ≤ 1000) && chkVs g N es sc fc as
    | _ => false
  | .bin op x y => fun sc fc a => match a with
    | .BinOp u o v _ => decide (o = opA op) && chkE g N x sc fc u && chkE g N y sc fc v
    | _ => false
  | .neg x => fun sc fc a => match a with
    | .UnaryOp o u _ => decide (o = .USub) && chkE g N x sc fc u
    | _ => false
  | .not x => fun sc fc a => match a with
    | .UnaryOp o u _ => decide (o = .Not) && chkE g N x sc fc u
    | _ => false
  | .cmp op x y => fun sc fc a => match a with
    | .Compare u [o] [v] _ => decide (o = cmpA op) && notSet v && chkE g N x sc fc u && chkE g N y sc fc v
    | _ => false
  | .chain op op' x y z => fun sc fc a => match a with
    | .Compare u [o, o'] [v, w] _ => decide (o = cmpA op) && decide (o' = cmpA op') && notSet w && chkE g N x sc fc u && chkE g N y sc fc v && chkE g N z sc fc w
    | _ => false
  | .isn x => fun sc fc a => match a with
    | .Compare u [.Is] [.Constant .none _ _] _ => chkE g N x sc fc u
    | _ => false
  | .notn x => fun sc fc a => match a with
    | .Compare u [.IsNot] [.Constant .none _ _] _ => chkE g N x sc fc u
    | _ => false
  | .and x y => fun sc fc a => match a with
    | .BoolOp .And (u :: v :: r) p => chkE g N x sc fc u && (match r with
      | [] => chkE g N y sc fc v
      | _ => chkE g N y sc fc (.BoolOp .And (v :: r) p))
    | _ => false
  | .or x y => fun sc fc a => match a with
    | .BoolOp .Or (u :: v :: r) p => chkE g N x sc fc u && (match r with
      | [] => chkE g N y sc fc v
      | _ => chkE g N y sc fc (.BoolOp .Or (v :: r) p))
    | _ => false
  | .ife c x y => fun sc fc a => match a with
    | .IfExp t u v _ => tOk t && chkE g N c sc fc t && chkE g N x sc fc u && chkE g N y sc fc v
    | _ => false
  | .ix x y => fun sc fc a => match a with
    | .Subscript u v _ => notSlice v && chkE g N x sc fc u && chkE g N y sc fc v
    | _ => false
  | .sl x lo hi => fun sc fc a => match a with
    | .Subscript u (.Slice l h none _) _ => chkE g N x sc fc u && chkOe g N lo sc fc l && chkOe g N hi sc fc h
    | _ => false
  | .call f as => fun sc fc a => match a with
    | .Call (.Name x _) es [] _ => decide (x = f) && glOk sc x && g.defs.contains (f, asLen as) && es.all notStar && chkAs g N as sc fc es
    | _ => false
  | .bi b es => fun sc fc a => match a with
    | .Call (.Name x _) (u :: us) [] _ => decide (x = biN b) && bltOk g sc x && (u :: us).all notStar && chkOs g N es sc fc (u :: us)
    | _ => false
  | .isi x t => fun sc fc a => match a with
    | .Call (.Name n _) [u, .Name m _] [] _ => decide (n = ("isinstance" : Str)) && bltOk g sc n && decide (m = Str.ofString (tyN t)) && bltOk g sc m && notStar u && chkE g N x sc fc u
    | _ => false
  | .lc own p it cs elt => fun sc fc a => match a with
    | .ListComp e [⟨t, i, ifs, asy⟩] scope _ => decide (asy = 0) && blkC N sc scope (ownN N own) && (pvars p).all own.contains && notSet i && chkIt g N it sc fc t i && chkP N (relS scope sc) (blkFc scope) p t && chkTs g N cs (relS scope sc) (blkFc scope) ifs && chkE g N elt (relS scope sc) (blkFc scope) e
    | _ => false
  | .rev x => fun sc fc a => match a with
    | .Subscript u (.Slice none none (some (.UnaryOp .USub (.Constant (.int n) _ _) _)) _) _ => decide (n = 1) && chkE g N x sc fc u
    | _ => false
  | .meth _ _ _ => fun _ _ _ => false
  | .pop _ => fun _ _ _ => false
  | .lc2 _ _ _ _ _ _ _ => fun _ _ _ => false
  | .dlit ks vs => fun sc fc a => match a with
    | .Dict keys vals _ => dlB ks vs keys vals && !keys.isEmpty && decide (keys.length ≤ 15)
    | _ => false
  | .dc _ _ _ _ _ => fun _ _ _ => false
  | .srtk _ _ => fun _ _ _ => false
def chkVs (g : GI) (N : List Str) : Es → Scope → (Str → Bool) → List Expr → Bool
  | .nil => fun sc fc as => match as with
    | [] => true
    | _ => false
  | .cons e es => fun sc fc as => match as with
    | a :: as => notStar a && chkE g N e sc fc a && chkVs g N es sc fc as
    | _ => false
def chkOs (g : GI) (N : List Str) : Es → Scope → (Str → Bool) → List Expr → Bool
  | .nil => fun sc fc as => match as with
    | [] => true
    | _ => false
  | .cons e es => fun sc fc as => match as with
    | a :: as => notStar a && chkE g N e sc fc a && chkOs g N es sc fc as
    | _ => false
def chkTs (g : GI) (N : List Str) : Es → Scope → (Str → Bool) → List Expr → Bool
  | .nil => fun sc fc as => match as with
    | [] => true
    | _ => false
  | .cons e es => fun sc fc as => match as with
    | [a] => (match es with | .nil => true | _ => false) && tOk a && chkE g N e sc fc a
    | _ => false
def chkOe (g : GI) (N : List Str) : Oe → Scope → (Str → Bool) → Option Expr → Bool
  | .none => fun sc fc o => match o with
    | none => true
    | _ => false
  | .some e => fun sc fc o => match o with
    | some a => chkE g N e sc fc a
    | _ => false
def chkAs (g : GI) (N : List Str) : As → Scope → (Str → Bool) → List Expr → Bool
  | .nil => fun sc fc as => match as with
    | [] => true
    | _ => false
  | .val e es => fun sc fc as => match as with
    | a :: as => notStar a && chkE g N e sc fc a && chkAs g N es sc fc as
    | _ => false
  | .mut i es => fun sc fc as => match as with
    | .Name x _ :: as => nmOk N sc i x && chkAs g N es sc fc as
    | _ => false
def chkIt (g : GI) (N : List Str) : It → Scope → (Str → Bool) → Expr → Expr → Bool
  | .seq e => fun sc fc t a => chkE g N e sc fc a
  | .rng1 e => fun sc fc t a => match a with
    | .Call (.Name x _) [u] [] _ => decide (x = ("range" : Str)) && bltOk g sc x && notStar u && chkE g N e sc fc u
    | _ => false
  | .rng2 e e' => fun sc fc t a => match a with
    | .Call (.Name x _) [u, v] [] _ => decide (x = ("range" : Str)) && bltOk g sc x && notStar u && notStar v && chkE g N e sc fc u && chkE g N e' sc fc v
    | _ => false
  | .zip e e' => fun sc fc t a => match t, a with
    | .Tuple _ _ _, .Call (.Name x _) [u, v] [] _ => decide (x = ("zip" : Str)) && bltOk g sc x && notStar u && notStar v && chkE g N e sc fc u && chkE g N e' sc fc v
    | _, _ => false
  | .enu e => fun sc fc t a => match t, a with
    | .Tuple _ _ _, .Call (.Name x _) [u] [] _ => decide (x = ("enumerate" : Str)) && bltOk g sc x && notStar u && chkE g N e sc fc u
    | _, _ => false
end
/-- list = comprehension on one line, a local name: the model's own way -/
def swB (sc : Scope) (x : Str) (px : Pos) : Expr → Bool
  | .ListComp _ _ s p => (sc.names.lookup x == some .local) && px.line == p.line && !(s.names.any fun (n, k) => n == x && (k == .local || k == .cell))
  | _ => false
def par2Ok (sc : Scope) (x y : Str) (px py : Pos) (a b : Expr) : Bool :=
  (sc.names.lookup x == some .local) && (sc.names.lookup y == some .local) && decide (x ≠ y) && (px.line == py.line) && notStar a && notStar b && !(foldedForSure 8 a && foldedForSure 8 b) && !(constantsAlone 8 a && constantsAlone 8 b)
mutual
def chkS (g : GI) (N : List Str) (sc : Scope) (fc : Str → Bool) : S → Stmt → Bool
  | .set i e => fun st => match st with
    | .Assign [.Name x px] v pos => decide (N[i]? = some x) && locOk sc fc x && chkE g N e sc fc v && lcOrNot v
    | _ => false
  | .unp p e => fun st => match st with
    | .Assign [t] v pos => notStar t && notTup v && notComp v && chkP N sc fc p t && chkE g N e sc fc v
    | _ => false
  | .par is es => fun st => match is, es, st with
    | [i, j], .cons ea (.cons eb .nil), .Assign [.Tuple [.Name x px, .Name y py] _ _] (.Tuple [a, b] _ _) pos =>
      decide (N[i]? = some x) && decide (N[j]? = some y) && decide (i ≠ j) && par2Ok sc x y px py a b && chkE g N ea sc fc a && chkE g N eb sc fc b
    | _, _, _ => false
  | .setix i k e => fun st => match st with
    | .Assign [.Subscript (.Name x _) u _] v pos => nmOk N sc i x && notSlice u && notComp v && chkE g N k sc fc u && chkE g N e sc fc v
    | _ => false
  | .app i e => fun st => match st with
    | .Expr (.Call (.Attribute (.Name x _) m ap) [v] [] cp) _ => decide (m = ("append" : Str)) && nmOk N sc i x && notStar v && (ap.endLine == cp.line) && chkE g N e sc fc v
    | _ => false
  | .exp e => fun st => match st with
    | .Expr v _ => notComp v && chkE g N e sc fc v
    | _ => false
  | .ret e => fun st => match st with
    | .Return (some v) _ => chkE g N e sc fc v
    | _ => false
  | .retn => fun st => match st with
    | .Return none _ => true
    | _ => false
  | .ife c a b => fun st => match st with
    | .If t x y _ => tOk t && chkE g N c sc fc t && chkSs g N sc fc a x && chkSs g N sc fc b y
    | _ => false
  | .whl c b => fun st => match st with
    | .While t x [] _ => tOk t && chkE g N c sc fc t && chkSs g N sc fc b x
    | _ => false
  | .frr p it b => fun st => match st with
    | .For t i x [] _ => notSet i && chkP N sc fc p t && chkIt g N it sc fc t i && chkSs g N sc fc b x
    | _ => false
  | .rse _ es => fun st => match st with
    | .Raise _ _ _ => conEs es
    | _ => false
  | .brk => fun st => match st with
    | .Break _ => true
    | _ => false
  | .cnt => fun st => match st with
    | .Continue _ => true
    | _ => false
  | .pss => fun st => match st with
    | .Pass _ => true
    | _ => false
def chkSs (g : GI) (N : List Str) (sc : Scope) (fc : Str → Bool) : Ss → List Stmt → Bool
  | .nil => fun st => match st with
    | [] => true
    | _ => false
  | .cons s ss => fun st => match st with
    | x :: xs => chkS g N sc fc s x && chkSs g N sc fc ss xs
    | _ => false
end
end Y

set_option Elab.async false
set_option linter.all false
set_option maxRecDepth 100000
namespace Y
open PySem L2
structure Good (g : GI) (Γ : Gam) (k : Nat) (N : List Str) (X : Cx) (sc : Scope) (fc : Str → Bool) : Prop where
  n : X.N = N
  es : X.env.scope = sc
  kd : sc.kind = .function
  nd : N.Nodup
  ef : X.fn = fc
  calm : X.calm = true
  rm : Room k X.A
  xe : X.xe = fun _ _ => False
  blt : ∀ x, g.blts.contains x = true → X.mg x = none
  con : ∀ p ∈ g.consts, ∃ v u, X.mg p.1 = some u ∧ RelV v u ∧ ∀ F, Rep X.K F v p.2
  fns : ∀ p ∈ g.defs, ∃ f fd ps, List.length ps = p.2 ∧ FnOk X.prog X.w X.K X.mg X.base CX0 k f fd ps (spOf X.K ps.length (Γ.call p.1)) ∧ X.mg p.1 = some (.ref f) ∧ PySem.W.keepIn X.K (.ref f) = true ∧ Binds X.K fd ps []
structure Sv (X : Cx) (Γ : Gam) (a : Expr) (e : Y.E) : Prop where
  pe : PE X a (tE X (EX X.K E0) Γ e)
  po : PE X a (tO X (EX X.K E0) Γ e)
  pv : PE X a (tV X (EX X.K E0) Γ e)
  pt : tOk a = true → PT X a (tT X (EX X.K E0) Γ e)
  pw : ∀ op vs p, a = .BoolOp op vs p → tOk a = true → PW X a (tT X (EX X.K E0) Γ e)
section
variable {g : GI} {Γ : Gam} {k : Nat} {N : List Str} {X : Cx} {sc : Scope} {fc : Str → Bool} {a : Expr} {e : Y.E}
theorem Sv.of (hv : ∀ i, e ≠ .var i) (pe : PE X a (tE X (EX X.K E0) Γ e)) (pt : tOk a = true → PT X a (tT X (EX X.K E0) Γ e)) (hb : ∀ op vs p, a ≠ .BoolOp op vs p) : Sv X Γ a e :=
  ⟨pe, q_O pe hv, q_V pe hv, pt, fun op vs p h => absurd h (hb op vs p)⟩
theorem Sv.val (hv : ∀ i, e ≠ .var i) (pe : PE X a (tE X (EX X.K E0) Γ e)) (he : ∀ whole, isTrue a X.env whole = (do let v ← whole; standAt a.pos; holding [v] (truthy v))) (hb : ∀ op vs p, a ≠ .BoolOp op vs p) : Sv X Γ a e :=
  .of hv pe (fun _ => qt_val pe he) hb
theorem Good.units (G : Good g Γ k N X sc fc) : X.A.units + 70 < cLine := by have := G.rm.un; omega
theorem Good.blk (G : Good g Γ k N X sc fc) {scope : Scope} (hk : scope.kind = .function) (s : Shared) (H : Hp) (C : Addr) (cl : List (Str × Addr)) (fp : List Addr) : Good g Γ k N (X.blk s H scope (compEnvC scope cl C X.env) fp) (relS scope sc) (blkFc scope) :=
  ⟨G.n, by rw [← G.es]; rfl, hk, G.nd, rfl, G.calm, G.rm, rfl, G.blt, G.con, G.fns⟩
theorem nmOk_of {i : Nat} {x : Str} (G : Good g Γ k N X sc fc) (h : nmOk N sc i x = true) : X.N[i]? = some x ∧ Vis X.env.scope x ∧ (x == ("__debug__" : Str)) = false ∧ (x == ("__classdict__" : Str)) = false := by
  unfold nmOk at h
  simp only [Bool.and_eq_true, decide_eq_true_eq, bne, Bool.not_eq_true'] at h
  obtain ⟨⟨⟨h1, h2⟩, h3⟩, h4⟩ := h
  refine ⟨by rw [G.n]; exact h1, ?_, h3, h4⟩
  rw [G.es]
  unfold visB at h2
  unfold Vis
  split at h2
  · exact .inl (by assumption)
  · exact .inr (.inl (by assumption))
  · exact .inr (.inr (by assumption))
  · cases h2
theorem glOk_of {x : Str} (G : Good g Γ k N X sc fc) (h : glOk sc x = true) : Gl X x ∧ (x == ("__debug__" : Str)) = false := by
  unfold glOk at h
  simp only [Bool.and_eq_true, decide_eq_true_eq, bne, Bool.not_eq_true'] at h
  refine ⟨?_, h.2⟩
  show X.env.scope.names.lookup x = _
  rw [G.es]; exact h.1
theorem bltOk_of {x : Str} (G : Good g Γ k N X sc fc) (h : bltOk g sc x = true) : Gl X x ∧ X.mg x = none := by
  unfold bltOk at h
  rw [Bool.and_eq_true] at h
  exact ⟨(glOk_of G h.1).1, G.blt x h.2⟩
theorem locOk_of {x : Str} (G : Good g Γ k N X sc fc) (h : locOk sc fc x = true) : Loc X.env.scope x ∧ (X.fn x = true ∨ X.env.scope.names.lookup x = some .local) := by
  unfold locOk at h
  rw [G.es, G.ef]
  unfold L2.Loc
  split at h
  · rename_i q; exact ⟨.inl q, .inr q⟩
  · rename_i q; exact ⟨.inr q, .inl h⟩
  · cases h
theorem beqP_any {l : List (Str × PyData)} {x : Str} {d : PyData} (h : (l.any fun p => decide (p.1 = x) && beqP p.2 d) = true) : (x, d) ∈ l := by
  rw [List.any_eq_true] at h
  obtain ⟨p, hp, h⟩ := h
  rw [Bool.and_eq_true, decide_eq_true_eq] at h
  obtain ⟨rfl, h2⟩ := h
  rw [← beqP_eq h2]; exact hp
theorem conOk_pe {d : PyData} {c : Const} {j pos} (h : conOk d c = true) : PE X (.Constant c j pos) (tE X (EX X.K E0) Γ (.con d)) := by
  unfold conOk at h
  split at h
  · exact q_non
  · rw [beq_iff_eq] at h; subst h; exact q_bl
  · rw [beq_iff_eq] at h; subst h; exact q_int
  · rw [decide_eq_true_eq] at h; subst h; exact q_str
  · cases h
theorem plainIx_of {b : Expr} (h : notSlice b = true) : PlainIx b := by
  intro o i
  cases b <;> first | rfl | exact absurd (show false = true from h) Bool.false_ne_true
theorem fold_of {i : Expr} {env : Env} (h : notSet i = true) : ∀ x, foldedSetIterable i env x = pure x := by
  intro x
  cases i <;> first | rfl | exact absurd (show false = true from h) Bool.false_ne_true
theorem marks_of {op : CmpOp} {b : Expr} (h : notSet b = true) : behindInMarks op b = false := by
  cases b <;> first | rfl | exact absurd (show false = true from h) Bool.false_ne_true
mutual
theorem okP : ∀ (p : Pat) {t : Expr}, Good g Γ k N X sc fc → chkP N sc fc p t = true → PG X t (tPat X p)
  | .nm i, t, G, h => by
    unfold chkP at h
    split at h
    · rw [Bool.and_eq_true, decide_eq_true_eq] at h
      obtain ⟨h1, h2⟩ := locOk_of G h.2
      exact q_nm (by rw [G.n]; exact G.nd) (by rw [G.n]; exact h.1) h1 h2
    · cases h
  | .tup ps, t, G, h => by
    unfold chkP at h
    split at h
    · obtain ⟨h1, h2, h3⟩ := okPs ps G h
      exact q_ptup G.calm h1 h2 h3
    · cases h
theorem okPs : ∀ (ps : List Pat) {es : List Expr}, Good g Γ k N X sc fc → chkPs N sc fc ps es = true → PGs X es (tPats X ps) ∧ es.all notStar = true ∧ ps.length = es.length
  | [], es, G, h => by
    unfold chkPs at h
    split at h
    · exact ⟨q_pnil, rfl, rfl⟩
    · cases h
  | p :: ps, es, G, h => by
    unfold chkPs at h
    split at h
    · rw [Bool.and_eq_true, Bool.and_eq_true] at h
      obtain ⟨h1, h2, h3⟩ := okPs ps G h.2
      exact ⟨q_pcons (okP p G h.1.1) h1 h.1.2, by rw [List.all_cons, h.1.2, h2]; rfl, congrArg (· + 1) h3⟩
    · cases h
end
def esLen : Es → Nat
  | .nil => 0
  | .cons _ es => esLen es + 1
theorem evVs_len' : ∀ {es : Es} {ρ ρ' : Rho} {ds : List PyData}, evVs Γ es ρ = .ok ds ρ' → ds.length = esLen es
  | .nil, ρ, ρ', ds, h => by
    unfold evVs at h
    cases h; rfl
  | .cons e es, ρ, ρ', ds, h => by
    unfold evVs at h
    obtain ⟨d, ρ1, _, h⟩ := bnd_some h
    obtain ⟨r, ρ2, h1, h⟩ := bnd_some h
    cases h
    exact congrArg (· + 1) (evVs_len' h1)
theorem evAs_len' : ∀ {es : As} {ρ ρ' : Rho} {ds : List Arg}, evAs Γ es ρ = .ok ds ρ' → ds.length = asLen es
  | .nil, ρ, ρ', ds, h => by
    unfold evAs at h
    cases h; rfl
  | .val e es, ρ, ρ', ds, h => by
    unfold evAs at h
    obtain ⟨d, ρ1, _, h⟩ := bnd_some h
    obtain ⟨r, ρ2, h1, h⟩ := bnd_some h
    cases h
    exact congrArg (· + 1) (evAs_len' h1)
  | .mut i es, ρ, ρ', ds, h => by
    unfold evAs at h
    split at h
    · obtain ⟨r, ρ2, h1, h⟩ := bnd_some h
      cases h
      exact congrArg (· + 1) (evAs_len' h1)
    · cases h
theorem ownN_snd (own : List Nat) : (ownN N own).map (·.2) = own := by
  unfold ownN
  rw [List.map_map]
  exact List.map_id' own
theorem all_contains {l own : List Nat} (h : l.all own.contains = true) : ∀ i ∈ l, i ∈ own := fun i hi => by
  rw [List.all_eq_true] at h
  exact List.contains_iff_mem.mp (h i hi)
theorem q_call0 {CX : CXT} {k : Nat} {f : Addr} {fd : FuncData} {ps : List Str} {g : List Slot → Out R} {x : Str} {p pos : Pos} {Ex : XK} (F : FnOk X.prog X.w X.K X.mg X.base CX k f fd ps (spOf X.K ps.length g)) (hr : Room k X.A) (hg : Gl X x) (hm : X.mg x = some (.ref f))
    (hk : PySem.W.keepIn X.K (.ref f) = true) (hb : Binds X.K fd ps []) (hx : Passes CX X Ex) (hd : (x == ("__debug__" : Str)) = false) (hc : Γ.call x = g) (hn : ps.length = 0) :
    PE X (.Call (.Name x p) [] [] pos) (tE X (EX X.K Ex) Γ (.call x .nil)) := by
  refine (pe_call0 F hr hg hm hk hb .nil hx hd).weak fun σ H Q ⟨F0, ρ, q⟩ => ?_
  have q : TM X.K (EX X.K Ex) (rlR X.K) (doCall (Γ.call x) []) F0 ρ σ H Q := q
  rw [hc] at q
  obtain ⟨sl, hb, q4⟩ := q.call .nil
  exact ⟨hn.symm, F0, sl, hb, q4⟩
end
end Y

set_option Elab.async false
set_option linter.all false
set_option maxRecDepth 100000
namespace Y
open PySem L2
section
variable {g : GI} {Γ : Gam} {k : Nat} {N : List Str}
theorem opd_nb {a : Expr} (h : ∀ op vs p, a ≠ .BoolOp op vs p) : ∀ op vs p, a ≠ .BoolOp op vs p := h
mutual
theorem okE : ∀ (e : Y.E) {X : Cx} {sc : Scope} {fc : Str → Bool} {a : Expr}, Good g Γ k N X sc fc → chkE g N e sc fc a = true → Sv X Γ a e
  | .var i, X, sc, fc, a, G, h => by
    unfold chkE at h
    split at h
    · obtain ⟨h1, h2, h3, h4⟩ := nmOk_of G h
      exact ⟨q_varE h1 h2 h3 h4, q_varO h1 h2 h3 h4, q_varV h1 h2 h3 h4, fun _ => qt_val (q_varE h1 h2 h3 h4) (fun _ => rfl), fun _ _ _ z => by cases z⟩
    · cases h
  | .con d, X, sc, fc, a, G, h => by
    unfold chkE at h
    split at h
    · exact .val (fun _ z => by cases z) (conOk_pe h) (fun _ => rfl) (fun _ _ _ z => by cases z)
    · cases h
  | .glb n d, X, sc, fc, a, G, h => by
    unfold chkE at h
    split at h
    · unfold glbOk at h
      rw [Bool.and_eq_true, Bool.and_eq_true, decide_eq_true_eq] at h
      obtain ⟨⟨h1, rfl⟩, h2⟩ := h
      obtain ⟨hg, hd⟩ := glOk_of G h1
      obtain ⟨v, u, m1, m2, m3⟩ := G.con _ (beqP_any h2)
      exact .val (fun _ z => by cases z) (q_glb hg m1 m2 hd m3) (fun _ => rfl) (fun _ _ _ z => by cases z)
    · cases h
  | .tup es, X, sc, fc, a, G, h => by
    unfold chkE at h
    split at h
    · rw [Bool.and_eq_true, decide_eq_true_eq] at h
      obtain ⟨h1, h2⟩ := okVs es G h.2
      exact .val (fun _ z => by cases z) (q_tup h1 h.1 fun ρ ρ' ds e => by rw [evVs_len' e, h2]) (fun _ => rfl) (fun _ _ _ z => by cases z)
    · cases h
  | .lst es, X, sc, fc, a, G, h => by
    unfold chkE at h
    split at h
    · rw [Bool.and_eq_true, decide_eq_true_eq] at h
      obtain ⟨h1, h2⟩ := okVs es G h.2
      exact .val (fun _ z => by cases z) (q_lst h1 h.1 fun ρ ρ' ds e => by rw [evVs_len' e, h2]) (fun _ => rfl) (fun _ _ _ z => by cases z)
    · cases h
  | .bin op x y, X, sc, fc, a, G, h => by
    unfold chkE at h
    split at h
    · rw [Bool.and_eq_true, Bool.and_eq_true, decide_eq_true_eq] at h
      obtain ⟨⟨rfl, h1⟩, h2⟩ := h
      exact .val (fun _ z => by cases z) (q_bin (okE x G h1).po (okE y G h2).po) (fun _ => rfl) (fun _ _ _ z => by cases z)
    · cases h
  | .neg x, X, sc, fc, a, G, h => by
    unfold chkE at h
    split at h
    · rw [Bool.and_eq_true, decide_eq_true_eq] at h
      obtain ⟨rfl, h1⟩ := h
      exact .val (fun _ z => by cases z) (q_neg (okE x G h1).pe) (fun _ => rfl) (fun _ _ _ z => by cases z)
    · cases h
  | .not x, X, sc, fc, a, G, h => by
    unfold chkE at h
    split at h
    · rw [Bool.and_eq_true, decide_eq_true_eq] at h
      obtain ⟨rfl, h1⟩ := h
      exact .of (fun _ z => by cases z) (q_not (okE x G h1).pe) (fun t => qt_not ((okE x G h1).pt (by unfold tOk at t; exact t))) (fun _ _ _ z => by cases z)
    · cases h
  | .cmp op x y, X, sc, fc, a, G, h => by
    unfold chkE at h
    split at h
    · rw [Bool.and_eq_true, Bool.and_eq_true, Bool.and_eq_true, decide_eq_true_eq] at h
      obtain ⟨⟨⟨rfl, h0⟩, h1⟩, h2⟩ := h
      exact .of (fun _ z => by cases z) (q_cmp G.units (okE x G h1).po (okE y G h2).po (marks_of h0)) (fun _ => qt_cmp G.units (okE x G h1).po (okE y G h2).po (marks_of h0)) (fun _ _ _ z => by cases z)
    · cases h
  | .chain op op' x y z, X, sc, fc, a, G, h => by
    unfold chkE at h
    split at h
    · simp only [Bool.and_eq_true, decide_eq_true_eq] at h
      obtain ⟨⟨⟨⟨⟨rfl, rfl⟩, h0⟩, h1⟩, h2⟩, h3⟩ := h
      exact .of (fun _ z => by cases z) (q_chain G.units (okE x G h1).po (okE y G h2).po (okE z G h3).po (marks_of h0)) (fun _ => qt_chain G.units (okE x G h1).po (okE y G h2).po (okE z G h3).po (marks_of h0)) (fun _ _ _ z => by cases z)
    · cases h
  | .isn x, X, sc, fc, a, G, h => by
    unfold chkE at h
    split at h
    · exact .of (fun _ z => by cases z) (q_isn (okE x G h).po) (fun _ => qt_isn (okE x G h).po) (fun _ _ _ z => by cases z)
    · cases h
  | .notn x, X, sc, fc, a, G, h => by
    unfold chkE at h
    split at h
    · exact .of (fun _ z => by cases z) (q_notn (okE x G h).po) (fun _ => qt_notn (okE x G h).po) (fun _ _ _ z => by cases z)
    · cases h
  | .and x y, X, sc, fc, a, G, h => by
    unfold chkE at h
    split at h
    · rename_i u v r p
      rw [Bool.and_eq_true] at h
      obtain ⟨h1, h2⟩ := h
      have sx := okE x G h1
      have rest : PE X (.BoolOp .And (v :: r) p) (tE X (EX X.K E0) Γ y) ∧ (tOk.tOks (v :: r) = true → PW X (.BoolOp .And (v :: r) p) (tT X (EX X.K E0) Γ y)) := by
        cases r with
        | nil =>
          have sy := okE y G h2
          refine ⟨pe_one sy.pe, fun t => pw_and1 (sy.pt ?_)⟩
          unfold tOk.tOks at t
          rw [Bool.and_eq_true] at t
          exact t.1
        | cons w r =>
          have sy := okE y G h2
          exact ⟨sy.pe, fun t => sy.pw _ _ _ rfl (by unfold tOk; exact t)⟩
      have pw : tOk (.BoolOp .And (u :: v :: r) p) = true → PW X (.BoolOp .And (u :: v :: r) p) (tT X (EX X.K E0) Γ (.and x y)) := fun t => by
        unfold tOk tOk.tOks at t
        rw [Bool.and_eq_true] at t
        exact qw_and (sx.pt t.1) (rest.2 t.2)
      have pe := q_and sx.pe rest.1
      refine ⟨pe, q_O pe (fun _ z => by cases z), q_V pe (fun _ z => by cases z), fun t => ⟨fun pins s σ H Q I q => (pw t).run _ pins s σ H Q I q⟩, fun op vs p' z t => ?_⟩
      cases z
      exact pw t
    · cases h
  | .or x y, X, sc, fc, a, G, h => by
    unfold chkE at h
    split at h
    · rename_i u v r p
      rw [Bool.and_eq_true] at h
      obtain ⟨h1, h2⟩ := h
      have sx := okE x G h1
      have rest : PE X (.BoolOp .Or (v :: r) p) (tE X (EX X.K E0) Γ y) ∧ (tOk.tOks (v :: r) = true → PW X (.BoolOp .Or (v :: r) p) (tT X (EX X.K E0) Γ y)) := by
        cases r with
        | nil =>
          have sy := okE y G h2
          refine ⟨pe_one sy.pe, fun t => pw_or1 (sy.pt ?_)⟩
          unfold tOk.tOks at t
          rw [Bool.and_eq_true] at t
          exact t.1
        | cons w r =>
          have sy := okE y G h2
          exact ⟨sy.pe, fun t => sy.pw _ _ _ rfl (by unfold tOk; exact t)⟩
      have pw : tOk (.BoolOp .Or (u :: v :: r) p) = true → PW X (.BoolOp .Or (u :: v :: r) p) (tT X (EX X.K E0) Γ (.or x y)) := fun t => by
        unfold tOk tOk.tOks at t
        rw [Bool.and_eq_true] at t
        exact qw_or (sx.pt t.1) (rest.2 t.2)
      have pe := q_or sx.pe rest.1
      refine ⟨pe, q_O pe (fun _ z => by cases z), q_V pe (fun _ z => by cases z), fun t => ⟨fun pins s σ H Q I q => (pw t).run _ pins s σ H Q I q⟩, fun op vs p' z t => ?_⟩
      cases z
      exact pw t
    · cases h
  | .ife c x y, X, sc, fc, a, G, h => by
    unfold chkE at h
    split at h
    · simp only [Bool.and_eq_true] at h
      obtain ⟨⟨⟨h0, h1⟩, h2⟩, h3⟩ := h
      exact .of (fun _ z => by cases z) (q_ife ((okE c G h1).pt h0) (okE x G h2).pe (okE y G h3).pe) (fun t => by unfold tOk at t; cases t) (fun _ _ _ z => by cases z)
    · cases h
  | .ix x y, X, sc, fc, a, G, h => by
    unfold chkE at h
    split at h
    · simp only [Bool.and_eq_true] at h
      obtain ⟨⟨h0, h1⟩, h2⟩ := h
      exact .val (fun _ z => by cases z) (q_ix G.units (okE x G h1).po (okE y G h2).po (plainIx_of h0)) (fun _ => rfl) (fun _ _ _ z => by cases z)
    · cases h
  | .sl x lo hi, X, sc, fc, a, G, h => by
    unfold chkE at h
    split at h
    · simp only [Bool.and_eq_true] at h
      obtain ⟨⟨h0, h1⟩, h2⟩ := h
      exact .val (fun _ z => by cases z) (q_sl (okE x G h0).po (okOe lo G h1) (okOe hi G h2)) (fun _ => rfl) (fun _ _ _ z => by cases z)
    · cases h
  | .call f as, X, sc, fc, a, G, h => by
    unfold chkE at h
    split at h
    · rename_i x p1 es p
      simp only [Bool.and_eq_true, decide_eq_true_eq] at h
      obtain ⟨⟨⟨⟨rfl, h0⟩, h1⟩, h2⟩, h3⟩ := h
      obtain ⟨hg, hd⟩ := glOk_of G h0
      obtain ⟨f', fd, ps, e1, hF, hm, hk, hb⟩ := G.fns _ (List.contains_iff_mem.mp h1)
      obtain ⟨ha, hl⟩ := okAs as G h3
      have e1 : ps.length = asLen as := e1
      cases es with
      | nil =>
        have e2 : asLen as = 0 := hl.symm
        have e3 : as = .nil := by cases as <;> first | rfl | (unfold asLen at e2; cases e2)
        subst e3
        exact .val (fun _ z => by cases z) (q_call0 hF G.rm hg hm hk hb pass0 hd rfl e1) (fun _ => rfl) (fun _ _ _ z => by cases z)
      | cons e0 es =>
        exact .val (fun _ z => by cases z) (q_call (np := 0) hF G.rm hg hm hk hb pass0 ha h2 hd rfl fun ρ ρ' ds e => by rw [evAs_len' e, e1]) (fun _ => rfl) (fun _ _ _ z => by cases z)
    · cases h
  | .bi b es, X, sc, fc, a, G, h => by
    unfold chkE at h
    split at h
    · simp only [Bool.and_eq_true, decide_eq_true_eq] at h
      obtain ⟨⟨⟨rfl, h0⟩, h1⟩, h2⟩ := h
      obtain ⟨hg, hm⟩ := bltOk_of G h0
      exact .val (fun _ z => by cases z) (q_bi G.calm hg hm (okOs es G h2) h1) (fun _ => rfl) (fun _ _ _ z => by cases z)
    · cases h
  | .isi x t, X, sc, fc, a, G, h => by
    unfold chkE at h
    split at h
    · simp only [Bool.and_eq_true, decide_eq_true_eq] at h
      obtain ⟨⟨⟨⟨⟨rfl, h0⟩, rfl⟩, h1⟩, h2⟩, h3⟩ := h
      obtain ⟨hg, hm⟩ := bltOk_of G h0
      obtain ⟨hg2, hm2⟩ := bltOk_of G h1
      exact .val (fun _ z => by cases z) (q_isi hg hm hg2 hm2 (okE x G h3).po h2) (fun _ => rfl) (fun _ _ _ z => by cases z)
    · cases h
  | .lc own p it cs elt, X, sc, fc, a, G, h => by
    unfold chkE at h
    split at h
    · rename_i e t i ifs asy scope pos
      simp only [Bool.and_eq_true, decide_eq_true_eq] at h
      obtain ⟨⟨⟨⟨⟨⟨⟨rfl, h0⟩, h1⟩, h2⟩, h3⟩, h4⟩, h5⟩, h6⟩ := h
      have ok := blkOk_by h0
      refine .val (fun _ z => by cases z) ?_ (fun _ => rfl) (fun _ _ _ z => by cases z)
      have := q_lc (X := X) (E := EX X.K E0) (Γ := Γ) (elt := e) (pos := pos) (p := p) (it := it) (cs := cs) (ie := elt) (ownN := ownN N own) G.calm (by rw [G.n]; exact G.nd) (okIt it G h3) (by rw [G.n, G.es]; exact ok)
        (fun s H C cl fp => okP p (G.blk ok.kind s H C cl fp) h4) (fun s H C cl fp => okTs cs (G.blk ok.kind s H C cl fp) h5) (fun s H C cl fp => (okE elt (G.blk ok.kind s H C cl fp) h6).pv) (fold_of h2) (by rw [ownN_snd]; exact all_contains h1)
      rw [ownN_snd] at this
      exact this
    · cases h
  | .rev x, X, sc, fc, a, G, h => by
    unfold chkE at h
    split at h
    · rw [Bool.and_eq_true, decide_eq_true_eq] at h
      obtain ⟨rfl, h1⟩ := h
      exact .val (fun _ z => by cases z) (q_rev (okE x G h1).po) (fun _ => rfl) (fun _ _ _ z => by cases z)
    · cases h
  | .meth _ _ _, X, sc, fc, a, G, h => by unfold chkE at h; cases h
  | .pop _, X, sc, fc, a, G, h => by unfold chkE at h; cases h
  | .lc2 _ _ _ _ _ _ _, X, sc, fc, a, G, h => by unfold chkE at h; cases h
  | .dlit ks vs, X, sc, fc, a, G, h => by
    unfold chkE at h
    split at h
    · simp only [Bool.and_eq_true, decide_eq_true_eq, Bool.not_eq_true'] at h
      obtain ⟨⟨h1, h2⟩, h3⟩ := h
      exact .val (fun _ z => by cases z) (q_dlit h1 (fun z => by rw [z] at h2; cases h2) h3) (fun _ => rfl) (fun _ _ _ z => by cases z)
    · cases h
  | .dc _ _ _ _ _, X, sc, fc, a, G, h => by unfold chkE at h; cases h
  | .srtk _ _, X, sc, fc, a, G, h => by unfold chkE at h; cases h
theorem okVs : ∀ (es : Es) {X : Cx} {sc : Scope} {fc : Str → Bool} {as : List Expr}, Good g Γ k N X sc fc → chkVs g N es sc fc as = true → PA X as (tVs X (EX X.K E0) Γ es) ∧ as.length = esLen es
  | .nil, X, sc, fc, as, G, h => by
    unfold chkVs at h
    split at h
    · exact ⟨q_nil, rfl⟩
    · cases h
  | .cons e es, X, sc, fc, as, G, h => by
    unfold chkVs at h
    split at h
    · simp only [Bool.and_eq_true] at h
      obtain ⟨⟨h0, h1⟩, h2⟩ := h
      obtain ⟨h3, h4⟩ := okVs es G h2
      exact ⟨q_cons (okE e G h1).pv h3 (star_cons h0), congrArg (· + 1) h4⟩
    · cases h
theorem okOs : ∀ (es : Es) {X : Cx} {sc : Scope} {fc : Str → Bool} {as : List Expr}, Good g Γ k N X sc fc → chkOs g N es sc fc as = true → PA X as (tOs X (EX X.K E0) Γ es)
  | .nil, X, sc, fc, as, G, h => by
    unfold chkOs at h
    split at h
    · exact q_onil
    · cases h
  | .cons e es, X, sc, fc, as, G, h => by
    unfold chkOs at h
    split at h
    · simp only [Bool.and_eq_true] at h
      obtain ⟨⟨h0, h1⟩, h2⟩ := h
      exact q_ocons (okE e G h1).po (okOs es G h2) (star_cons h0)
    · cases h
theorem okTs : ∀ (es : Es) {X : Cx} {sc : Scope} {fc : Str → Bool} {as : List Expr}, Good g Γ k N X sc fc → chkTs g N es sc fc as = true → PTs X as (tTs X (EX X.K E0) Γ es)
  | .nil, X, sc, fc, as, G, h => by
    unfold chkTs at h
    split at h
    · exact q_tsnil
    · cases h
  | .cons e es, X, sc, fc, as, G, h => by
    unfold chkTs at h
    split at h
    · simp only [Bool.and_eq_true] at h
      obtain ⟨⟨h0, h1⟩, h2⟩ := h
      cases es with
      | nil => exact q_tsone ((okE e G h2).pt h1)
      | cons _ _ => cases h0
    · cases h
theorem okOe : ∀ (o : Oe) {X : Cx} {sc : Scope} {fc : Str → Bool} {a : Option Expr}, Good g Γ k N X sc fc → chkOe g N o sc fc a = true → PO X a (tOe X (EX X.K E0) Γ o)
  | .none, X, sc, fc, a, G, h => by
    unfold chkOe at h
    split at h
    · exact q_oeN
    · cases h
  | .some e, X, sc, fc, a, G, h => by
    unfold chkOe at h
    split at h
    · exact q_oeS (okE e G h).pe
    · cases h
theorem okAs : ∀ (es : As) {X : Cx} {sc : Scope} {fc : Str → Bool} {as : List Expr}, Good g Γ k N X sc fc → chkAs g N es sc fc as = true → PA X as (tAs X E0 Γ es) ∧ as.length = asLen es
  | .nil, X, sc, fc, as, G, h => by
    unfold chkAs at h
    split at h
    · exact ⟨q_anil, rfl⟩
    · cases h
  | .val e es, X, sc, fc, as, G, h => by
    unfold chkAs at h
    split at h
    · simp only [Bool.and_eq_true] at h
      obtain ⟨⟨h0, h1⟩, h2⟩ := h
      obtain ⟨h3, h4⟩ := okAs es G h2
      exact ⟨q_aval (okE e G h1).pv h3 h0, congrArg (· + 1) h4⟩
    · cases h
  | .mut i es, X, sc, fc, as, G, h => by
    unfold chkAs at h
    split at h
    · simp only [Bool.and_eq_true] at h
      obtain ⟨h1, h2⟩ := h
      obtain ⟨h3, h4⟩ := okAs es G h2
      obtain ⟨n1, n2, n3, n4⟩ := nmOk_of G h1
      exact ⟨q_amut n1 n2 n3 n4 h3, congrArg (· + 1) h4⟩
    · cases h
theorem okIt : ∀ (it : Y.It) {X : Cx} {sc : Scope} {fc : Str → Bool} {t a : Expr}, Good g Γ k N X sc fc → chkIt g N it sc fc t a = true → PI X t a (tIt X (EX X.K E0) Γ it)
  | .seq e, X, sc, fc, t, a, G, h => by
    unfold chkIt at h
    exact q_seq (okE e G h).pv
  | .rng1 e, X, sc, fc, t, a, G, h => by
    unfold chkIt at h
    split at h
    · simp only [Bool.and_eq_true, decide_eq_true_eq] at h
      obtain ⟨⟨⟨rfl, h0⟩, h1⟩, h2⟩ := h
      obtain ⟨hg, hm⟩ := bltOk_of G h0
      exact q_rng1 hg hm (okE e G h2).pe h1
    · cases h
  | .rng2 e e', X, sc, fc, t, a, G, h => by
    unfold chkIt at h
    split at h
    · simp only [Bool.and_eq_true, decide_eq_true_eq] at h
      obtain ⟨⟨⟨⟨⟨rfl, h0⟩, h1⟩, h1'⟩, h2⟩, h3⟩ := h
      obtain ⟨hg, hm⟩ := bltOk_of G h0
      exact q_rng2 hg hm (okE e G h2).pe (okE e' G h3).pe h1 h1'
    · cases h
  | .zip e e', X, sc, fc, t, a, G, h => by
    unfold chkIt at h
    split at h
    · simp only [Bool.and_eq_true, decide_eq_true_eq] at h
      obtain ⟨⟨⟨⟨⟨rfl, h0⟩, h1⟩, h1'⟩, h2⟩, h3⟩ := h
      obtain ⟨hg, hm⟩ := bltOk_of G h0
      exact q_zip hg hm (okE e G h2).pv (okE e' G h3).pv h1 h1'
    · cases h
  | .enu e, X, sc, fc, t, a, G, h => by
    unfold chkIt at h
    split at h
    · simp only [Bool.and_eq_true, decide_eq_true_eq] at h
      obtain ⟨⟨⟨rfl, h0⟩, h1⟩, h2⟩ := h
      obtain ⟨hg, hm⟩ := bltOk_of G h0
      exact q_enu hg hm (okE e G h2).pv h1
    · cases h
end
end
end Y

set_option Elab.async false
set_option linter.all false
set_option maxRecDepth 100000
namespace Y
open PySem L2
theorem swaps_no {v : Expr} {t : Option Expr} {l : Nat} {env : Env} (h : notComp v = true) : swapsWith v t l env = pure false := by
  cases v <;> first | rfl | exact absurd (show false = true from h) Bool.false_ne_true
theorem sole_no {v t : Expr} {l : Nat} {env : Env} (h : notComp v = true) : swapsWithSole [t] v l env = pure false := by
  show swapsWith v (some t) l env = _
  exact swaps_no h
theorem stores_no {v t : Expr} {env : Env} (h : notTup v = true) : swappedStores [t] v env = pure none := by
  cases v <;> first | (cases t <;> rfl) | exact absurd (show false = true from h) Bool.false_ne_true
theorem stores_sub {v o i : Expr} {p : Pos} {env : Env} : swappedStores [.Subscript o i p] v env = pure none := rfl
theorem swaps_lc {e : Expr} {cs : List Comprehension} {s : Scope} {p px : Pos} {x : Str} {l : Nat} {env : Env} (hk : env.scope.kind = .function) : swapsWith (.ListComp e cs s p) (some (.Name x px)) l env = pure (swB env.scope x px (.ListComp e cs s p)) := by
  show pure (env.blockKind == .function && env.kindOf x == some .local && px.line == p.line && !(s.names.any fun (n, k) => n == x && (k == .local || k == .cell))) = _
  have : (env.blockKind == .function) = true := by unfold Env.blockKind; rw [hk]; rfl
  rw [this]
  rfl
theorem stores_par {x y : Str} {px py pt pt2 : Pos} {kt k2 : Nat} {a b : Expr} {env : Env} (hk : env.scope.kind = .function) (h : par2Ok env.scope x y px py a b = true) : swappedStores [.Tuple [.Name x px, .Name y py] kt pt] (.Tuple [a, b] k2 pt2) env = pure (some [x, y]) := by
  unfold par2Ok at h
  simp only [Bool.and_eq_true, decide_eq_true_eq, Bool.not_eq_true'] at h
  obtain ⟨⟨⟨⟨⟨⟨⟨h1, h2⟩, h3⟩, h4⟩, h5⟩, h6⟩, h7⟩, h8⟩ := h
  have hb : (env.blockKind == .function) = true := by unfold Env.blockKind; rw [hk]; rfl
  have hb' : (env.blockKind != .function) = false := by unfold bne; rw [hb]; rfl
  have k1 : (env.kindOf x == some .local) = true := h1
  have k2 : (env.kindOf y == some .local) = true := h2
  have hst : ([a, b].any fun | .Starred .. => true | _ => false) = false := by
    rw [List.any_eq_false]
    intro e he
    have hs : notStar e = true := by
      rcases List.mem_cons.mp he with rfl | he
      · exact h5
      · rcases List.mem_cons.mp he with rfl | he
        · exact h6
        · cases he
    cases e <;> first | exact Bool.false_ne_true | exact absurd (show false = true from hs) Bool.false_ne_true
  have hf : [a, b].all (foldedForSure 8) = false := by
    show (foldedForSure 8 a && (foldedForSure 8 b && true)) = false
    rw [Bool.and_true]; exact h7
  have hc : [a, b].all (constantsAlone 8) = false := by
    show (constantsAlone 8 a && (constantsAlone 8 b && true)) = false
    rw [Bool.and_true]; exact h8
  have hn : ([Expr.Name x px, Expr.Name y py].filterMap fun
    | .Name id pos => if env.kindOf id == some .local && pos.line == (([Expr.Name x px, Expr.Name y py].head?.map (·.pos.line)).getD 0) then some id else none
    | _ => none) = [x, y] := by
    have e1 : (([Expr.Name x px, Expr.Name y py].head?.map (·.pos.line)).getD 0) = px.line := rfl
    rw [e1]
    have : (py.line == px.line) = true := by rw [beq_iff_eq] at h4 ⊢; exact h4.symm
    simp [List.filterMap, k1, k2, this]
  have he : [x, y].eraseDups = [x, y] := by
    have : (x == y) = false := by simpa using h3
    simp [List.eraseDups_cons, Ne.symm h3]
  have key : ∀ (L : List Str) (B : Bool), L = [x, y] → B = false → (if (!(2 == 2 || 2 == 3) || 2 != 2 || env.blockKind != ScopeKind.function) = true then pure none
      else if B = true then pure none
      else if (L.length != 2 || L.eraseDups.length != L.length) = true then pure none
      else if [a, b].all (foldedForSure 8) = true then pure none
      else if [a, b].all (constantsAlone 8) = true then (do
        unsupported "assign.tuple-of-constant-expressions:order-of-the-stores"
        pure (some L))
      else pure (some L) : Sem (Option (List Str))) = pure (some [x, y]) := by
    rintro L B rfl rfl
    rw [he, hf, hc, hb']
    rfl
  exact key _ _ hn hst
end Y

set_option Elab.async false
set_option linter.all false
set_option maxRecDepth 100000
namespace Y
open PySem L2
section
variable {g : GI} {Γ : Gam} {k : Nat} {N : List Str} {X : Cx} {sc : Scope} {fc : Str → Bool}
theorem Good.nx (G : Good g Γ k N X sc fc) : X.N.Nodup := by rw [G.n]; exact G.nd
theorem Good.at_ (G : Good g Γ k N X sc fc) {i : Nat} {x : Str} (h : N[i]? = some x) : X.N[i]? = some x := by rw [G.n]; exact h
theorem chk_lc {e : Y.E} {elt : Expr} {cs : List Comprehension} {s : Scope} {p : Pos} (h : chkE g N e sc fc (.ListComp elt cs s p) = true) : (∃ own pt it ts el, e = .lc own pt it ts el) := by
  cases e <;> first | exact ⟨_, _, _, _, _, rfl⟩ | (unfold chkE at h; exact absurd h Bool.false_ne_true)
theorem okSet {i : Nat} {e : Y.E} {x : Str} {px pos : Pos} {v : Expr} (G : Good g Γ k N X sc fc) (hi : N[i]? = some x) (hl : locOk sc fc x = true) (he : chkE g N e sc fc v = true) (hv : lcOrNot v = true) : PS X (.Assign [.Name x px] v pos) (tS X (EX X.K E0) Γ (.set i e)) := by
  obtain ⟨l1, l2⟩ := locOk_of G hl
  by_cases hc : notComp v = true
  · exact q_set G.nx (G.at_ hi) l1 (okE e G he).pe (swaps_no hc) l2
  · cases v with
    | ListComp elt cs s p =>
      have hsw := swaps_lc (e := elt) (cs := cs) (s := s) (p := p) (px := px) (x := x) (l := pos.line) (env := X.env) (by rw [G.es]; exact G.kd)
      cases hb : swB X.env.scope x px (.ListComp elt cs s p) with
      | false => rw [hb] at hsw; exact q_set G.nx (G.at_ hi) l1 (okE e G he).pe hsw l2
      | true =>
        rw [hb] at hsw
        have hyl : X.env.scope.names.lookup x = some .local := by
          unfold swB at hb
          simp only [Bool.and_eq_true, beq_iff_eq] at hb
          exact hb.1.1
        obtain ⟨own, pt, it, ts, el, rfl⟩ := chk_lc he
        unfold chkE at he
        split at he
        · rename_i e' t i' ifs asy scope pos' heq
          cases heq
          simp only [Bool.and_eq_true, decide_eq_true_eq] at he
          obtain ⟨⟨⟨⟨⟨⟨⟨rfl, h0⟩, h1⟩, h2⟩, h3⟩, h4⟩, h5⟩, h6⟩ := he
          have ok := blkOk_by h0
          have := q_setlc (X := X) (E := EX X.K E0) (Γ := Γ) (spos := pos) (py := px) (i := i) (ownN := ownN N own) (p := pt) (it := it) (cs := ts) (ie := el) G.calm G.nx (G.at_ hi) hyl hsw (okIt it G h3) (by rw [G.n, G.es]; exact ok)
            (fun s H C cl fp => okP pt (G.blk ok.kind s H C cl fp) h4) (fun s H C cl fp => okTs ts (G.blk ok.kind s H C cl fp) h5) (fun s H C cl fp => (okE el (G.blk ok.kind s H C cl fp) h6).pv) (fold_of h2) (by rw [ownN_snd]; exact all_contains h1)
          rw [ownN_snd] at this
          exact this
        · cases he
    | SetComp => cases hv
    | DictComp => cases hv
    | _ => exact absurd rfl hc
theorem pass_x (G : Good g Γ k N X sc fc) : PassesOwn (model X.prog X.w) X.A X.env X.xe := by rw [G.xe]; exact PassesOwn.never
mutual
theorem okS : ∀ (s : Y.S) {st : Stmt}, Good g Γ k N X sc fc → chkS g N sc fc s st = true → PS X st (tS X (EX X.K E0) Γ s)
  | .set i e, st, G, h => by
    unfold chkS at h
    split at h
    · simp only [Bool.and_eq_true, decide_eq_true_eq] at h
      obtain ⟨⟨⟨h1, h2⟩, h3⟩, h4⟩ := h
      exact okSet G h1 h2 h3 h4
    · cases h
  | .unp p e, st, G, h => by
    unfold chkS at h
    split at h
    · simp only [Bool.and_eq_true] at h
      obtain ⟨⟨⟨⟨h1, h2⟩, h3⟩, h4⟩, h5⟩ := h
      exact q_unp (okE e G h5).pv (okP p G h4) (swaps_no h3) (stores_no h2) h1
    · cases h
  | .par is es, st, G, h => by
    unfold chkS at h
    split at h
    · simp only [Bool.and_eq_true, decide_eq_true_eq] at h
      obtain ⟨⟨⟨⟨⟨h1, h2⟩, h3⟩, h4⟩, h5⟩, h6⟩ := h
      have h7 := h4
      unfold par2Ok at h4
      simp only [Bool.and_eq_true, beq_iff_eq] at h4
      have hk : X.env.scope.kind = .function := by rw [G.es]; exact G.kd
      rename_i i j ea eb x px y py _ _ a b _ _ pos
      exact q_par2 G.calm G.nx (G.at_ h1) (G.at_ h2) h3 (by rw [G.es]; exact h4.1.1.1.1.1.1.1) (by rw [G.es]; exact h4.1.1.1.1.1.1.2) (okE ea G h5).pe (okE eb G h6).pe h4.1.1.1.2 h4.1.1.2 (stores_par hk (by rw [G.es]; exact h7))
    · cases h
  | .setix i e1 e, st, G, h => by
    unfold chkS at h
    split at h
    · simp only [Bool.and_eq_true] at h
      obtain ⟨⟨⟨⟨h1, h2⟩, h3⟩, h4⟩, h5⟩ := h
      obtain ⟨n1, n2, n3, n4⟩ := nmOk_of G h1
      exact q_setix G.units n1 n2 n3 n4 (okE e1 G h4).pv (okE e G h5).pv h2 (sole_no h3) stores_sub
    · cases h
  | .app i e, st, G, h => by
    unfold chkS at h
    split at h
    · simp only [Bool.and_eq_true, decide_eq_true_eq] at h
      obtain ⟨⟨⟨⟨rfl, h2⟩, h3⟩, h4⟩, h5⟩ := h
      obtain ⟨n1, n2, n3, n4⟩ := nmOk_of G h2
      exact q_app n1 n2 n3 n4 (okE e G h5).pv h3 h4
    · cases h
  | .exp e, st, G, h => by
    unfold chkS at h
    split at h
    · rw [Bool.and_eq_true] at h
      exact q_exp (okE e G h.2).pe (swaps_no h.1)
    · cases h
  | .ret e, st, G, h => by
    unfold chkS at h
    split at h
    · exact q_ret (okE e G h).pe
    · cases h
  | .retn, st, G, h => by
    unfold chkS at h
    split at h
    · exact q_retn
    · cases h
  | .ife c x y, st, G, h => by
    unfold chkS at h
    split at h
    · simp only [Bool.and_eq_true] at h
      obtain ⟨⟨⟨h1, h2⟩, h3⟩, h4⟩ := h
      exact qs_ife ((okE c G h2).pt h1) (okSs x G h3) (okSs y G h4)
    · cases h
  | .whl c b, st, G, h => by
    unfold chkS at h
    split at h
    · simp only [Bool.and_eq_true] at h
      obtain ⟨⟨h1, h2⟩, h3⟩ := h
      exact q_whl (pass_x G) ((okE c G h2).pt h1) (okSs b G h3)
    · cases h
  | .frr p it b, st, G, h => by
    unfold chkS at h
    split at h
    · simp only [Bool.and_eq_true] at h
      obtain ⟨⟨⟨h1, h2⟩, h3⟩, h4⟩ := h
      exact q_frr (pass_x G) G.calm (okIt it G h3) (okP p G h2) (okSs b G h4) (fold_of h1)
    · cases h
  | .rse c es, st, G, h => by
    unfold chkS at h
    split at h
    · exact q_rse0 h
    · cases h
  | .brk, st, G, h => by
    unfold chkS at h
    split at h
    · exact q_brk
    · cases h
  | .cnt, st, G, h => by
    unfold chkS at h
    split at h
    · exact q_cnt
    · cases h
  | .pss, st, G, h => by
    unfold chkS at h
    split at h
    · exact q_pss
    · cases h
theorem okSs : ∀ (s : Ss) {st : List Stmt}, Good g Γ k N X sc fc → chkSs g N sc fc s st = true → PSs X st (tSs X (EX X.K E0) Γ s)
  | .nil, st, G, h => by
    unfold chkSs at h
    split at h
    · exact qs_nil
    · cases h
  | .cons s ss, st, G, h => by
    unfold chkSs at h
    split at h
    · rw [Bool.and_eq_true] at h
      exact qs_cons (okS s G h.1) (okSs ss G h.2)
    · cases h
end
end
end Y

set_option Elab.async false
set_option linter.all false
set_option maxRecDepth 100000
namespace Y
open PySem L2
theorem zip_look : ∀ {ns : List Str} {us : List Value}, ns.Nodup → us.length = ns.length → ∀ n ∈ ns, ∃ u, (ns.zip us).lookup n = some u
  | a :: r, u :: q, nd, hl, n, hn => by
    rw [List.zip_cons_cons, List.lookup_cons]
    cases hb : n == a with
    | true => exact ⟨u, rfl⟩
    | false =>
      rcases List.mem_cons.mp hn with rfl | hn
      · simp at hb
      · exact zip_look (List.nodup_cons.mp nd).2 (by simpa using hl) n hn
  | a :: r, [], nd, hl, n, hn => by simp at hl
theorem fm_congr {α β : Type} {f g : α → Option β} : ∀ {l : List α}, (∀ x ∈ l, f x = g x) → l.filterMap f = l.filterMap g
  | [], _ => rfl
  | a :: r, h => by
    rw [List.filterMap_cons, List.filterMap_cons, h a List.mem_cons_self, fm_congr fun x hx => h x (List.mem_cons_of_mem _ hx)]
theorem zip_map : ∀ {ns : List Str} {us : List Value}, ns.Nodup → us.length = ns.length → (ns.filterMap fun n => ((ns.zip us).lookup n).map (n, ·)) = ns.zip us
  | [], us, _, _ => rfl
  | a :: r, [], nd, hl => by simp at hl
  | a :: r, u :: q, nd, hl => by
    obtain ⟨h1, h2⟩ := List.nodup_cons.mp nd
    rw [List.zip_cons_cons, List.filterMap_cons]
    have e : ((a, u) :: r.zip q).lookup a = some u := by rw [List.lookup_cons]; simp
    rw [e]
    dsimp only [Option.map]
    congr 1
    have ih := zip_map h2 (us := q) (by simpa using hl)
    refine Eq.trans (fm_congr fun n hn => ?_) ih
    have : (n == a) = false := by
      rw [beq_eq_false_iff_ne]
      exact fun z => h1 (z ▸ hn)
    rw [List.lookup_cons, this]
    rfl
theorem bind0 {fd : FuncData} {ps : List Str} {args : List PySem.Arg} (hp : fd.params = { posonlyargs := [], args := args, vararg := none, kwonlyargs := [], kw_defaults := [], kwarg := none, defaults := [] }) (hd : fd.defaults = .none) (ha : args.map (·.arg) = ps) (nd : ps.Nodup) (us : List Value) (hl : us.length = ps.length) :
    bindArgs fd ⟨us, []⟩ = pure (ps.zip us) := by
  have hm : (ps.take ps.length).filter (fun n => ((ps.zip us).lookup n).isNone) = [] := by
    rw [List.take_length, List.filter_eq_nil_iff]
    intro n hn
    obtain ⟨u, e⟩ := zip_look nd hl n hn
    rw [e]
    exact Bool.false_ne_true
  have hz := zip_map nd hl
  have hs : seqItems? Value.none = pure none := rfl
  unfold bindArgs
  rw [hp, hd]
  simp only [List.map_nil, List.nil_append, ha, List.append_nil, List.forIn_nil, hl, Option.isNone_none, Bool.and_true, gt_iff_lt, Nat.lt_irrefl, decide_false, pure_bind]
  rw [hs]
  simp only [pure_bind, Bool.false_eq_true, if_false, Option.getD_none, List.length_nil, Nat.sub_zero, List.drop_nil, hm, List.isEmpty_nil, Bool.not_true, List.drop_length, List.zip_nil_left, List.forIn_nil, List.zip_nil_right, hz, Nat.zero_sub]

/-! ### the module's data -/
def flatV : PyData → Value → Bool
  | .none, .none => true
  | .bool b, .bool c => b == c
  | .int i, .int j _ => decide (i = j)
  | .str x, .str y _ => decide (x = y)
  | _, _ => false
theorem flatV_ok {K : PySem.W.Frag} {d : PyData} {u : Value} (h : flatV d u = true) : ∃ v, RelV v u ∧ ∀ F, Dq K F v d := by
  unfold flatV at h
  split at h
  · exact ⟨.non, rfl, fun _ => .non⟩
  · rw [beq_iff_eq] at h; subst h; exact ⟨.bl _, rfl, fun _ => .bl _⟩
  · rw [decide_eq_true_eq] at h; subst h; exact ⟨.int _, ⟨_, rfl⟩, fun _ => .int _⟩
  · rw [decide_eq_true_eq] at h; subst h; exact ⟨.str _, ⟨_, rfl⟩, fun _ => .str _⟩
  · cases h
mutual
inductive RepC (K : PySem.W.Frag) : PyData → Value → Prop
  | flat {d : PyData} {u : Value} : flatV d u = true → RepC K d u
  | tup {ds : List PyData} {a : Addr} {od : Option Addr} {its : Array Value} {n : Nat} {osl : Array (Option Value)} : K.lookup a = some ⟨.type "tuple", od, .seq its n, osl⟩ → decide (its.size ≤ 1000000) = true → RepCs K ds its.toList → RepC K (.tuple ds) (.ref a)
inductive RepCs (K : PySem.W.Frag) : List PyData → List Value → Prop
  | nil : RepCs K [] []
  | cons {d : PyData} {u : Value} {ds : List PyData} {us : List Value} : RepC K d u → RepCs K ds us → RepCs K (d :: ds) (u :: us)
end
def flatVs : List PyData → List Value → Bool
  | [], [] => true
  | d :: ds, u :: us => flatV d u && flatVs ds us
  | _, _ => false
theorem RepCs.flats {K : PySem.W.Frag} : ∀ {ds : List PyData} {us : List Value}, flatVs ds us = true → RepCs K ds us
  | [], [], _ => .nil
  | [], _ :: _, h => by cases h
  | _ :: _, [], h => by cases h
  | d :: ds, u :: us, h => by
    unfold flatVs at h
    rw [Bool.and_eq_true] at h
    exact .cons (.flat h.1) (RepCs.flats h.2)
mutual
theorem repC_ok {K : PySem.W.Frag} : ∀ {d : PyData} {u : Value}, RepC K d u → ∃ v, RelV v u ∧ ∀ F, Dq K F v d
  | _, _, .flat h => flatV_ok h
  | _, _, .tup (a := a) ho hl r => by
    obtain ⟨vs, r, q⟩ := repCs_ok r
    exact ⟨.ref a, rfl, fun F => .tup (.inr ⟨_, _, _, ho, rfl, rfl, Nat.le_trans (of_decide_eq_true hl) (by decide), r⟩) (q F)⟩
theorem repCs_ok {K : PySem.W.Frag} : ∀ {ds : List PyData} {us : List Value}, RepCs K ds us → ∃ vs, Vals vs us ∧ ∀ F, DqAll K F vs ds
  | _, _, .nil => ⟨[], .nil, fun _ => .nil⟩
  | _, _, .cons h r => by
    obtain ⟨v, r1, q1⟩ := repC_ok h
    obtain ⟨vs, r2, q2⟩ := repCs_ok r
    exact ⟨v :: vs, .cons r1 r2, fun F => .cons (q1 F) (q2 F)⟩
end

/-! ### the module's defs -/
def argsB (p : Arguments) (ps : List Str) : Bool := p.posonlyargs.isEmpty && p.vararg.isNone && p.kwonlyargs.isEmpty && p.kw_defaults.isEmpty && p.kwarg.isNone && p.defaults.isEmpty && decide (p.args.map (·.arg) = ps)
theorem argsB_of {p : Arguments} {ps : List Str} (h : argsB p ps = true) : ∃ as : List PySem.Arg, p = { posonlyargs := [], args := as, vararg := none, kwonlyargs := [], kw_defaults := [], kwarg := none, defaults := [] } ∧ as.map (·.arg) = ps := by
  unfold argsB at h
  simp only [Bool.and_eq_true, List.isEmpty_iff, Option.isNone_iff_eq_none, decide_eq_true_eq] at h
  obtain ⟨⟨⟨⟨⟨⟨h1, h2⟩, h3⟩, h4⟩, h5⟩, h6⟩, h7⟩ := h
  cases p
  simp only at h1 h2 h3 h4 h5 h6 h7
  subst h1 h2 h3 h4 h5 h6
  exact ⟨_, rfl, h7⟩
def scB (N ps : List Str) (sc : Scope) : Bool := (match sc.kind with
    | .function => true
    | _ => false) && !sc.isCoroutine && !sc.isGenerator && decide N.Nodup && decide (N.take ps.length = ps) && (ps.all fun x => match sc.names.lookup x with
    | some .local => true
    | some .cell => true
    | _ => false) && sc.names.all fun y => match y.2 with
    | .free => false
    | _ => true
theorem scB_of {N ps : List Str} {sc : Scope} (h : scB N ps sc = true) : FnScope N ps sc := by
  unfold scB at h
  simp only [Bool.and_eq_true, Bool.not_eq_true', decide_eq_true_eq, List.all_eq_true] at h
  obtain ⟨⟨⟨⟨⟨⟨h1, h2⟩, h3⟩, h4⟩, h5⟩, h6⟩, h7⟩ := h
  refine ⟨?_, h2, h3, h4, h5, fun x hx => ?_, fun y hy e => ?_⟩
  · split at h1
    · assumption
    · cases h1
  · have := h6 x hx
    split at this
    · exact .inl (by assumption)
    · exact .inr (by assumption)
    · cases this
  · have := h7 y hy
    rw [e] at this
    cases this
def okPart (g : GI) (d : Fn) (params : Arguments) (body : List Stmt) (scope : Scope) : Bool :=
  chkSs g d.names scope (fun _ => true) d.body body && scB d.names (d.names.take d.np) scope && argsB params (d.names.take d.np) && decide (d.np ≤ d.names.length)
/-- a def stands at the module's top -/
inductive HasDef (K : PySem.W.Frag) (g : GI) (d : Fn) : Prop
  | mk {f : Addr} {oc : Value} {od an : Option Addr} {osl : Array (Option Value)} {kV doc pm cdv ct : Value} {name qual : Str} {params : Arguments} {body : List Stmt} {scope : Scope} :
    PySem.W.nsIn K mainGlobals d.name = some (some (.ref f)) → K.lookup f = some ⟨oc, od, .func (PySem.W.fnOf name qual params body scope .none kV doc pm an cdv ct), osl⟩ → PySem.W.codeIn K cdv qual = true → okPart g d params body scope = true → HasDef K g d
inductive AllD (K : PySem.W.Frag) (g : GI) : List Fn → Prop
  | nil : AllD K g []
  | cons {d : Fn} {ds : List Fn} : HasDef K g d → AllD K g ds → AllD K g (d :: ds)
theorem AllD.mem {K : PySem.W.Frag} {g : GI} {d : Fn} : ∀ {T : List Fn}, AllD K g T → d ∈ T → HasDef K g d
  | _, .cons h r, hd => by
    rcases List.mem_cons.mp hd with rfl | hd
    · exact h
    · exact r.mem hd
inductive AllC (K : PySem.W.Frag) : List (Str × PyData) → Prop
  | nil : AllC K []
  | cons {x : Str} {d : PyData} {u : Value} {r : List (Str × PyData)} : PySem.W.nsIn K mainGlobals x = some (some u) → RepC K d u → AllC K r → AllC K ((x, d) :: r)
theorem AllC.mem {K : PySem.W.Frag} {p : Str × PyData} : ∀ {l : List (Str × PyData)}, AllC K l → p ∈ l → ∃ u, PySem.W.nsIn K mainGlobals p.1 = some (some u) ∧ RepC K p.2 u
  | _, .cons h h2 r, hd => by
    rcases List.mem_cons.mp hd with rfl | hd
    · exact ⟨_, h, h2⟩
    · exact r.mem hd
inductive AllB (K : PySem.W.Frag) : List Str → Prop
  | nil : AllB K []
  | cons {x : Str} {r : List Str} : PySem.W.nsIn K mainGlobals x = some none → AllB K r → AllB K (x :: r)
theorem AllB.mem {K : PySem.W.Frag} {x : Str} : ∀ {l : List Str}, AllB K l → x ∈ l → PySem.W.nsIn K mainGlobals x = some none
  | _, .cons h r, hd => by
    rcases List.mem_cons.mp hd with rfl | hd
    · exact h
    · exact r.mem hd
def giOf (T : List Fn) (consts : List (Str × PyData)) (blts : List Str) : GI := ⟨T.map fun d => (d.name, d.np), consts, blts⟩
structure Top (K : PySem.W.Frag) (T : List Fn) (consts : List (Str × PyData)) (blts : List Str) : Prop where
  nd : (T.map (·.name)).Nodup
  defs : AllD K (giOf T consts blts) T
  con : AllC K consts
  blt : AllB K blts
theorem keep_of {K : PySem.W.Frag} {f : Addr} {fd : FuncData} {oc : Value} {od : Option Addr} {osl} (h : K.lookup f = some ⟨oc, od, .func fd, osl⟩) : PySem.W.keepIn K (.ref f) = true := by
  unfold PySem.W.keepIn
  dsimp only
  rw [h]
theorem find_nd : ∀ {T : List Fn} {d : Fn}, (T.map (·.name)).Nodup → d ∈ T → (T.find? fun e => e.name == d.name) = some d
  | a :: r, d, nd, h => by
    rw [List.map_cons] at nd
    obtain ⟨h1, h2⟩ := List.nodup_cons.mp nd
    rw [List.find?_cons]
    rcases List.mem_cons.mp h with rfl | h
    · simp
    · have : (a.name == d.name) = false := by
        rw [beq_eq_false_iff_ne]
        exact fun z => h1 (z ▸ List.mem_map_of_mem h)
      rw [this]
      exact find_nd h2 h
section
open PySem.Spec PyProof.Rows
variable {P : Program} {w : World} {K : PySem.W.Frag} {mg : Str → Option Value} {base : Heap} {T : List Fn} {consts : List (Str × PyData)} {blts : List Str}
theorem all_ok (h : Top K T consts blts) (X : K.In base) (G : base.Ns mainGlobals mg) (fuel : Nat) : ∀ (n : Nat) (d : Fn), d ∈ T → ∃ f fd, (∃ oc od osl, K.lookup f = some ⟨oc, od, .func fd, osl⟩) ∧ mg d.name = some (.ref f) ∧ PySem.W.keepIn K (.ref f) = true ∧ (d.names.take d.np).length = d.np ∧ (∀ us : List Value, us.length = (d.names.take d.np).length → bindArgs fd ⟨us, []⟩ = pure ((d.names.take d.np).zip us)) ∧
    FnOk P w K mg base CX0 n f fd (d.names.take d.np) (spOf K (d.names.take d.np).length (callN fuel T n d.name))
  | n, d, hd => by
    obtain @⟨f, oc, od, an, osl, kV, doc, pm, cdv, ct, name, qual, params, body, scope, a, lk, c, o⟩ := h.defs.mem hd
    unfold okPart at o
    simp only [Bool.and_eq_true, decide_eq_true_eq] at o
    obtain ⟨⟨⟨o1, o2⟩, o3⟩, o4⟩ := o
    obtain ⟨as, e1, e2⟩ := argsB_of o3
    have S := scB_of o2
    have hl : (d.names.take d.np).length = d.np := by rw [List.length_take]; omega
    refine ⟨f, _, ⟨_, _, _, lk⟩, PySem.W.mg_of X G a, keep_of lk, hl, fun us hu => bind0 (fd := PySem.W.fnOf name qual params body scope .none kV doc pm an cdv ct) e1 rfl e2 (S.nd.sublist (List.take_sublist _ _)) us hu, ?_⟩
    cases n with
    | zero =>
      have no : ∀ vs H Q E, ¬ spOf K (d.names.take d.np).length (callN fuel T 0 d.name) vs H Q E := fun vs H Q E ⟨_, F, sl, _, q⟩ => q.2
      exact ⟨fun vs H Q E h => absurd h (no vs H Q E), fun A outer s H args us vs Q E _ _ _ _ h => absurd h (no vs H Q E)⟩
    | succ n =>
      have hc : callN fuel T (n + 1) d.name = run ⟨callN fuel T n, fuel⟩ d := by
        funext as
        show (match T.find? fun e => e.name == d.name with
          | some d => run ⟨callN fuel T n, fuel⟩ d as
          | none => .bad) = _
        rw [find_nd h.nd hd]
      rw [hc]
      refine fn_ok lk c S hl.symm fun A outer s H E hr => okSs (g := giOf T consts blts) (k := n) d.body ?_ o1
      refine ⟨rfl, rfl, S.kind, S.nd, rfl, rfl, hr, rfl, fun x hx => PySem.W.mg_none_of X G (h.blt.mem (List.contains_iff_mem.mp hx)), fun p hp => ?_, fun p hp => ?_⟩
      · obtain ⟨u, hu, r⟩ := h.con.mem hp
        obtain ⟨v, r, q⟩ := repC_ok r
        exact ⟨v, u, PySem.W.mg_of X G hu, r, q⟩
      · obtain ⟨d', hd', rfl⟩ := List.mem_map.mp hp
        obtain ⟨f', fd', _, g1, g2, g3, g4, g5⟩ := all_ok h X G fuel n d' hd'
        exact ⟨f', fd', _, g3, g5, g1, g2, .all g4⟩
end
theorem dp_ints {K : PySem.W.Frag} {F : Hp} : ∀ ns : List Int, DqAll K F (ns.map V.int) (ns.map PyData.int)
  | [] => .nil
  | n :: ns => .cons (.int n) (dp_ints ns)
/-- THE END: a law row from its meaning -/
theorem law_walk {l : PySem.W.OpenLaw} {q : Program} {loose : List Str} {XP : (Str → Option Value) → Heap → Prop} {YP : World → Heap → Prop} {d : DefRec} {K : Params → PySem.W.Frag} (hn : l.most = some 63) (hdf : d.params.defaults = [])
    (hY : ∀ (w : World) (h : Heap), YP w h → (K w.params).In h) (T : List Fn) (consts : List (Str × PyData)) (blts : List Str) (fuel : Nat) (m : Fn) (hm : m ∈ T) (hdm : d.name = m.name) (hp : m.names.take m.np = [("script" : Str)])
    (hok : ∀ w : World, Top (K w.params) T consts blts) (hlaw : ∀ ns : List Int, ns.length ≤ 63 → ∃ sl, callN fuel T 200 m.name [.fz (.list (ns.map .int))] = .ok (.fz (.bool true)) sl) :
    PySem.W.WalkO q loose XP YP l.row.toRowW d [] (fun f vs => PySem.call f vs) := by
  have get : ∀ (w : World) (mg : Str → Option Value) (fa : Addr) (h : Heap), (K w.params).In h → h.Ns mainGlobals mg → mg d.name = some (.ref fa) →
      ∃ fd : FuncData, (∀ (s : Shared) (u : Value), BindsTo s fd ⟨[u], []⟩ [(("script" : Str), u)]) ∧
        ∀ base : Heap, (K w.params).In base → base.Ns mainGlobals mg → FnOk l.prog w (K w.params) mg base CX0 200 fa fd [("script" : Str)] (spOf (K w.params) 1 (callN fuel T 200 m.name)) := fun w mg fa h X G hmg => by
    obtain ⟨f1, fd1, ⟨_, _, _, lk1⟩, e1, e2, e3, e4, e5⟩ := all_ok (P := l.prog) (w := w) (hok w) X G fuel 200 m hm
    rw [← hdm, hmg] at e1
    cases e1
    rw [hp] at e4
    refine ⟨fd1, fun s u => .of_eq (e4 [u] rfl), fun base X2 G2 => ?_⟩
    obtain ⟨f2, fd2, ⟨_, _, _, lk2⟩, g1, g2, g3, g4, g5⟩ := all_ok (P := l.prog) (w := w) (hok w) X2 G2 fuel 200 m hm
    rw [← hdm, hmg] at g1
    cases g1
    rw [lk1] at lk2
    cases lk2
    rw [hp] at g5
    exact g5
  refine L2.walk_of (n := 63) (k := 200) (x := "script") (CX := fun _ => CX0) (sp := fun w => spOf (K w.params) 1 (callN fuel T 200 m.name)) hn (by decide) hdf ⟨rfl, by decide, by decide⟩ hY get (fun w H a ns hl _ hS => ?_) fun _ _ _ _ _ z => z
  · obtain ⟨sl, e⟩ := hlaw ns hl
    refine ⟨rfl, H, [.fz (.list (ns.map .int))], fun k s hk => ?_, ⟨rfl, .refl H, fun i d hi => ?_, fun i p o hi => ?_, fun i j p o p' o' b hi => ?_⟩, ?_⟩
    · cases k with
      | zero => cases hk; exact .inl ⟨_, rfl⟩
      | succ k => cases hk
    · cases i with
      | zero => cases hi; exact ⟨.ref a, rfl, Dq.lst hS (dp_ints ns)⟩
      | succ k => cases hi
    · cases i with
      | zero => cases hi
      | succ k => cases hi
    · cases i with
      | zero => cases hi
      | succ k => cases hi
    · rw [e]
      intro b F' H' _ _ rl
      cases (show Dq (K w.params) F' b (.bool true) from rl)
      rfl
end Y

set_option Elab.async false
set_option linter.all false
set_option maxRecDepth 100000
namespace Y
open PySem
/-- it answers, and the answer is so -/
inductive WO {α : Type} : Out α → (α → Rho → Prop) → Prop
  | mk {a : α} {ρ : Rho} {Q : α → Rho → Prop} : Q a ρ → WO (.ok a ρ) Q
@[simp] theorem WO_ok {α : Type} {a : α} {ρ : Rho} {Q : α → Rho → Prop} : WO (.ok a ρ) Q ↔ Q a ρ := ⟨fun h => by cases h; assumption, .mk⟩
@[simp] theorem WO_bad {α : Type} {Q : α → Rho → Prop} : WO (.bad : Out α) Q ↔ False := ⟨fun h => (by cases h), False.elim⟩
@[simp] theorem WO_exn {α : Type} {x : Exn} {ρ : Rho} {Q : α → Rho → Prop} : WO (.exn x ρ : Out α) Q ↔ False := ⟨fun h => (by cases h), False.elim⟩
theorem WO_bnd {α β : Type} {m : M α} {f : α → M β} {ρ : Rho} {Q : β → Rho → Prop} : WO (bnd m f ρ) Q ↔ WO (m ρ) fun a ρ' => WO (f a ρ') Q := by
  unfold bnd
  cases m ρ <;> simp
@[simp] theorem WO_bndc {α β : Type} {m : M α} {f : α → M β} {s : Slot} {ρ : Rho} {Q : β → Rho → Prop} : WO (bnd m f (s :: ρ)) Q ↔ WO (m (s :: ρ)) fun a ρ' => WO (f a ρ') Q := WO_bnd
theorem WO_rett {α : Type} {a : α} {ρ : Rho} {Q : α → Rho → Prop} : WO (ret a ρ) Q ↔ Q a ρ := WO_ok
@[simp] theorem WO_ret {α : Type} {a : α} {ρ : Rho} {Q : α → Rho → Prop} : WO (ret a ρ) Q ↔ Q a ρ := WO_ok
@[simp] theorem ofO_some {α : Type} {a : α} : ofO (some a) = ret a := rfl
@[simp] theorem ofO_none {α : Type} : (ofO none : M α) = bad := rfl
@[simp] theorem bad_app {α : Type} {ρ : Rho} : (bad : M α) ρ = .bad := rfl
@[simp] theorem WO_ite {α : Type} {c : Prop} [Decidable c] {m m' : M α} {ρ : Rho} {Q : α → Rho → Prop} : WO ((if c then m else m') ρ) Q ↔ if c then WO (m ρ) Q else WO (m' ρ) Q := by split <;> exact Iff.rfl
@[simp] theorem WO_iteo {α : Type} {c : Prop} [Decidable c] {m m' : Out α} {Q : α → Rho → Prop} : WO (if c then m else m') Q ↔ if c then WO m Q else WO m' Q := by split <;> exact Iff.rfl
theorem WO.imp {α : Type} {o : Out α} {Q Q' : α → Rho → Prop} (h : WO o Q) (w : ∀ a ρ, Q a ρ → Q' a ρ) : WO o Q' := by
  cases o with
  | ok a ρ => exact .mk (w a ρ (WO_ok.mp h))
  | exn x ρ => cases h
  | bad => cases h
/-- the program has this def -/
def Has (T : List Fn) (f : Fn) : Prop := T.find? (fun d => d.name == f.name) = some f
theorem call_has {fuel : Nat} {T : List Fn} {f : Fn} (h : Has T f) (n : Nat) (as : List Slot) : callN fuel T (n + 1) f.name as = run ⟨callN fuel T n, fuel⟩ f as := by
  show (match T.find? fun d => d.name == f.name with
    | some d => run ⟨callN fuel T n, fuel⟩ d as
    | none => .bad) = _
  rw [show (T.find? fun d => d.name == f.name) = some f from h]
/-- behind a body -/
def fin (as : List Slot) (Q : R → List Slot → Prop) (fl : Fl) (ρ : Rho) : Prop := match argsOut as ρ with
  | some as' => match fl with
    | .nx => Q (.fz .none) as'
    | .rt r => Q r as'
    | _ => False
  | none => False
theorem WO_run {Γ : Gam} {f : Fn} {as : List Slot} {Q : R → List Slot → Prop} (hl : as.length = f.np) (h : WO (exs Γ f.body (as ++ List.replicate (f.names.length - f.np) .und)) (fin as Q)) : WO (run Γ f as) Q := by
  unfold run
  rw [if_pos hl]
  cases e : exs Γ f.body (as ++ List.replicate (f.names.length - f.np) .und) with
  | bad => rw [e] at h; cases h
  | exn x ρ => rw [e] at h; cases h
  | ok fl ρ =>
    rw [e] at h
    have h : fin as Q fl ρ := WO_ok.mp h
    unfold fin at h
    dsimp only
    cases e2 : argsOut as ρ with
    | none => rw [e2] at h; exact h.elim
    | some as' =>
      rw [e2] at h
      cases fl <;> first | exact .mk h | exact h.elim
theorem WO_call {fuel : Nat} {T : List Fn} {f : Fn} (h : Has T f) {n : Nat} {as : List Slot} {Q : R → List Slot → Prop} (hl : as.length = f.np) (q : WO (exs ⟨callN fuel T n, fuel⟩ f.body (as ++ List.replicate (f.names.length - f.np) .und)) (fin as Q)) : WO (callN fuel T (n + 1) f.name as) Q := by
  rw [call_has h]
  exact WO_run hl q
end Y

set_option Elab.async false
set_option linter.all false
set_option maxRecDepth 100000
namespace Y
open PySem
/-- a walk's turn -/
def turn (Γ : Gam) (p : Pat) (b : Ss) : PyData → M Fl := fun d => bnd (setPat p d) fun _ => exs Γ b
/-- a comprehension's turn -/
def cturn (Γ : Gam) (p : Pat) (cs : Es) (elt : Y.E) : PyData → M (Option PyData) := fun d => bnd (setPat p d) fun _ => bnd (evTs Γ cs) fun t => if t then bnd (asV elt (ev Γ elt)) fun x => ret (some x) else ret none
theorem turn_app {Γ : Gam} {p : Pat} {b : Ss} {d : PyData} : turn Γ p b d = bnd (setPat p d) fun _ => exs Γ b := rfl
theorem cturn_app {Γ : Gam} {p : Pat} {cs : Es} {elt : Y.E} {d : PyData} : cturn Γ p cs elt d = bnd (setPat p d) fun _ => bnd (evTs Γ cs) fun t => if t then bnd (asV elt (ev Γ elt)) fun x => ret (some x) else ret none := rfl
section
variable {Γ : Gam} {ρ : Rho} {s₀ : Y.Slot}
@[simp] theorem ev_con {d : PyData} : ev Γ (.con d) (s₀ :: ρ) = (ret (.fz d)) (s₀ :: ρ) := rfl
@[simp] theorem ev_glb {n : Str} {d : PyData} : ev Γ (.glb n d) (s₀ :: ρ) = (ret (.fz d)) (s₀ :: ρ) := rfl
@[simp] theorem ev_tup {es : Es} : ev Γ (.tup es) (s₀ :: ρ) = (bnd (evVs Γ es) fun ds => ret (.fz (.tuple ds))) (s₀ :: ρ) := rfl
@[simp] theorem ev_lst {es : Es} : ev Γ (.lst es) (s₀ :: ρ) = (bnd (evVs Γ es) fun ds => ret (.own (.lst ds))) (s₀ :: ρ) := rfl
@[simp] theorem ev_var {i : Nat} : ev Γ (.var i) (s₀ :: ρ) = match (s₀ :: ρ)[i]? with
    | some (.fz d) => .ok (.fz d) (s₀ :: ρ)
    | some (.own false o) => .ok (.own o) ((s₀ :: ρ).set i .und)
    | _ => .bad := rfl
@[simp] theorem ev_bin {op : Bop} {a b : Y.E} : ev Γ (.bin op a b) (s₀ :: ρ) = (bnd (asO a (ev Γ a)) fun x => bnd (asO b (ev Γ b)) fun y => bnd (Y.get x) fun dx => bnd (Y.get y) fun dy => ofO (bopD op dx dy)) (s₀ :: ρ) := rfl
def negR : R → M R
  | .fz (.int i) => ret (dInt (-i))
  | _ => bad
@[simp] theorem negR_int {i : Int} : negR (.fz (.int i)) = ret (dInt (-i)) := rfl
@[simp] theorem ev_neg {a : Y.E} : ev Γ (.neg a) (s₀ :: ρ) = (bnd (ev Γ a) negR) (s₀ :: ρ) := rfl
@[simp] theorem ev_not {a : Y.E} : ev Γ (.not a) (s₀ :: ρ) = (bnd (ev Γ a) fun r => bnd (toB r) fun b => ret (dBl (!b))) (s₀ :: ρ) := rfl
@[simp] theorem ev_cmp {op : Cop} {a b : Y.E} : ev Γ (.cmp op a b) (s₀ :: ρ) = (bnd (asO a (ev Γ a)) fun x => bnd (asO b (ev Γ b)) fun y => bnd (Y.get x) fun dx => bnd (Y.get y) fun dy => ofO ((cmpD op dx dy).map dBl)) (s₀ :: ρ) := rfl
@[simp] theorem ev_chain {op op' : Cop} {a b c : Y.E} : ev Γ (.chain op op' a b c) (s₀ :: ρ) = (bnd (asO a (ev Γ a)) fun x => bnd (asO b (ev Γ b)) fun y => bnd (Y.get x) fun dx => bnd (Y.get y) fun dy => bnd (ofO (cmpD op dx dy)) fun t =>
      if t then bnd (asO c (ev Γ c)) fun z => bnd (Y.get y) fun dy => bnd (Y.get z) fun dz => ofO ((cmpD op' dy dz).map dBl) else ret (dBl false)) (s₀ :: ρ) := rfl
@[simp] theorem ev_isn {a : Y.E} : ev Γ (.isn a) (s₀ :: ρ) = (bnd (asO a (ev Γ a)) fun x => bnd (Y.get x) fun d => ret (dBl (isNon d))) (s₀ :: ρ) := rfl
@[simp] theorem ev_notn {a : Y.E} : ev Γ (.notn a) (s₀ :: ρ) = (bnd (asO a (ev Γ a)) fun x => bnd (Y.get x) fun d => ret (dBl (!isNon d))) (s₀ :: ρ) := rfl
@[simp] theorem ev_and {a b : Y.E} : ev Γ (.and a b) (s₀ :: ρ) = (bnd (ev Γ a) fun r => bnd (toB r) fun t => if t then ev Γ b else ret (dBl false)) (s₀ :: ρ) := rfl
@[simp] theorem ev_or {a b : Y.E} : ev Γ (.or a b) (s₀ :: ρ) = (bnd (ev Γ a) fun r => bnd (toB r) fun t => if t then ret (dBl true) else ev Γ b) (s₀ :: ρ) := rfl
@[simp] theorem ev_ife {c a b : Y.E} : ev Γ (.ife c a b) (s₀ :: ρ) = (bnd (ev Γ c) fun r => bnd (toB r) fun t => if t then ev Γ a else ev Γ b) (s₀ :: ρ) := rfl
@[simp] theorem ev_ix {a b : Y.E} : ev Γ (.ix a b) (s₀ :: ρ) = (bnd (asO a (ev Γ a)) fun x => bnd (asO b (ev Γ b)) fun y => bnd (Y.get x) fun dx => bnd (Y.get y) fun dy => bnd (ofO (ixD dx dy)) fun d => ret (.fz d)) (s₀ :: ρ) := rfl
@[simp] theorem ev_sl {a : Y.E} {lo hi : Oe} : ev Γ (.sl a lo hi) (s₀ :: ρ) = (bnd (asO a (ev Γ a)) fun x => bnd (evOe Γ lo) fun l => bnd (evOe Γ hi) fun h => bnd (Y.get x) fun dx => ofO (slD dx l h)) (s₀ :: ρ) := rfl
@[simp] theorem ev_rev {a : Y.E} : ev Γ (.rev a) (s₀ :: ρ) = (bnd (asO a (ev Γ a)) fun x => bnd (Y.get x) fun dx => ofO (revD dx)) (s₀ :: ρ) := rfl
@[simp] theorem ev_call {f : Str} {as : As} : ev Γ (.call f as) (s₀ :: ρ) = (bnd (evAs Γ as) fun xs => doCall (Γ.call f) xs) (s₀ :: ρ) := rfl
@[simp] theorem ev_bi {b : Bi} {es : Es} : ev Γ (.bi b es) (s₀ :: ρ) = (bnd (evOs Γ es) fun xs => bnd (gets xs) fun ds => ofO (biD b ds)) (s₀ :: ρ) := rfl
@[simp] theorem ev_isi {a : Y.E} {t : Ty} : ev Γ (.isi a t) (s₀ :: ρ) = (bnd (asO a (ev Γ a)) fun x => bnd (Y.get x) fun d => ret (dBl (isTy t d))) (s₀ :: ρ) := rfl
@[simp] theorem ev_lc {own : List Nat} {p : Pat} {it : It} {cs : Es} {elt : Y.E} : ev Γ (.lc own p it cs elt) (s₀ :: ρ) = (bnd (evIt Γ it) fun ds => bnd (inner own (lcL (fun d => turnW own (cturn Γ p cs elt d)) ds)) fun xs =>
      if xs.length ≤ lim then ret (.own (.lst xs)) else bad) (s₀ :: ρ) := rfl
@[simp] theorem evVs_nil : evVs Γ .nil (s₀ :: ρ) = (ret []) (s₀ :: ρ) := rfl
@[simp] theorem evVs_cons {e : Y.E} {es : Es} : evVs Γ (.cons e es) (s₀ :: ρ) = (bnd (asV e (ev Γ e)) fun d => bnd (evVs Γ es) fun ds => ret (d :: ds)) (s₀ :: ρ) := rfl
@[simp] theorem evOs_nil : evOs Γ .nil (s₀ :: ρ) = (ret []) (s₀ :: ρ) := rfl
@[simp] theorem evOs_cons {e : Y.E} {es : Es} : evOs Γ (.cons e es) (s₀ :: ρ) = (bnd (asO e (ev Γ e)) fun d => bnd (evOs Γ es) fun ds => ret (d :: ds)) (s₀ :: ρ) := rfl
@[simp] theorem evTs_nil : evTs Γ .nil (s₀ :: ρ) = (ret true) (s₀ :: ρ) := rfl
@[simp] theorem evTs_cons {e : Y.E} {es : Es} : evTs Γ (.cons e es) (s₀ :: ρ) = (bnd (ev Γ e) fun r => bnd (toB r) fun t => if t then evTs Γ es else ret false) (s₀ :: ρ) := rfl
def oeR : R → M (Option Int)
  | .fz (.int i) => ret (some i)
  | _ => bad
@[simp] theorem oeR_int {i : Int} : oeR (.fz (.int i)) = ret (some i) := rfl
@[simp] theorem evOe_none : evOe Γ .none (s₀ :: ρ) = (ret none) (s₀ :: ρ) := rfl
@[simp] theorem evOe_some {e : Y.E} : evOe Γ (.some e) (s₀ :: ρ) = (bnd (ev Γ e) oeR) (s₀ :: ρ) := rfl
@[simp] theorem evAs_nil : evAs Γ .nil (s₀ :: ρ) = (ret []) (s₀ :: ρ) := rfl
@[simp] theorem evAs_val {e : Y.E} {as : As} : evAs Γ (.val e as) (s₀ :: ρ) = (bnd (asV e (ev Γ e)) fun d => bnd (evAs Γ as) fun xs => ret (.d d :: xs)) (s₀ :: ρ) := rfl
@[simp] theorem evAs_mut {i : Nat} {as : As} : evAs Γ (.mut i as) (s₀ :: ρ) = match (s₀ :: ρ)[i]? with
    | some (.own _ _) => bnd (evAs Γ as) (fun xs => ret (.ref i :: xs)) (s₀ :: ρ)
    | _ => .bad := rfl
@[simp] theorem evIt_seq {e : Y.E} : evIt Γ (.seq e) (s₀ :: ρ) = (bnd (asV e (ev Γ e)) fun d => ofO (seqD d)) (s₀ :: ρ) := rfl
def rngR : R → M (List PyData)
  | .fz (.int j) => if okRng j then ret (rngD 0 j.toNat) else bad
  | _ => bad
@[simp] theorem rngR_int {j : Int} : rngR (.fz (.int j)) = if okRng j then ret (rngD 0 j.toNat) else bad := rfl
def rngR2 (i : Int) : R → M (List PyData)
  | .fz (.int j) => if okRng i && okRng j then ret (rngD i (j - i).toNat) else bad
  | _ => bad
@[simp] theorem rngR2_int {i j : Int} : rngR2 i (.fz (.int j)) = if okRng i && okRng j then ret (rngD i (j - i).toNat) else bad := rfl
def rngR1 (m : M R) : R → M (List PyData)
  | .fz (.int i) => bnd m (rngR2 i)
  | _ => bad
@[simp] theorem rngR1_int {i : Int} {m : M R} : rngR1 m (.fz (.int i)) = bnd m (rngR2 i) := rfl
@[simp] theorem evIt_rng1 {e : Y.E} : evIt Γ (.rng1 e) (s₀ :: ρ) = (bnd (ev Γ e) rngR) (s₀ :: ρ) := rfl
@[simp] theorem evIt_rng2 {a b : Y.E} : evIt Γ (.rng2 a b) (s₀ :: ρ) = (bnd (ev Γ a) (rngR1 (ev Γ b))) (s₀ :: ρ) := rfl
@[simp] theorem evIt_zip {a b : Y.E} : evIt Γ (.zip a b) (s₀ :: ρ) = (bnd (asV a (ev Γ a)) fun x => bnd (asV b (ev Γ b)) fun y => ofO (zip2D x y)) (s₀ :: ρ) := rfl
@[simp] theorem evIt_enu {e : Y.E} : evIt Γ (.enu e) (s₀ :: ρ) = (bnd (asV e (ev Γ e)) fun d => bnd (ofO (enuQ d)) fun xs => ret (enuD 0 xs)) (s₀ :: ρ) := rfl
@[simp] theorem gets_nil : gets [] (s₀ :: ρ) = (ret []) (s₀ :: ρ) := rfl
@[simp] theorem gets_cons {x : Opd} {xs : List Opd} : gets (x :: xs) (s₀ :: ρ) = (bnd (Y.get x) fun d => bnd (gets xs) fun ds => ret (d :: ds)) (s₀ :: ρ) := rfl
@[simp] theorem get_d {d : PyData} : Y.get (.d d) = ret d := rfl
@[simp] theorem get_slot {i : Nat} : Y.get (.slot i) (s₀ :: ρ) = match (s₀ :: ρ)[i]? with
  | some (.fz d) => .ok d (s₀ :: ρ)
  | some (.own _ o) => .ok o.data (s₀ :: ρ)
  | _ => .bad := rfl
@[simp] theorem data_lst {ds : List PyData} : (O.lst ds).data = .list ds := rfl
@[simp] theorem data_dic {ds} : (O.dic ds).data = .dict ds := rfl
@[simp] theorem rdata_fz {d : PyData} : (R.fz d).data = d := rfl
@[simp] theorem rdata_own {o : O} : (R.own o).data = o.data := rfl
@[simp] theorem slot_fz {d : PyData} : (R.fz d).slot = .fz d := rfl
@[simp] theorem slot_own {o : O} : (R.own o).slot = .own false o := rfl
@[simp] theorem asO_var {i : Nat} {m : M R} : asO (.var i) m (s₀ :: ρ) = match (s₀ :: ρ)[i]? with
    | some (.fz d) => .ok (.d d) (s₀ :: ρ)
    | some (.own _ _) => .ok (.slot i) (s₀ :: ρ)
    | _ => .bad := rfl
@[simp] theorem asV_var {i : Nat} {m : M R} : asV (.var i) m (s₀ :: ρ) = match (s₀ :: ρ)[i]? with
    | some (.fz d) => .ok d (s₀ :: ρ)
    | some (.own _ o) => .ok o.data ((s₀ :: ρ).set i (.fz o.data))
    | _ => .bad := rfl
section
variable {m : M R} {a b c : Y.E} {es : Es} {as : As}
local macro_rules | `(tactic| trivial) => `(tactic| rfl)
@[simp] theorem asO_con {d} : asO (.con d) m (s₀ :: ρ) = (bnd m fun r => ret (.d r.data)) (s₀ :: ρ) := rfl
@[simp] theorem asO_glb {n d} : asO (.glb n d) m (s₀ :: ρ) = (bnd m fun r => ret (.d r.data)) (s₀ :: ρ) := rfl
@[simp] theorem asO_tup : asO (.tup es) m (s₀ :: ρ) = (bnd m fun r => ret (.d r.data)) (s₀ :: ρ) := rfl
@[simp] theorem asO_lst : asO (.lst es) m (s₀ :: ρ) = (bnd m fun r => ret (.d r.data)) (s₀ :: ρ) := rfl
@[simp] theorem asO_bin {op} : asO (.bin op a b) m (s₀ :: ρ) = (bnd m fun r => ret (.d r.data)) (s₀ :: ρ) := rfl
@[simp] theorem asO_neg : asO (.neg a) m (s₀ :: ρ) = (bnd m fun r => ret (.d r.data)) (s₀ :: ρ) := rfl
@[simp] theorem asO_not : asO (.not a) m (s₀ :: ρ) = (bnd m fun r => ret (.d r.data)) (s₀ :: ρ) := rfl
@[simp] theorem asO_cmp {op} : asO (.cmp op a b) m (s₀ :: ρ) = (bnd m fun r => ret (.d r.data)) (s₀ :: ρ) := rfl
@[simp] theorem asO_chain {op op'} : asO (.chain op op' a b c) m (s₀ :: ρ) = (bnd m fun r => ret (.d r.data)) (s₀ :: ρ) := rfl
@[simp] theorem asO_isn : asO (.isn a) m (s₀ :: ρ) = (bnd m fun r => ret (.d r.data)) (s₀ :: ρ) := rfl
@[simp] theorem asO_notn : asO (.notn a) m (s₀ :: ρ) = (bnd m fun r => ret (.d r.data)) (s₀ :: ρ) := rfl
@[simp] theorem asO_and : asO (.and a b) m (s₀ :: ρ) = (bnd m fun r => ret (.d r.data)) (s₀ :: ρ) := rfl
@[simp] theorem asO_or : asO (.or a b) m (s₀ :: ρ) = (bnd m fun r => ret (.d r.data)) (s₀ :: ρ) := rfl
@[simp] theorem asO_ife : asO (.ife a b c) m (s₀ :: ρ) = (bnd m fun r => ret (.d r.data)) (s₀ :: ρ) := rfl
@[simp] theorem asO_ix : asO (.ix a b) m (s₀ :: ρ) = (bnd m fun r => ret (.d r.data)) (s₀ :: ρ) := rfl
@[simp] theorem asO_sl {l h} : asO (.sl a l h) m (s₀ :: ρ) = (bnd m fun r => ret (.d r.data)) (s₀ :: ρ) := rfl
@[simp] theorem asO_rev : asO (.rev a) m (s₀ :: ρ) = (bnd m fun r => ret (.d r.data)) (s₀ :: ρ) := rfl
@[simp] theorem asO_call {f} : asO (.call f as) m (s₀ :: ρ) = (bnd m fun r => ret (.d r.data)) (s₀ :: ρ) := rfl
@[simp] theorem asO_bi {f} : asO (.bi f es) m (s₀ :: ρ) = (bnd m fun r => ret (.d r.data)) (s₀ :: ρ) := rfl
@[simp] theorem asO_isi {t} : asO (.isi a t) m (s₀ :: ρ) = (bnd m fun r => ret (.d r.data)) (s₀ :: ρ) := rfl
@[simp] theorem asO_lc {o p it cs} : asO (.lc o p it cs a) m (s₀ :: ρ) = (bnd m fun r => ret (.d r.data)) (s₀ :: ρ) := rfl
@[simp] theorem asV_con {d} : asV (.con d) m (s₀ :: ρ) = (bnd m fun r => ret r.data) (s₀ :: ρ) := rfl
@[simp] theorem asV_glb {n d} : asV (.glb n d) m (s₀ :: ρ) = (bnd m fun r => ret r.data) (s₀ :: ρ) := rfl
@[simp] theorem asV_tup : asV (.tup es) m (s₀ :: ρ) = (bnd m fun r => ret r.data) (s₀ :: ρ) := rfl
@[simp] theorem asV_lst : asV (.lst es) m (s₀ :: ρ) = (bnd m fun r => ret r.data) (s₀ :: ρ) := rfl
@[simp] theorem asV_bin {op} : asV (.bin op a b) m (s₀ :: ρ) = (bnd m fun r => ret r.data) (s₀ :: ρ) := rfl
@[simp] theorem asV_neg : asV (.neg a) m (s₀ :: ρ) = (bnd m fun r => ret r.data) (s₀ :: ρ) := rfl
@[simp] theorem asV_not : asV (.not a) m (s₀ :: ρ) = (bnd m fun r => ret r.data) (s₀ :: ρ) := rfl
@[simp] theorem asV_cmp {op} : asV (.cmp op a b) m (s₀ :: ρ) = (bnd m fun r => ret r.data) (s₀ :: ρ) := rfl
@[simp] theorem asV_chain {op op'} : asV (.chain op op' a b c) m (s₀ :: ρ) = (bnd m fun r => ret r.data) (s₀ :: ρ) := rfl
@[simp] theorem asV_isn : asV (.isn a) m (s₀ :: ρ) = (bnd m fun r => ret r.data) (s₀ :: ρ) := rfl
@[simp] theorem asV_notn : asV (.notn a) m (s₀ :: ρ) = (bnd m fun r => ret r.data) (s₀ :: ρ) := rfl
@[simp] theorem asV_and : asV (.and a b) m (s₀ :: ρ) = (bnd m fun r => ret r.data) (s₀ :: ρ) := rfl
@[simp] theorem asV_or : asV (.or a b) m (s₀ :: ρ) = (bnd m fun r => ret r.data) (s₀ :: ρ) := rfl
@[simp] theorem asV_ife : asV (.ife a b c) m (s₀ :: ρ) = (bnd m fun r => ret r.data) (s₀ :: ρ) := rfl
@[simp] theorem asV_ix : asV (.ix a b) m (s₀ :: ρ) = (bnd m fun r => ret r.data) (s₀ :: ρ) := rfl
@[simp] theorem asV_sl {l h} : asV (.sl a l h) m (s₀ :: ρ) = (bnd m fun r => ret r.data) (s₀ :: ρ) := rfl
@[simp] theorem asV_rev : asV (.rev a) m (s₀ :: ρ) = (bnd m fun r => ret r.data) (s₀ :: ρ) := rfl
@[simp] theorem asV_call {f} : asV (.call f as) m (s₀ :: ρ) = (bnd m fun r => ret r.data) (s₀ :: ρ) := rfl
@[simp] theorem asV_bi {f} : asV (.bi f es) m (s₀ :: ρ) = (bnd m fun r => ret r.data) (s₀ :: ρ) := rfl
@[simp] theorem asV_isi {t} : asV (.isi a t) m (s₀ :: ρ) = (bnd m fun r => ret r.data) (s₀ :: ρ) := rfl
@[simp] theorem asV_lc {o p it cs} : asV (.lc o p it cs a) m (s₀ :: ρ) = (bnd m fun r => ret r.data) (s₀ :: ρ) := rfl
end
@[simp] theorem toB_bl {b : Bool} : toB (.fz (.bool b)) = ret b := rfl
@[simp] theorem toB_dBl {b : Bool} : toB (dBl b) = ret b := rfl
@[simp] theorem dBl_eq {b : Bool} : dBl b = .fz (.bool b) := rfl
@[simp] theorem dInt_eq {i : Int} : dInt i = .fz (.int i) := rfl
@[simp] theorem exs_nil : exs Γ .nil (s₀ :: ρ) = (ret .nx) (s₀ :: ρ) := rfl
@[simp] theorem exs_cons {s : S} {ss : Ss} : exs Γ (.cons s ss) (s₀ :: ρ) = (bnd (ex Γ s) (thenK (exs Γ ss))) (s₀ :: ρ) := rfl
@[simp] theorem thenK_nx {m : M Fl} : thenK m .nx = m := rfl
@[simp] theorem thenK_bk {m : M Fl} : thenK m .bk = ret .bk := rfl
@[simp] theorem thenK_ct {m : M Fl} : thenK m .ct = ret .ct := rfl
@[simp] theorem thenK_rt {m : M Fl} {r : R} : thenK m (.rt r) = ret (.rt r) := rfl
@[simp] theorem loopK_nx {m : M Fl} : loopK m .nx = m := rfl
@[simp] theorem loopK_bk {m : M Fl} : loopK m .bk = ret .nx := rfl
@[simp] theorem loopK_ct {m : M Fl} : loopK m .ct = m := rfl
@[simp] theorem loopK_rt {m : M Fl} {r : R} : loopK m (.rt r) = ret (.rt r) := rfl
@[simp] theorem ex_set {i : Nat} {e : Y.E} : ex Γ (.set i e) (s₀ :: ρ) = (bnd (ev Γ e) fun r ρ => if i < ρ.length then .ok .nx (ρ.set i r.slot) else .bad) (s₀ :: ρ) := rfl
@[simp] theorem ex_unp {p : Pat} {e : Y.E} : ex Γ (.unp p e) (s₀ :: ρ) = (bnd (asV e (ev Γ e)) fun d => bnd (setPat p d) fun _ => ret .nx) (s₀ :: ρ) := rfl
@[simp] theorem ex_par {is : List Nat} {es : Es} : ex Γ (.par is es) (s₀ :: ρ) = (bnd (evRs Γ es) fun rs => bnd (setAll is rs) fun _ => ret .nx) (s₀ :: ρ) := rfl
@[simp] theorem evRs_nil : evRs Γ .nil (s₀ :: ρ) = (ret []) (s₀ :: ρ) := rfl
@[simp] theorem evRs_cons {e : Y.E} {es : Es} : evRs Γ (.cons e es) (s₀ :: ρ) = (bnd (ev Γ e) fun r => bnd (evRs Γ es) fun rs => ret (r :: rs)) (s₀ :: ρ) := rfl
@[simp] theorem setAll_nil : setAll [] [] = ret () := rfl
@[simp] theorem setAll_cons {i : Nat} {is : List Nat} {r : R} {rs : List R} : setAll (i :: is) (r :: rs) (s₀ :: ρ) = if i < (s₀ :: ρ).length then setAll is rs ((s₀ :: ρ).set i r.slot) else .bad := rfl
def putIx (i : Nat) (d kd : PyData) : M Fl := fun ρ => match ρ[i]? with
    | some (.own p (.lst ds)) => match kd with
      | .int n => match L2.ixN ds.length n with
        | some j => .ok .nx (ρ.set i (.own p (.lst (ds.set j d))))
        | none => .bad
      | _ => .bad
    | some (.own p (.dic kvs)) => if isKey kd && decide (kvs.length < lim) then .ok .nx (ρ.set i (.own p (.dic (putD kd d kvs)))) else .bad
    | _ => .bad
@[simp] theorem ex_setix {i : Nat} {k e : Y.E} : ex Γ (.setix i k e) (s₀ :: ρ) = (bnd (asV e (ev Γ e)) fun d => guardOwn i <| bnd (asV k (ev Γ k)) (putIx i d)) (s₀ :: ρ) := rfl
def putL (i : Nat) (d : PyData) (p : Bool) (ds : List PyData) : Option Nat → M Fl
  | some j => fun ρ => .ok .nx (ρ.set i (.own p (.lst (ds.set j d))))
  | none => bad
@[simp] theorem putL_some {i : Nat} {d : PyData} {p : Bool} {ds : List PyData} {j : Nat} : putL i d p ds (some j) (s₀ :: ρ) = .ok .nx ((s₀ :: ρ).set i (.own p (.lst (ds.set j d)))) := rfl
@[simp] theorem putIx_int {i : Nat} {d : PyData} {n : Int} : putIx i d (.int n) ρ = match ρ[i]? with
    | some (.own p (.lst ds)) => putL i d p ds (L2.ixN ds.length n) ρ
    | some (.own p (.dic kvs)) => if isKey (.int n) && decide (kvs.length < lim) then .ok .nx (ρ.set i (.own p (.dic (putD (.int n) d kvs)))) else .bad
    | _ => .bad := by
  unfold putIx
  cases ρ[i]? with
  | none => rfl
  | some s =>
    cases s with
    | und => rfl
    | fz d => rfl
    | own p o =>
      cases o with
      | lst ds =>
        dsimp only
        unfold putL
        cases L2.ixN ds.length n <;> rfl
      | dic kvs => rfl
@[simp] theorem ex_app {i : Nat} {e : Y.E} : ex Γ (.app i e) (s₀ :: ρ) = ((guardL i <| bnd (asV e (ev Γ e)) fun d ρ => match ρ[i]? with
    | some (.own p (.lst ds)) => if ds.length < lim then .ok .nx (ρ.set i (.own p (.lst (ds ++ [d])))) else .bad
    | _ => .bad)) (s₀ :: ρ) := rfl
@[simp] theorem ex_exp {e : Y.E} : ex Γ (.exp e) (s₀ :: ρ) = (bnd (ev Γ e) fun _ => ret .nx) (s₀ :: ρ) := rfl
@[simp] theorem ex_ret {e : Y.E} : ex Γ (.ret e) (s₀ :: ρ) = (bnd (ev Γ e) fun r => ret (.rt r)) (s₀ :: ρ) := rfl
@[simp] theorem ex_retn : ex Γ .retn (s₀ :: ρ) = (ret (.rt (.fz .none))) (s₀ :: ρ) := rfl
@[simp] theorem ex_ife {c : Y.E} {a b : Ss} : ex Γ (.ife c a b) (s₀ :: ρ) = (bnd (evT Γ c) fun t => if t then exs Γ a else exs Γ b) (s₀ :: ρ) := rfl
@[simp] theorem ex_whl {c : Y.E} {b : Ss} : ex Γ (.whl c b) (s₀ :: ρ) = (whlL (evT Γ c) (exs Γ b) Γ.fuel) (s₀ :: ρ) := rfl
@[simp] theorem ex_frr {p : Pat} {it : It} {b : Ss} : ex Γ (.frr p it b) (s₀ :: ρ) = (bnd (evIt Γ it) fun ds => forL (turn Γ p b) ds) (s₀ :: ρ) := rfl
@[simp] theorem ex_brk : ex Γ .brk (s₀ :: ρ) = (ret .bk) (s₀ :: ρ) := rfl
@[simp] theorem ex_cnt : ex Γ .cnt (s₀ :: ρ) = (ret .ct) (s₀ :: ρ) := rfl
@[simp] theorem ex_pss : ex Γ .pss (s₀ :: ρ) = (ret .nx) (s₀ :: ρ) := rfl
@[simp] theorem evT_eq {e : Y.E} : evT Γ e = bnd (ev Γ e) toB := rfl
@[simp] theorem setPat_nm {i : Nat} {d : PyData} : setPat (.nm i) d (s₀ :: ρ) = if i < (s₀ :: ρ).length then .ok () ((s₀ :: ρ).set i (.fz d)) else .bad := rfl
@[simp] theorem setPat_tup {ps : List Pat} {ds : List PyData} : setPat (.tup ps) (.tuple ds) = setPats ps ds := rfl
@[simp] theorem setPats_nil : setPats [] [] = ret () := rfl
@[simp] theorem setPats_cons {p : Pat} {ps : List Pat} {d : PyData} {ds : List PyData} : setPats (p :: ps) (d :: ds) = bnd (setPat p d) fun _ => setPats ps ds := rfl
@[simp] theorem guardOwn_eq {α : Type} {i : Nat} {m : M α} : guardOwn i m (s₀ :: ρ) = match (s₀ :: ρ)[i]? with
  | some (.own _ (.lst _)) => m (s₀ :: ρ)
  | some (.own _ (.dic _)) => m (s₀ :: ρ)
  | _ => .bad := rfl
@[simp] theorem guardL_eq {α : Type} {i : Nat} {m : M α} : guardL i m (s₀ :: ρ) = match (s₀ :: ρ)[i]? with
  | some (.own _ (.lst _)) => m (s₀ :: ρ)
  | _ => .bad := rfl
/-! operations -/
@[simp] theorem ix_list {xs : List PyData} {i : Int} : ixD (.list xs) (.int i) = L2.atI xs i := rfl
@[simp] theorem ix_tuple {xs : List PyData} {i : Int} : ixD (.tuple xs) (.int i) = L2.atI xs i := rfl
@[simp] theorem add_int {i j : Int} : bopD .add (.int i) (.int j) = some (dInt (i + j)) := rfl
@[simp] theorem sub_int {i j : Int} : bopD .sub (.int i) (.int j) = some (dInt (i - j)) := rfl
@[simp] theorem mul_int {i j : Int} : bopD .mul (.int i) (.int j) = if (-(2 ^ 64) < i ∧ i < 2 ^ 64) ∨ (-(2 ^ 64) < j ∧ j < 2 ^ 64) then some (dInt (i * j)) else none := rfl
@[simp] theorem mod_int {i j : Int} : bopD .mod (.int i) (.int j) = if 0 < j then some (dInt (i % j)) else none := rfl
@[simp] theorem fdiv_int {i j : Int} : bopD .fdiv (.int i) (.int j) = if 0 < j ∧ j < 1073741824 then some (dInt (i / j)) else none := rfl
@[simp] theorem pow_int {i j : Int} : bopD .pow (.int i) (.int j) = if 0 ≤ j ∧ j ≤ 1000000 ∧ i.natAbs < 2 ^ 64 then some (dInt (i ^ j.toNat)) else none := rfl
@[simp] theorem add_tuple {xs ys : List PyData} : bopD .add (.tuple xs) (.tuple ys) = if xs.length + ys.length ≤ lim then some (.fz (.tuple (xs ++ ys))) else none := rfl
@[simp] theorem add_list {xs ys : List PyData} : bopD .add (.list xs) (.list ys) = if xs.length + ys.length ≤ lim then some (.own (.lst (xs ++ ys))) else none := rfl
@[simp] theorem add_str {xs ys : Str} : bopD .add (.str xs) (.str ys) = if xs.length + ys.length ≤ lim then some (.fz (.str (xs ++ ys))) else none := rfl
@[simp] theorem cmp_eq {a b : PyData} : cmpD .eq a b = eqD a b := rfl
@[simp] theorem cmp_ne {a b : PyData} : cmpD .ne a b = (eqD a b).map not := rfl
@[simp] theorem cmp_lt {a b : PyData} : cmpD .lt a b = ltD a b := rfl
@[simp] theorem cmp_le {a b : PyData} : cmpD .le a b = leD a b := rfl
@[simp] theorem cmp_in {a b : PyData} : cmpD .inn a b = inD a b := rfl
@[simp] theorem cmp_nin {a b : PyData} : cmpD .nin a b = (inD a b).map not := rfl
@[simp] theorem cmp_gt {i j : Int} : cmpD .gt (.int i) (.int j) = some (decide (j < i)) := rfl
@[simp] theorem cmp_ge {i j : Int} : cmpD .ge (.int i) (.int j) = some (decide (j ≤ i)) := rfl
@[simp] theorem lt_int {i j : Int} : ltD (.int i) (.int j) = some (decide (i < j)) := rfl
@[simp] theorem le_int {i j : Int} : leD (.int i) (.int j) = some (decide (i ≤ j)) := rfl
@[simp] theorem eq_int {i j : Int} : eqD (.int i) (.int j) = some (decide (i = j)) := by
  show some (PyData.eqv _ _) = _
  congr 1
@[simp] theorem len_list {xs : List PyData} : biD .len [.list xs] = some (dInt xs.length) := rfl
@[simp] theorem len_tuple {xs : List PyData} : biD .len [.tuple xs] = some (dInt xs.length) := rfl
@[simp] theorem len_str {x : Str} : biD .len [.str x] = if x.length ≤ lim then some (dInt x.length) else none := rfl
@[simp] theorem bi_all {xs : List PyData} : biD .all [.list xs] = (allB xs).map dBl := rfl
@[simp] theorem bi_any {xs : List PyData} : biD .any [.list xs] = (anyB xs).map dBl := rfl
@[simp] theorem bi_list1 {xs : List PyData} : biD .list [.list xs] = some (.own (.lst xs)) := rfl
@[simp] theorem bi_list2 {xs : List PyData} : biD .list [.tuple xs] = some (.own (.lst xs)) := rfl
@[simp] theorem bi_tuple1 {xs : List PyData} : biD .tuple [.list xs] = some (.fz (.tuple xs)) := rfl
@[simp] theorem bi_tuple2 {xs : List PyData} : biD .tuple [.tuple xs] = some (.fz (.tuple xs)) := rfl
@[simp] theorem bi_int1 {i : Int} : biD .int [.int i] = some (dInt i) := rfl
@[simp] theorem bi_int2 {b : Bool} : biD .int [.bool b] = some (dInt (if b then 1 else 0)) := rfl
@[simp] theorem bi_abs {i : Int} : biD .abs [.int i] = some (dInt (if i < 0 then -i else i)) := rfl
@[simp] theorem bi_min2 {i j : Int} : biD .min [.int i, .int j] = some (dInt (if j < i then j else i)) := rfl
@[simp] theorem bi_max2 {i j : Int} : biD .max [.int i, .int j] = some (dInt (if j > i then j else i)) := rfl
@[simp] theorem sl_list {xs : List PyData} {l h : Option Int} : slD (.list xs) l h = some (.own (.lst (cutD xs l h))) := rfl
@[simp] theorem sl_tuple {xs : List PyData} {l h : Option Int} : slD (.tuple xs) l h = some (.fz (.tuple (cutD xs l h))) := rfl
@[simp] theorem rev_tuple {xs : List PyData} : revD (.tuple xs) = some (.fz (.tuple xs.reverse)) := rfl
@[simp] theorem rev_list {xs : List PyData} : revD (.list xs) = some (.own (.lst xs.reverse)) := rfl
@[simp] theorem seq_list {xs : List PyData} : seqD (.list xs) = some xs := rfl
@[simp] theorem seq_tuple {xs : List PyData} : seqD (.tuple xs) = some xs := rfl
@[simp] theorem seq_str {x : Str} : seqD (.str x) = some (x.cps.toList.map fun c => .str ⟨#[c]⟩) := rfl
@[simp] theorem enu_list {xs : List PyData} : enuQ (.list xs) = some xs := rfl
@[simp] theorem enu_tuple {xs : List PyData} : enuQ (.tuple xs) = some xs := rfl
@[simp] theorem zip_tupS {xs : List PyData} {y : Str} : zip2D (.tuple xs) (.str y) = some (zipD xs (y.cps.toList.map fun c => .str ⟨#[c]⟩)) := rfl
@[simp] theorem zip_list {xs ys : List PyData} : zip2D (.list xs) (.list ys) = some (zipD xs ys) := rfl
@[simp] theorem zip_tuple {xs ys : List PyData} : zip2D (.tuple xs) (.tuple ys) = some (zipD xs ys) := rfl
/-! calls -/
@[simp] theorem WO_call1 {f : List Slot → Out R} {as : List Arg} {Q : R → Rho → Prop} : WO (doCall f as ρ) Q ↔ (argRefs as).Nodup ∧ match argSlots ρ as with
    | some sl => WO (f sl) fun r sl' => match argBack as sl' ρ with
      | some ρ' => Q r ρ'
      | none => False
    | none => False := by
  unfold doCall
  by_cases h : (argRefs as).Nodup
  · rw [if_pos h]
    simp only [h, true_and]
    cases argSlots ρ as with
    | none => simp
    | some sl =>
      dsimp only
      cases f sl with
      | bad => simp
      | ok r sl' =>
        simp only [WO_ok]
        cases argBack as sl' ρ <;> simp
      | exn x sl' =>
        simp only [WO_exn]
        cases argBack as sl' ρ <;> simp
  · rw [if_neg h]
    simp [h]
end
@[simp] theorem WO_ofO_ite {α : Type} {c : Prop} [Decidable c] {a : α} {ρ : Rho} {Q : α → Rho → Prop} : WO (ofO (if c then some a else none) ρ) Q ↔ c ∧ Q a ρ := by
  by_cases h : c
  · rw [if_pos h]; simp [h]
  · rw [if_neg h]; simp [h]
@[simp] theorem argSlots_nil {ρ : Rho} : argSlots ρ [] = some [] := rfl
@[simp] theorem argSlots_d {ρ : Rho} {d : PyData} {r : List Arg} : argSlots ρ (.d d :: r) = (argSlots ρ r).map (.fz d :: ·) := rfl
@[simp] theorem argSlots_ref {ρ : Rho} {i : Nat} {r : List Arg} : argSlots ρ (.ref i :: r) = match ρ[i]? with
    | some (.own _ o) => (argSlots ρ r).map (.own true o :: ·)
    | _ => none := rfl
@[simp] theorem argRefs_nil : argRefs [] = [] := rfl
@[simp] theorem argRefs_d {d : PyData} {r : List Arg} : argRefs (.d d :: r) = argRefs r := rfl
@[simp] theorem argRefs_ref {i : Nat} {r : List Arg} : argRefs (.ref i :: r) = i :: argRefs r := rfl
@[simp] theorem argBack_nil {ρ : Rho} : argBack [] [] ρ = some ρ := rfl
@[simp] theorem argBack_d {ρ : Rho} {d : PyData} {r : List Arg} {s : Slot} {q : List Slot} : argBack (.d d :: r) (s :: q) ρ = argBack r q ρ := rfl
@[simp] theorem argBack_ref {ρ : Rho} {i : Nat} {r : List Arg} {o : O} {q : List Slot} : argBack (.ref i :: r) (.own true o :: q) ρ = match ρ[i]? with
    | some (.own p _) => argBack r q (ρ.set i (.own p o))
    | _ => none := rfl
@[simp] theorem argsOut_nil {ρ : Rho} : argsOut [] ρ = some [] := by unfold argsOut; rfl
@[simp] theorem argsOut_fz {d : PyData} {r : List Slot} {s : Slot} {q : Rho} : argsOut (.fz d :: r) (s :: q) = (argsOut r q).map (.fz d :: ·) := by cases s <;> simp [argsOut]
@[simp] theorem argsOut_own {o o' : O} {r : List Slot} {q : Rho} : argsOut (.own true o :: r) (.own true o' :: q) = (argsOut r q).map (.own true o' :: ·) := by simp [argsOut]
@[simp] theorem wipeR_nil {ρ : Rho} : wipeR ρ [] = ρ := rfl
@[simp] theorem wipeR_cons {ρ : Rho} {i : Nat} {r : List Nat} : wipeR ρ (i :: r) = (wipeR ρ r).set i .und := rfl
@[simp] theorem backR_nil {o ρ : Rho} : backR o ρ [] = ρ := rfl
@[simp] theorem backR_cons {o ρ : Rho} {i : Nat} {r : List Nat} : backR o ρ (i :: r) = match o[i]? with
    | some s => (backR o ρ r).set i s
    | none => backR o ρ r := rfl
@[simp] theorem turnW_app {α : Type} {own : List Nat} {m : M α} {ρ : Rho} : turnW own m ρ = m (wipeR ρ own) := rfl
theorem WO_inner {α : Type} {own : List Nat} {m : M α} {ρ : Rho} {Q : α → Rho → Prop} : WO (inner own m ρ) Q ↔ WO (m ρ) fun a ρ' => Q a (backR ρ (wipeR ρ' own) own) := by
  unfold inner
  cases m ρ <;> simp
theorem WO_turn_nm {Γ : Gam} {i : Nat} {b : Ss} {d : PyData} {ρ : Rho} {Q : Fl → Rho → Prop} : WO (turn Γ (.nm i) b d ρ) Q ↔ i < ρ.length ∧ WO (exs Γ b (ρ.set i (.fz d))) Q := by
  rw [turn_app, WO_bnd]
  show WO (if i < ρ.length then Out.ok () (ρ.set i (.fz d)) else .bad) _ ↔ _
  by_cases h : i < ρ.length
  · rw [if_pos h]; simp [h]
  · rw [if_neg h]; simp [h]
/-- a walk with an invariant -/
theorem W_for {f : PyData → M Fl} {Q : Fl → Rho → Prop} (I : List PyData → Rho → Prop) (step : ∀ d ds ρ, I (d :: ds) ρ → WO (f d ρ) fun fl ρ' => match fl with
      | .nx => I ds ρ'
      | .ct => I ds ρ'
      | .bk => Q .nx ρ'
      | .rt r => Q (.rt r) ρ') (last : ∀ ρ, I [] ρ → Q .nx ρ) : ∀ (ds : List PyData) (ρ : Rho), I ds ρ → WO (forL f ds ρ) Q
  | [], ρ, h => .mk (last ρ h)
  | d :: ds, ρ, h => by
    show WO (bnd (f d) (loopK (forL f ds)) ρ) Q
    rw [WO_bnd]
    refine (step d ds ρ h).imp fun fl ρ' q => ?_
    cases fl with
    | nx => exact W_for I step last ds ρ' q
    | ct => exact W_for I step last ds ρ' q
    | bk => exact .mk q
    | rt r => exact .mk q
theorem W_lc {β : Type} {f : PyData → M (Option β)} {Q : List β → Rho → Prop} (I : List PyData → List β → Rho → Prop) (step : ∀ d ds acc ρ, I (d :: ds) acc ρ → WO (f d ρ) fun o ρ' => I ds (acc ++ o.toList) ρ') :
    ∀ (ds : List PyData) (acc : List β) (ρ : Rho), I ds acc ρ → (∀ r ρ', I [] (acc ++ r) ρ' → Q r ρ') → WO (lcL f ds ρ) Q
  | [], acc, ρ, h, last => .mk (last [] ρ (by rw [List.append_nil]; exact h))
  | d :: ds, acc, ρ, h, last => by
    show WO (bnd (f d) (fun o => bnd (lcL f ds) fun r => ret (match o with | some x => x :: r | none => r)) ρ) Q
    rw [WO_bnd]
    refine (step d ds acc ρ h).imp fun o ρ' q => ?_
    rw [WO_bnd]
    refine W_lc I step ds (acc ++ o.toList) ρ' q fun r ρ2 q2 => ?_
    cases o with
    | none => exact .mk (last r ρ2 (by simpa using q2))
    | some x => exact .mk (last (x :: r) ρ2 (by simpa using q2))
theorem wipe_back {ρ ρ' : Rho} {own : List Nat} (h : wipeR ρ' own = wipeR ρ own) : backR ρ (wipeR ρ' own) own = ρ := by
  apply List.ext_getElem?
  intro j
  have hl : ρ.length = (wipeR ρ own).length := (wipeR_len ρ own).symm
  rw [h, backR_get _ _ hl]
  by_cases hj : j ∈ own
  · rw [if_pos hj]
  · rw [if_neg hj, wipeR_get, if_neg hj]
/-- a comprehension whose turns change nothing but its own names -/
theorem W_pure {β : Type} {own : List Nat} {f : PyData → M (Option β)} {ds : List PyData} {ρ : Rho} {Q : List β → Rho → Prop} (g : PyData → Option β) (step : ∀ d ∈ ds, WO (f d (wipeR ρ own)) fun o ρ' => o = g d ∧ wipeR ρ' own = wipeR ρ own) (h : Q (ds.filterMap g) ρ) :
    WO (inner own (lcL (fun d => turnW own (f d)) ds) ρ) Q := by
  rw [WO_inner]
  suffices hs : ∀ (es : List PyData) (ρ1 : Rho), (∀ d ∈ es, d ∈ ds) → wipeR ρ1 own = wipeR ρ own → WO (lcL (fun d => turnW own (f d)) es ρ1) fun r ρ' => r = es.filterMap g ∧ wipeR ρ' own = wipeR ρ own by
    refine (hs ds ρ (fun d h => h) rfl).imp fun r ρ' q => ?_
    rw [q.1, wipe_back q.2]
    exact h
  intro es
  induction es with
  | nil => intro ρ1 _ e; exact .mk ⟨rfl, e⟩
  | cons d es ih =>
    intro ρ1 hm e
    show WO (bnd (turnW own (f d)) (fun o => bnd (lcL (fun d => turnW own (f d)) es) fun r => ret (match o with | some x => x :: r | none => r)) ρ1) _
    rw [WO_bnd, turnW_app, e]
    refine (step d (hm d List.mem_cons_self)).imp fun o ρ' q => ?_
    rw [WO_bnd]
    refine (ih ρ' (fun x hx => hm x (List.mem_cons_of_mem _ hx)) q.2).imp fun r ρ2 q2 => ?_
    obtain ⟨rfl, _⟩ := q
    rw [WO_ret, List.filterMap_cons]
    refine ⟨?_, q2.2⟩
    rw [q2.1]
    cases g d <;> rfl
end Y

set_option Elab.async false
set_option linter.all false
set_option maxRecDepth 100000
namespace Y
open PySem
namespace G
def f__law_source : Fn := ⟨"_law_source", 2, ["script", "index", "cell"], (.cons (.set 2 (.con (.int 0))) (.cons (.ife (.cmp .lt (.var 1) (.bi .len (.cons (.var 0) .nil))) (.cons (.set 2 (.bi .abs (.cons (.ix (.var 0) (.var 1)) .nil))) .nil) .nil) (.cons (.ife (.cmp .lt (.var 2) (.bin .pow (.con (.int 10)) (.con (.int 18)))) (.cons (.ret (.lst (.cons (.con (.int 0)) (.cons (.bin .add (.con (.int 1)) (.bin .mod (.bi .int (.cons (.bin .add (.bin .mul (.var 2) (.con (.int 7919))) (.bin .mul (.con (.int 104729)) (.var 1))) .nil)) (.con (.int 2147483646)))) .nil)))) .nil) .nil) (.cons (.ret (.lst (.cons (.var 2) (.cons (.bin .add (.con (.int 1)) (.bin .mod (.bi .int (.cons (.bin .add (.var 2) (.var 1)) .nil)) (.con (.int 2147483646)))) .nil)))) .nil))))⟩
def f__law_draw : Fn := ⟨"_law_draw", 2, ["source", "size", "drawn"], (.cons (.ife (.cmp .gt (.ix (.var 0) (.con (.int 0))) (.con (.int 0))) (.cons (.set 2 (.bin .mod (.bi .int (.cons (.ix (.var 0) (.con (.int 0))) .nil)) (.var 1))) (.cons (.setix 0 (.con (.int 0)) (.bin .fdiv (.ix (.var 0) (.con (.int 0))) (.var 1))) (.cons (.ret (.var 2)) .nil))) .nil) (.cons (.setix 0 (.con (.int 1)) (.bin .mod (.bi .int (.cons (.bin .mul (.ix (.var 0) (.con (.int 1))) (.con (.int 48271))) .nil)) (.con (.int 2147483647)))) (.cons (.set 2 (.bi .int (.cons (.bin .fdiv (.bin .mod (.bi .int (.cons (.bin .mul (.ix (.var 0) (.con (.int 1))) (.ix (.var 0) (.con (.int 1)))) .nil)) (.con (.int 2147483629))) (.con (.int 64))) .nil))) (.cons (.ife (.cmp .gt (.var 1) (.bin .pow (.con (.int 10)) (.con (.int 7)))) (.cons (.setix 0 (.con (.int 1)) (.bin .mod (.bi .int (.cons (.bin .mul (.ix (.var 0) (.con (.int 1))) (.con (.int 48271))) .nil)) (.con (.int 2147483647)))) (.cons (.set 2 (.bin .add (.bin .mul (.var 2) (.con (.int 2147483647))) (.ix (.var 0) (.con (.int 1))))) .nil)) .nil) (.cons (.ret (.bin .mod (.var 2) (.var 1))) .nil)))))⟩
def f__law_choice : Fn := ⟨"_law_choice", 2, ["source", "items"], (.cons (.ret (.ix (.var 1) (.call "_law_draw" (.mut 0 (.val (.bi .len (.cons (.var 1) .nil)) .nil))))) .nil)⟩
def f__law_changed : Fn := ⟨"_law_changed", 2, ["source", "value", "way", "at", "some"], (.cons (.set 2 (.call "_law_draw" (.mut 0 (.val (.con (.int 7)) .nil)))) (.cons (.ife (.and (.isi (.var 1) .tuple) (.and (.cmp .ne (.var 1) (.tup .nil)) (.cmp .gt (.var 2) (.con (.int 0))))) (.cons (.set 3 (.call "_law_draw" (.mut 0 (.val (.bi .len (.cons (.var 1) .nil)) .nil)))) (.cons (.ife (.cmp .eq (.var 2) (.con (.int 1))) (.cons (.ret (.bin .add (.sl (.var 1) .none (.some (.var 3))) (.sl (.var 1) (.some (.bin .add (.var 3) (.con (.int 1)))) .none))) .nil) .nil) (.cons (.ife (.cmp .eq (.var 2) (.con (.int 2))) (.cons (.ret (.bin .add (.sl (.var 1) .none (.some (.bin .add (.var 3) (.con (.int 1))))) (.sl (.var 1) (.some (.var 3)) .none))) .nil) .nil) (.cons (.ife (.cmp .eq (.var 2) (.con (.int 3))) (.cons (.ret (.bi .list (.cons (.var 1) .nil))) .nil) .nil) (.cons (.ret (.bin .add (.bin .add (.sl (.var 1) .none (.some (.var 3))) (.tup (.cons (.call "_law_changed" (.mut 0 (.val (.ix (.var 1) (.var 3)) .nil))) .nil))) (.sl (.var 1) (.some (.bin .add (.var 3) (.con (.int 1)))) .none))) .nil))))) .nil) (.cons (.set 4 (.lst (.cons (.con .none) (.cons (.con (.bool true)) (.cons (.con (.bool false)) (.cons (.con (.int 0)) (.cons (.con (.int 1)) (.cons (.con (.int 2)) (.cons (.con (.int 3)) (.cons (.con (.int 4)) (.cons (.con (.int 10)) (.cons (.con (.int 11)) (.cons (.neg (.con (.int 1))) (.cons (.con (.int 21)) (.cons (.con (.str "x")) (.cons (.con (.str "X")) (.cons (.con (.str "amid")) (.cons (.con (.str "read")) (.cons (.con (.str "same")) (.cons (.con (.str "put")) (.cons (.con (.str "")) (.cons (.con (.str "abcdefghi")) .nil)))))))))))))))))))))) (.cons (.ret (.call "_law_choice" (.mut 0 (.val (.bin .add (.var 4) (.lst (.cons (.tup .nil) (.cons (.tup (.cons (.con (.str "go")) (.cons (.con (.int 0)) .nil))) (.cons (.tup (.cons (.con (.str "new")) (.cons (.con (.str "x")) .nil))) (.cons (.tup (.cons (.con (.str "read")) (.cons (.con (.str "x")) (.cons (.con (.int 3)) .nil)))) (.cons (.tup (.cons (.con (.str "x")) (.cons (.con (.int 0)) .nil))) (.cons (.tup (.cons (.con (.str "x")) (.cons (.con .none) .nil))) .nil)))))))) .nil)))) .nil))))⟩
end G
open G
variable {fuel : Nat} {T : List Fn} {n : Nat} {Q : R → List Slot → Prop}
/-- the source of the draws -/
def src (a b : Int) : Slot := .own true (.lst [.int a, .int b])
def SrcOk (a b : Int) : Prop := 0 ≤ a ∧ 0 ≤ b ∧ b < 2147483648
theorem s_draw (hd : Has T f__law_draw) {a b size : Int} (h : SrcOk a b) (h1 : 1 ≤ size) (h2 : size < 1073741824)
    (hQ : ∀ r a' b', 0 ≤ r → r < size → SrcOk a' b' → Q (.fz (.int r)) [src a' b', .fz (.int size)]) :
    WO (callN fuel T (n + 1) "_law_draw" [src a b, .fz (.int size)]) Q := by
  obtain ⟨ha, hb, hb'⟩ := h
  refine WO_call hd rfl ?_
  unfold src at hQ ⊢
  simp [f__law_draw, L2.atI, L2.ixN, fin]
  have p : 0 < size := by omega
  have m1 : ∀ x : Int, 0 ≤ x % size ∧ x % size < size := fun x => ⟨Int.emod_nonneg _ (by omega), Int.emod_lt_of_pos _ p⟩
  split
  · exact ⟨p, ⟨p, h2⟩, hQ _ _ _ (m1 _).1 (m1 _).2 ⟨Int.ediv_nonneg ha (by omega), hb, hb'⟩⟩
  · refine ⟨by omega, ?_⟩
    split <;> exact ⟨p, hQ _ _ _ (m1 _).1 (m1 _).2 ⟨ha, by omega, by omega⟩⟩
theorem atI_at {α : Type} {xs : List α} {r : Int} (h0 : 0 ≤ r) (h1 : r < xs.length) : ∃ x, L2.atI xs r = some x ∧ x ∈ xs ∧ xs[r.toNat]? = some x := by
  have hr : r.toNat < xs.length := by omega
  refine ⟨xs[r.toNat], ?_, List.getElem_mem hr, List.getElem?_eq_getElem hr⟩
  unfold L2.atI L2.ixN
  rw [if_pos h0, if_pos h1]
  exact List.getElem?_eq_getElem hr
theorem s_choice (hd : Has T f__law_draw) (hc : Has T f__law_choice) {a b : Int} {xs : List PyData} (h : SrcOk a b) (h1 : xs ≠ []) (h2 : xs.length < 1073741824)
    (hQ : ∀ x a' b', x ∈ xs → SrcOk a' b' → Q (.fz x) [src a' b', .fz (.list xs)]) :
    WO (callN fuel T (n + 2) "_law_choice" [src a b, .fz (.list xs)]) Q := by
  refine WO_call hc rfl ?_
  simp [f__law_choice, src]
  have hl : 1 ≤ xs.length := List.length_pos_iff.mpr h1
  refine s_draw hd h (by omega) (by omega) fun r a' b' r0 r1 h' => ?_
  obtain ⟨x, e1, e2, _⟩ := atI_at r0 r1
  simp [src, e1, fin]
  exact hQ x a' b' e2 h'
theorem atI_int {ns : List Int} {k : Int} (h0 : 0 ≤ k) (h1 : k < ns.length) : ∃ i, L2.atI (ns.map PyData.int) k = some (.int i) := by
  obtain ⟨x, e, m, _⟩ := atI_at (xs := ns.map PyData.int) h0 (by simpa using h1)
  obtain ⟨i, _, rfl⟩ := List.mem_map.mp m
  exact ⟨i, e⟩
theorem s_source (hs : Has T f__law_source) {ns : List Int} {k : Int} (h0 : 0 ≤ k) (h1 : k < 1000) (hQ : ∀ a b, SrcOk a b → Q (.own (.lst [.int a, .int b])) [.fz (.list (ns.map .int)), .fz (.int k)]) :
    WO (callN fuel T (n + 1) "_law_source" [.fz (.list (ns.map .int)), .fz (.int k)]) Q := by
  refine WO_call hs rfl ?_
  have m1 : ∀ x : Int, 0 ≤ x % 2147483646 ∧ x % 2147483646 < 2147483646 := fun x => ⟨Int.emod_nonneg _ (by omega), Int.emod_lt_of_pos _ (by omega)⟩
  have fin1 : ∀ c : Int, 0 ≤ c → (if c < 1000000000000000000 then Q (.own (.lst [.int 0, .int (1 + (c * 7919 + 104729 * k) % 2147483646)])) [.fz (.list (ns.map .int)), .fz (.int k)] else Q (.own (.lst [.int c, .int (1 + (c + k) % 2147483646)])) [.fz (.list (ns.map .int)), .fz (.int k)]) := fun c hc => by
    have := m1 (c * 7919 + 104729 * k)
    have := m1 (c + k)
    split
    · exact hQ _ _ ⟨by omega, by omega, by omega⟩
    · exact hQ _ _ ⟨by omega, by omega, by omega⟩
  by_cases hk : k < ns.length
  · obtain ⟨i, hi⟩ := atI_int h0 hk
    simp [f__law_source, fin, hk, hi]
    have := fin1 (if i < 0 then -i else i) (by split <;> omega)
    simpa using this
  · simp [f__law_source, fin, hk]
    have := fin1 0 (by omega)
    simpa using this
end Y

set_option Elab.async false
set_option linter.all false
set_option maxRecDepth 100000
namespace Y
open PySem G
/-- data of at most this length and depth -/
def okD (L : Nat) : Nat → PyData → Bool
  | _, .none => true
  | _, .bool _ => true
  | _, .int _ => true
  | _, .str x => PyData.strOk x && decide (x.length ≤ 1000)
  | k + 1, .list ds => decide (ds.length ≤ L) && ds.all (okD L k)
  | k + 1, .tuple ds => decide (ds.length ≤ L) && ds.all (okD L k)
  | _, _ => false
theorem okD_tuple {L k : Nat} {ds : List PyData} : okD L (k + 1) (.tuple ds) = (decide (ds.length ≤ L) && ds.all (okD L k)) := rfl
theorem okD_list {L k : Nat} {ds : List PyData} : okD L (k + 1) (.list ds) = (decide (ds.length ≤ L) && ds.all (okD L k)) := rfl
theorem okD_zero_tuple {L : Nat} {ds : List PyData} : okD L 0 (.tuple ds) = false := rfl
theorem okD_zero_list {L : Nat} {ds : List PyData} : okD L 0 (.list ds) = false := rfl
theorem okD_mono {L L' : Nat} (hL : L ≤ L') : ∀ {k k' : Nat} {d : PyData}, k ≤ k' → okD L k d = true → okD L' k' d = true
  | k, k', .none, _, _ => by cases k' <;> rfl
  | k, k', .bool _, _, _ => by cases k' <;> rfl
  | k, k', .int _, _, _ => by cases k' <;> rfl
  | k, k', .str x, _, h => by
    have h : (PyData.strOk x && decide (x.length ≤ 1000)) = true := by cases k <;> exact h
    cases k' <;> exact h
  | 0, k', .tuple ds, _, h => by cases h
  | 0, k', .list ds, _, h => by cases h
  | k, k', .dict _, _, h => by cases k <;> cases h
  | k + 1, 0, .tuple ds, hk, h => by omega
  | k + 1, 0, .list ds, hk, h => by omega
  | k + 1, k' + 1, .tuple ds, hk, h => by
    rw [okD_tuple, Bool.and_eq_true, decide_eq_true_eq, List.all_eq_true] at h ⊢
    exact ⟨Nat.le_trans h.1 hL, fun x hx => okD_mono hL (by omega) (h.2 x hx)⟩
  | k + 1, k' + 1, .list ds, hk, h => by
    rw [okD_list, Bool.and_eq_true, decide_eq_true_eq, List.all_eq_true] at h ⊢
    exact ⟨Nat.le_trans h.1 hL, fun x hx => okD_mono hL (by omega) (h.2 x hx)⟩
theorem canLayAll_of : ∀ {ds : List PyData} {k : Nat}, (∀ x ∈ ds, x.canLay0 = true ∧ x.depth ≤ k) → PyData.canLayAll0 ds = true ∧ PyData.depthAll ds ≤ k
  | [], k, _ => ⟨rfl, Nat.zero_le _⟩
  | d :: ds, k, h => by
    obtain ⟨h1, h2⟩ := canLayAll_of (ds := ds) fun x hx => h x (List.mem_cons_of_mem _ hx)
    obtain ⟨h3, h4⟩ := h d List.mem_cons_self
    refine ⟨?_, ?_⟩
    · unfold PyData.canLayAll0
      rw [h3, h1]; rfl
    · unfold PyData.depthAll
      exact Nat.max_le.mpr ⟨h4, h2⟩
theorem okD_lay {L : Nat} : ∀ {k : Nat} {d : PyData}, okD L k d = true → d.canLay0 = true ∧ d.depth ≤ k
  | k, .none, _ => ⟨rfl, Nat.zero_le _⟩
  | k, .bool _, _ => ⟨rfl, Nat.zero_le _⟩
  | k, .int _, _ => ⟨rfl, Nat.zero_le _⟩
  | k, .str x, h => ⟨by
    have h : (PyData.strOk x && decide (x.length ≤ 1000)) = true := by cases k <;> exact h
    rw [Bool.and_eq_true] at h
    exact h.1, Nat.zero_le _⟩
  | 0, .tuple ds, h => by cases h
  | 0, .list ds, h => by cases h
  | k, .dict _, h => by cases k <;> cases h
  | k + 1, .tuple ds, h => by
    rw [okD_tuple, Bool.and_eq_true, List.all_eq_true] at h
    obtain ⟨h1, h2⟩ := canLayAll_of (ds := ds) (k := k) fun x hx => okD_lay (h.2 x hx)
    exact ⟨h1, Nat.succ_le_succ h2⟩
  | k + 1, .list ds, h => by
    rw [okD_list, Bool.and_eq_true, List.all_eq_true] at h
    obtain ⟨h1, h2⟩ := canLayAll_of (ds := ds) (k := k) fun x hx => okD_lay (h.2 x hx)
    exact ⟨h1, Nat.succ_le_succ h2⟩
theorem okD_shaped {L k : Nat} {d : PyData} (h : okD L k d = true) (hk : k ≤ 64) : SeqAt.shaped d = true := by
  obtain ⟨h1, h2⟩ := okD_lay h
  unfold SeqAt.shaped
  rw [h1, decide_eq_true (Nat.le_trans h2 hk)]
  rfl
theorem okD_len {L k : Nat} {x : Str} (h : okD L k (.str x) = true) : x.length ≤ 1000 := by
  have h : (PyData.strOk x && decide (x.length ≤ 1000)) = true := by cases k <;> exact h
  rw [Bool.and_eq_true, decide_eq_true_eq] at h
  exact h.2
theorem eqD_of {a b : PyData} (ha : SeqAt.shaped a = true) (hb : SeqAt.shaped b = true) : eqD a b = some (PyData.eqv a b) := by
  unfold eqD
  rw [ha, hb]
  rfl
theorem sIx_lo {n : Nat} {r : Int} (h0 : 0 ≤ r) (h1 : r ≤ n) : HT.sIx n 0 (some r) = r.toNat := by
  show (if r < 0 then (r + (n : Int)).toNat else min r.toNat n) = r.toNat
  rw [if_neg (by omega)]
  omega
theorem sIx_hi {n : Nat} {r : Int} (h0 : 0 ≤ r) (h1 : r ≤ n) : HT.sIx n n (some r) = r.toNat := by
  show (if r < 0 then (r + (n : Int)).toNat else min r.toNat n) = r.toNat
  rw [if_neg (by omega)]
  omega
theorem cut_take {xs : List PyData} {r : Int} (h0 : 0 ≤ r) (h1 : r ≤ xs.length) : cutD xs none (some r) = xs.take r.toNat := by
  unfold cutD
  rw [sIx_hi h0 h1]
  show (xs.drop 0).take (r.toNat - 0) = _
  rw [List.drop_zero, Nat.sub_zero]
theorem cut_drop {xs : List PyData} {r : Int} (h0 : 0 ≤ r) (h1 : r ≤ xs.length) : cutD xs (some r) none = xs.drop r.toNat := by
  unfold cutD
  rw [sIx_lo h0 h1]
  show (xs.drop r.toNat).take (xs.length - r.toNat) = _
  rw [List.take_of_length_le (by rw [List.length_drop]; exact Nat.le_refl _)]
/-- what stands in a draw of other values -/
theorem okD_app {L k : Nat} {xs ys : List PyData} (hx : xs.all (okD L k) = true) (hy : ys.all (okD L k) = true) : (xs ++ ys).all (okD L k) = true := by rw [List.all_append, hx, hy]; rfl
theorem okD_take {L k n : Nat} {xs : List PyData} (hx : xs.all (okD L k) = true) : (xs.take n).all (okD L k) = true := by
  rw [List.all_eq_true] at hx ⊢
  exact fun x h => hx x (List.mem_of_mem_take h)
theorem okD_drop {L k n : Nat} {xs : List PyData} (hx : xs.all (okD L k) = true) : (xs.drop n).all (okD L k) = true := by
  rw [List.all_eq_true] at hx ⊢
  exact fun x h => hx x (List.mem_of_mem_drop h)
theorem okD_all_mono {L L' k k' : Nat} (hL : L ≤ L') (hk : k ≤ k') {xs : List PyData} (hx : xs.all (okD L k) = true) : xs.all (okD L' k') = true := by
  rw [List.all_eq_true] at hx ⊢
  exact fun x h => okD_mono hL hk (hx x h)
theorem s_changed {fuel : Nat} {T : List Fn} {n : Nat} (hd : Has T f__law_draw) (hc : Has T f__law_choice) (hh : Has T f__law_changed) {L : Nat} (hL : 3 ≤ L) (hL2 : L < 1000000) :
    ∀ (k : Nat) {a b : Int} {d : PyData} {Q : R → List Slot → Prop}, k ≤ 60 → okD L k d = true → SrcOk a b → (∀ r a' b', okD (L + 1) (k + 1) r.data = true → SrcOk a' b' → Q r [src a' b', .fz d]) →
    WO (callN fuel T (n + k + 3) "_law_changed" [src a b, .fz d]) Q
  | k, a, b, d, Q, hk, ho, h, hQ => by
    refine WO_call hh rfl ?_
    have some1 : ∀ (x : PyData) (l : List PyData), l.all (okD 3 1) = true → x ∈ l → okD (L + 1) (k + 1) x = true := fun x l hl hx => by
      rw [List.all_eq_true] at hl
      exact okD_mono (by omega) (by omega) (hl x hx)
    have last : ∀ (way a1 b1 : Int), SrcOk a1 b1 → WO (exs ⟨callN fuel T (n + k + 2), fuel⟩ (match f__law_changed.body with | .cons _ (.cons _ r) => r | _ => .nil) [src a1 b1, .fz d, .fz (.int way), .und, .und]) (fin [src a b, .fz d] Q) := fun way a1 b1 h1 => by
      simp [f__law_changed, src]
      refine ⟨by decide, s_choice hd hc h1 (by simp) (by simp) fun x a' b' hx h' => ?_⟩
      simp [src, fin]
      exact hQ (.fz x) a' b' (some1 x _ (by decide +kernel) hx) h'
    simp [f__law_changed, src]
    refine s_draw hd h (by omega) (by omega) fun way a1 b1 w0 w1 h1 => ?_
    simp [src]
    have skip : isTy .tuple d = false ∨ ∃ ds, d = .tuple ds := by cases d <;> first | exact .inl rfl | exact .inr ⟨_, rfl⟩
    have lst := last way a1 b1 h1
    simp [f__law_changed, src] at lst
    rcases skip with e | ⟨ds, rfl⟩
    · simp [e]
      exact lst
    · have sh : eqD (.tuple ds) (.tuple []) = some ds.isEmpty := by
        rw [eqD_of (okD_shaped ho (by omega)) (by rfl)]
        cases ds <;> rfl
      have ity : isTy .tuple (.tuple ds) = true := rfl
      by_cases hne : ds = []
      · subst hne
        simp [ity, sh]
        exact lst
      by_cases hw : 0 < way
      · simp [ity, sh, hne, hw]
        have hl : 1 ≤ ds.length := List.length_pos_iff.mpr hne
        cases k with
        | zero => cases ho
        | succ k =>
        rw [okD_tuple, Bool.and_eq_true, decide_eq_true_eq] at ho
        obtain ⟨ho1, ho2⟩ := ho
        refine s_draw hd h1 (by omega) (by omega) fun r a2 b2 r0 r1 h2 => ?_
        obtain ⟨x, e1, e2, _⟩ := atI_at r0 r1
        have t1 : cutD ds none (some r) = ds.take r.toNat := cut_take r0 (by omega)
        have t2 : cutD ds none (some (r + 1)) = ds.take (r + 1).toNat := cut_take (by omega) (by omega)
        have t3 : cutD ds (some r) none = ds.drop r.toNat := cut_drop r0 (by omega)
        have t4 : cutD ds (some (r + 1)) none = ds.drop (r + 1).toNat := cut_drop (by omega) (by omega)
        have n1 : (r + 1).toNat = r.toNat + 1 := by omega
        have n2 : min r.toNat ds.length = r.toNat := by omega
        have n3 : min (r.toNat + 1) ds.length = r.toNat + 1 := by omega
        have hA := okD_all_mono (L' := L + 1) (k' := k + 1) (by omega) (by omega) ho2
        simp [src, t1, t2, t3, t4, n1, e1, fin, n2, n3]
        have put : ∀ xs : List PyData, xs.length ≤ L + 1 → xs.all (okD (L + 1) (k + 1)) = true → okD (L + 1) (k + 1 + 1) (.tuple xs) = true := fun xs h1 h2 => by
          rw [okD_tuple, h2, decide_eq_true h1]; rfl
        split
        · refine ⟨by show _ ≤ 16777216; omega, hQ _ _ _ (put _ ?_ (okD_app (okD_take hA) (okD_drop hA))) h2⟩
          simp
          omega
        split
        · refine ⟨by show _ ≤ 16777216; omega, hQ _ _ _ (put _ ?_ (okD_app (okD_take hA) (okD_drop hA))) h2⟩
          simp
          omega
        split
        · refine hQ _ _ _ ?_ h2
          show okD (L + 1) (k + 1 + 1) (.list ds) = true
          rw [okD_list, hA, decide_eq_true (by omega)]
          rfl
        · rw [List.all_eq_true] at ho2
          refine s_changed hd hc hh hL hL2 k (by omega) (ho2 x e2) h2 fun r3 a3 b3 o3 h3 => ?_
          simp [src, t1, t4, n1, n2, n3]
          refine ⟨by show _ ≤ 16777216; omega, by show _ ≤ 16777216; omega, hQ _ _ _ (put _ ?_ ?_) h3⟩
          · simp
            omega
          · refine okD_app (okD_take hA) ?_
            rw [List.all_cons, o3, okD_drop hA]
            rfl
      · simp [ity, sh, hne, hw]
        exact lst
end Y

set_option Elab.async false
set_option linter.all false
set_option maxRecDepth 100000
namespace Y
open PySem
namespace G
def f_is_rising : Fn := ⟨"is_rising", 1, ["rows", "one", "other"], (.cons (.ret (.bi .all (.cons (.lc [1, 2] (.tup [(.nm 1), (.nm 2)]) (.zip (.var 0) (.sl (.var 0) (.some (.con (.int 1))) .none)) .nil (.cmp .lt (.var 1) (.var 2))) .nil))) .nil)⟩
def f_is_facts : Fn := ⟨"is_facts", 1, ["value", "fact"], (.cons (.ife (.or (.not (.isi (.var 0) .tuple)) (.not (.bi .all (.cons (.lc [1] (.nm 1) (.seq (.var 0)) .nil (.and (.isi (.var 1) .str) (.cmp .inn (.var 1) (.glb "FACTS" (.tuple [(.str "alone"), (.str "steady")]))))) .nil)))) (.cons (.ret (.con (.bool false))) .nil) .nil) (.cons (.ret (.call "is_rising" (.val (.var 0) .nil))) .nil))⟩
end G
open G
variable {fuel : Nat} {T : List Fn} {n : Nat} {Q : R → List Slot → Prop}
@[simp] theorem ty_tuple {d : List PyData} : isTy .tuple (.tuple d) = true := rfl
@[simp] theorem ty_str {x : Str} : isTy .str (.str x) = true := rfl
@[simp] theorem ty_bool {x : Bool} : isTy .bool (.bool x) = true := rfl
@[simp] theorem ty_int {x : Int} : isTy .int (.int x) = true := rfl
/-- x < y -/
def sLt (x y : Str) : Bool := decide (x.cps.toList < y.cps.toList)
@[simp] theorem lt_str {x y : Str} : ltD (.str x) (.str y) = some (sLt x y) := rfl
theorem zipD_map {xs ys : List Str} : zipD (xs.map .str) (ys.map .str) = (xs.zip ys).map fun p => .tuple [.str p.1, .str p.2] := by
  induction xs generalizing ys with
  | nil => rfl
  | cons x xs ih =>
    cases ys with
    | nil => rfl
    | cons y ys => simp only [List.map_cons, zipD, List.zip_cons_cons, ih]
theorem allB_map (bs : List Bool) : allB (bs.map .bool) = some (bs.all id) := by
  induction bs with
  | nil => rfl
  | cons b bs ih =>
    show (allB (bs.map .bool)).map (b && ·) = _
    rw [ih]
    rfl
theorem anyB_map (bs : List Bool) : anyB (bs.map .bool) = some (bs.any id) := by
  induction bs with
  | nil => rfl
  | cons b bs ih =>
    show (anyB (bs.map .bool)).map (b || ·) = _
    rw [ih]
    rfl
theorem cut1 {xs : List PyData} : cutD xs (some 1) none = xs.tail := by
  cases xs with
  | nil => rfl
  | cons x r => exact cut_drop (r := 1) (by omega) (by simp; omega)
/-- each less than the next -/
def rises (xs : List Str) : Bool := (xs.zip xs.tail).all fun p => sLt p.1 p.2
theorem zip_seq {d : PyData} {xs : List Str} (hd : d = .list (xs.map .str) ∨ d = .tuple (xs.map .str)) : ∃ r, slD d (some 1) none = some r ∧ zip2D d r.data = some ((xs.zip xs.tail).map fun p => .tuple [.str p.1, .str p.2]) := by
  rcases hd with rfl | rfl
  · refine ⟨_, rfl, ?_⟩
    show some (zipD _ (cutD _ _ _)) = _
    rw [cut1, ← List.map_tail, zipD_map]
  · refine ⟨_, rfl, ?_⟩
    show some (zipD _ (cutD _ _ _)) = _
    rw [cut1, ← List.map_tail, zipD_map]
theorem s_rising (hr : Has T f_is_rising) {d : PyData} {xs : List Str} (hd : d = .list (xs.map .str) ∨ d = .tuple (xs.map .str)) (hl : xs.length ≤ lim) (hQ : Q (.fz (.bool (rises xs))) [.fz d]) :
    WO (callN fuel T (n + 1) "is_rising" [.fz d]) Q := by
  refine WO_call hr rfl ?_
  obtain ⟨r, e1, e2⟩ := zip_seq hd
  simp only [f_is_rising]
  simp [e1, e2]
  refine W_pure (fun p => match p with
    | .tuple [.str a, .str b] => some (.bool (sLt a b))
    | _ => none) (fun p hp => ?_) ?_
  · obtain ⟨⟨a, b⟩, _, rfl⟩ := List.mem_map.mp hp
    simp [cturn_app]
  · have e3 : ((xs.zip xs.tail).map fun p => PyData.tuple [.str p.1, .str p.2]).filterMap (fun p => match p with
      | .tuple [.str a, .str b] => some (PyData.bool (sLt a b))
      | _ => none) = ((xs.zip xs.tail).map fun p => sLt p.1 p.2).map .bool := by
      induction xs.zip xs.tail with
      | nil => rfl
      | cons p l ih => simp only [List.map_cons, List.filterMap_cons, ih]
    rw [e3]
    have e4 : ((xs.zip xs.tail).map fun p => sLt p.1 p.2).all id = rises xs := by
      rw [List.all_map]; rfl
    refine ⟨?_, ?_⟩
    · simp only [List.length_map, List.length_zip]
      omega
    · simp only [WO_ret, WO_bndc, rdata_own, data_lst, evOs_nil, gets_cons, gets_nil, get_d, bi_all, allB_map, e4]
      simp [fin]
      exact hQ
@[simp] theorem eqv_str {x y : Str} : PyData.eqv (.str x) (.str y) = (x == y) := rfl
@[simp] theorem eqv_tuple {x y : List PyData} : PyData.eqv (.tuple x) (.tuple y) = PyData.eqvAll x y := rfl
@[simp] theorem eqv_list {x y : List PyData} : PyData.eqv (.list x) (.list y) = PyData.eqvAll x y := rfl
@[simp] theorem eqv_int {x y : Int} : PyData.eqv (.int x) (.int y) = (x == y) := rfl
@[simp] theorem eqv_bool {x y : Bool} : PyData.eqv (.bool x) (.bool y) = (x == y) := rfl
@[simp] theorem eqv_none : PyData.eqv .none .none = true := rfl
@[simp] theorem eqvAll_nil : PyData.eqvAll [] [] = true := rfl
@[simp] theorem eqvAll_cons {x y : PyData} {xs ys : List PyData} : PyData.eqvAll (x :: xs) (y :: ys) = (PyData.eqv x y && PyData.eqvAll xs ys) := rfl
@[simp] theorem eqvAll_nc {y : PyData} {ys : List PyData} : PyData.eqvAll [] (y :: ys) = false := rfl
@[simp] theorem eqvAll_cn {y : PyData} {ys : List PyData} : PyData.eqvAll (y :: ys) [] = false := rfl
@[simp] theorem eqv_none_bool {a b : Bool} {i j : Int} {x y : Str} {xs ys : List PyData} {kv ks : List (PyData × PyData)} : PyData.eqv .none (.bool b) = false := rfl
@[simp] theorem eqv_none_int {a b : Bool} {i j : Int} {x y : Str} {xs ys : List PyData} {kv ks : List (PyData × PyData)} : PyData.eqv .none (.int i) = false := rfl
@[simp] theorem eqv_none_str {a b : Bool} {i j : Int} {x y : Str} {xs ys : List PyData} {kv ks : List (PyData × PyData)} : PyData.eqv .none (.str y) = false := rfl
@[simp] theorem eqv_none_list {a b : Bool} {i j : Int} {x y : Str} {xs ys : List PyData} {kv ks : List (PyData × PyData)} : PyData.eqv .none (.list ys) = false := rfl
@[simp] theorem eqv_none_tuple {a b : Bool} {i j : Int} {x y : Str} {xs ys : List PyData} {kv ks : List (PyData × PyData)} : PyData.eqv .none (.tuple ys) = false := rfl
@[simp] theorem eqv_none_dict {a b : Bool} {i j : Int} {x y : Str} {xs ys : List PyData} {kv ks : List (PyData × PyData)} : PyData.eqv .none (.dict kv) = false := rfl
@[simp] theorem eqv_bool_none {a b : Bool} {i j : Int} {x y : Str} {xs ys : List PyData} {kv ks : List (PyData × PyData)} : PyData.eqv (.bool a) .none = false := rfl
@[simp] theorem eqv_bool_str {a b : Bool} {i j : Int} {x y : Str} {xs ys : List PyData} {kv ks : List (PyData × PyData)} : PyData.eqv (.bool a) (.str y) = false := rfl
@[simp] theorem eqv_bool_list {a b : Bool} {i j : Int} {x y : Str} {xs ys : List PyData} {kv ks : List (PyData × PyData)} : PyData.eqv (.bool a) (.list ys) = false := rfl
@[simp] theorem eqv_bool_tuple {a b : Bool} {i j : Int} {x y : Str} {xs ys : List PyData} {kv ks : List (PyData × PyData)} : PyData.eqv (.bool a) (.tuple ys) = false := rfl
@[simp] theorem eqv_bool_dict {a b : Bool} {i j : Int} {x y : Str} {xs ys : List PyData} {kv ks : List (PyData × PyData)} : PyData.eqv (.bool a) (.dict kv) = false := rfl
@[simp] theorem eqv_int_none {a b : Bool} {i j : Int} {x y : Str} {xs ys : List PyData} {kv ks : List (PyData × PyData)} : PyData.eqv (.int j) .none = false := rfl
@[simp] theorem eqv_int_str {a b : Bool} {i j : Int} {x y : Str} {xs ys : List PyData} {kv ks : List (PyData × PyData)} : PyData.eqv (.int j) (.str y) = false := rfl
@[simp] theorem eqv_int_list {a b : Bool} {i j : Int} {x y : Str} {xs ys : List PyData} {kv ks : List (PyData × PyData)} : PyData.eqv (.int j) (.list ys) = false := rfl
@[simp] theorem eqv_int_tuple {a b : Bool} {i j : Int} {x y : Str} {xs ys : List PyData} {kv ks : List (PyData × PyData)} : PyData.eqv (.int j) (.tuple ys) = false := rfl
@[simp] theorem eqv_int_dict {a b : Bool} {i j : Int} {x y : Str} {xs ys : List PyData} {kv ks : List (PyData × PyData)} : PyData.eqv (.int j) (.dict kv) = false := rfl
@[simp] theorem eqv_str_none {a b : Bool} {i j : Int} {x y : Str} {xs ys : List PyData} {kv ks : List (PyData × PyData)} : PyData.eqv (.str x) .none = false := rfl
@[simp] theorem eqv_str_bool {a b : Bool} {i j : Int} {x y : Str} {xs ys : List PyData} {kv ks : List (PyData × PyData)} : PyData.eqv (.str x) (.bool b) = false := rfl
@[simp] theorem eqv_str_int {a b : Bool} {i j : Int} {x y : Str} {xs ys : List PyData} {kv ks : List (PyData × PyData)} : PyData.eqv (.str x) (.int i) = false := rfl
@[simp] theorem eqv_str_list {a b : Bool} {i j : Int} {x y : Str} {xs ys : List PyData} {kv ks : List (PyData × PyData)} : PyData.eqv (.str x) (.list ys) = false := rfl
@[simp] theorem eqv_str_tuple {a b : Bool} {i j : Int} {x y : Str} {xs ys : List PyData} {kv ks : List (PyData × PyData)} : PyData.eqv (.str x) (.tuple ys) = false := rfl
@[simp] theorem eqv_str_dict {a b : Bool} {i j : Int} {x y : Str} {xs ys : List PyData} {kv ks : List (PyData × PyData)} : PyData.eqv (.str x) (.dict kv) = false := rfl
@[simp] theorem eqv_list_none {a b : Bool} {i j : Int} {x y : Str} {xs ys : List PyData} {kv ks : List (PyData × PyData)} : PyData.eqv (.list xs) .none = false := rfl
@[simp] theorem eqv_list_bool {a b : Bool} {i j : Int} {x y : Str} {xs ys : List PyData} {kv ks : List (PyData × PyData)} : PyData.eqv (.list xs) (.bool b) = false := rfl
@[simp] theorem eqv_list_int {a b : Bool} {i j : Int} {x y : Str} {xs ys : List PyData} {kv ks : List (PyData × PyData)} : PyData.eqv (.list xs) (.int i) = false := rfl
@[simp] theorem eqv_list_str {a b : Bool} {i j : Int} {x y : Str} {xs ys : List PyData} {kv ks : List (PyData × PyData)} : PyData.eqv (.list xs) (.str y) = false := rfl
@[simp] theorem eqv_list_tuple {a b : Bool} {i j : Int} {x y : Str} {xs ys : List PyData} {kv ks : List (PyData × PyData)} : PyData.eqv (.list xs) (.tuple ys) = false := rfl
@[simp] theorem eqv_list_dict {a b : Bool} {i j : Int} {x y : Str} {xs ys : List PyData} {kv ks : List (PyData × PyData)} : PyData.eqv (.list xs) (.dict kv) = false := rfl
@[simp] theorem eqv_tuple_none {a b : Bool} {i j : Int} {x y : Str} {xs ys : List PyData} {kv ks : List (PyData × PyData)} : PyData.eqv (.tuple xs) .none = false := rfl
@[simp] theorem eqv_tuple_bool {a b : Bool} {i j : Int} {x y : Str} {xs ys : List PyData} {kv ks : List (PyData × PyData)} : PyData.eqv (.tuple xs) (.bool b) = false := rfl
@[simp] theorem eqv_tuple_int {a b : Bool} {i j : Int} {x y : Str} {xs ys : List PyData} {kv ks : List (PyData × PyData)} : PyData.eqv (.tuple xs) (.int i) = false := rfl
@[simp] theorem eqv_tuple_str {a b : Bool} {i j : Int} {x y : Str} {xs ys : List PyData} {kv ks : List (PyData × PyData)} : PyData.eqv (.tuple xs) (.str y) = false := rfl
@[simp] theorem eqv_tuple_list {a b : Bool} {i j : Int} {x y : Str} {xs ys : List PyData} {kv ks : List (PyData × PyData)} : PyData.eqv (.tuple xs) (.list ys) = false := rfl
@[simp] theorem eqv_tuple_dict {a b : Bool} {i j : Int} {x y : Str} {xs ys : List PyData} {kv ks : List (PyData × PyData)} : PyData.eqv (.tuple xs) (.dict kv) = false := rfl
@[simp] theorem eqv_dict_none {a b : Bool} {i j : Int} {x y : Str} {xs ys : List PyData} {kv ks : List (PyData × PyData)} : PyData.eqv (.dict ks) .none = false := rfl
@[simp] theorem eqv_dict_bool {a b : Bool} {i j : Int} {x y : Str} {xs ys : List PyData} {kv ks : List (PyData × PyData)} : PyData.eqv (.dict ks) (.bool b) = false := rfl
@[simp] theorem eqv_dict_int {a b : Bool} {i j : Int} {x y : Str} {xs ys : List PyData} {kv ks : List (PyData × PyData)} : PyData.eqv (.dict ks) (.int i) = false := rfl
@[simp] theorem eqv_dict_str {a b : Bool} {i j : Int} {x y : Str} {xs ys : List PyData} {kv ks : List (PyData × PyData)} : PyData.eqv (.dict ks) (.str y) = false := rfl
@[simp] theorem eqv_dict_list {a b : Bool} {i j : Int} {x y : Str} {xs ys : List PyData} {kv ks : List (PyData × PyData)} : PyData.eqv (.dict ks) (.list ys) = false := rfl
@[simp] theorem eqv_dict_tuple {a b : Bool} {i j : Int} {x y : Str} {xs ys : List PyData} {kv ks : List (PyData × PyData)} : PyData.eqv (.dict ks) (.tuple ys) = false := rfl
theorem inD_tuple {x : PyData} {ds : List PyData} (hx : SeqAt.shaped x = true) (hd : SeqAt.shaped (.tuple ds) = true) : inD x (.tuple ds) = some (ds.any fun z => PyData.eqv z x) := by
  show (if SeqAt.shaped x && SeqAt.shaped (.tuple ds) then some (ds.any fun z => PyData.eqv z x) else none) = _
  rw [hx, hd]; rfl
theorem inD_list {x : PyData} {ds : List PyData} (hx : SeqAt.shaped x = true) (hd : SeqAt.shaped (.list ds) = true) : inD x (.list ds) = some (ds.any fun z => PyData.eqv z x) := by
  show (if SeqAt.shaped x && SeqAt.shaped (.list ds) then some (ds.any fun z => PyData.eqv z x) else none) = _
  rw [hx, hd]; rfl
/-! ### facts -/
def factB : PyData → Bool
  | .str x => x == "alone" || x == "steady"
  | _ => false
def strsOf : List PyData → List Str
  | [] => []
  | .str x :: r => x :: strsOf r
  | _ :: r => strsOf r
theorem strsOf_map (xs : List Str) : strsOf (xs.map .str) = xs := by
  induction xs with
  | nil => rfl
  | cons x xs ih => exact congrArg (x :: ·) ih
theorem facts_strs : ∀ {ds : List PyData}, ds.all factB = true → ds = (strsOf ds).map .str
  | [], _ => rfl
  | d :: ds, h => by
    rw [List.all_cons, Bool.and_eq_true] at h
    cases d with
    | str x => exact congrArg (PyData.str x :: ·) (facts_strs h.2)
    | _ => cases h.1
def isFacts : PyData → Bool
  | .tuple ds => ds.all factB && rises (strsOf ds)
  | _ => false
theorem strsOf_len : ∀ ds : List PyData, (strsOf ds).length ≤ ds.length
  | [] => Nat.le_refl _
  | d :: ds => by
    have := strsOf_len ds
    cases d <;> simp [strsOf] <;> omega
theorem fm_some {α β : Type} (f : α → β) : ∀ l : List α, (l.filterMap fun x => some (f x)) = l.map f
  | [] => rfl
  | a :: l => by rw [List.filterMap_cons, List.map_cons, fm_some f l]
theorem s_facts (hr : Has T f_is_rising) (hf : Has T f_is_facts) {L k : Nat} {d : PyData} (hd : okD L k d = true) (hk : k ≤ 60) (hL : L ≤ 1000000) (hQ : Q (.fz (.bool (isFacts d))) [.fz d]) :
    WO (callN fuel T (n + 2) "is_facts" [.fz d]) Q := by
  refine WO_call hf rfl ?_
  have skip : isTy .tuple d = false ∨ ∃ ds, d = .tuple ds := by cases d <;> first | exact .inl rfl | exact .inr ⟨_, rfl⟩
  rcases skip with e | ⟨ds, rfl⟩
  · simp [f_is_facts, e, fin]
    have : isFacts d = false := by cases d <;> first | rfl | cases e
    rw [this] at hQ
    exact hQ
  · cases k with
    | zero => cases hd
    | succ k =>
    rw [okD_tuple, Bool.and_eq_true, decide_eq_true_eq, List.all_eq_true] at hd
    simp [f_is_facts]
    refine W_pure (fun x => some (.bool (factB x))) (fun x hx => ?_) ?_
    · have hs := okD_shaped (hd.2 x hx) (by omega)
      cases x with
      | str y =>
        have e1 : inD (.str y) (.tuple [.str "alone", .str "steady"]) = some (factB (.str y)) := by
          have e2 : SeqAt.shaped (.tuple [.str "alone", .str "steady"]) = true := by decide +kernel
          rw [inD_tuple hs e2]
          simp [PyData.eqv, factB, BEq.comm]
        simp [cturn_app, e1]
      | _ => simp [cturn_app, isTy, factB]
    · rw [fm_some]
      refine ⟨by rw [List.length_map]; exact Nat.le_trans (Nat.le_trans hd.1 hL) (by decide), ?_⟩
      have e3 : ds.map (fun x => PyData.bool (factB x)) = (ds.map factB).map .bool := by rw [List.map_map]; rfl
      have e4 : (ds.map factB).all id = ds.all factB := by rw [List.all_map]; rfl
      rw [e3]
      simp only [WO_ret, WO_bndc, rdata_own, data_lst, evOs_nil, gets_cons, gets_nil, get_d, bi_all, allB_map, e4]
      cases hall : ds.all factB with
      | false =>
        have : isFacts (.tuple ds) = false := by show (ds.all factB && _) = _; rw [hall]; rfl
        rw [this] at hQ
        simp [fin]
        exact hQ
      | true =>
        simp
        have e5 := facts_strs hall
        refine s_rising hr (xs := strsOf ds) (.inr (congrArg PyData.tuple e5)) (Nat.le_trans (strsOf_len ds) (Nat.le_trans (Nat.le_trans hd.1 hL) (by decide))) ?_
        have : isFacts (.tuple ds) = rises (strsOf ds) := by show (ds.all factB && _) = _; rw [hall]; rfl
        rw [this] at hQ
        simp [fin]
        exact hQ
end Y

set_option Elab.async false
set_option linter.all false
set_option maxRecDepth 100000
namespace Y
open PySem
namespace G
def f_is_from : Fn := ⟨"is_from", 3, ["value", "low", "high"], (.cons (.ret (.and (.isi (.var 0) .int) (.and (.not (.isi (.var 0) .bool)) (.chain .le .le (.var 1) (.var 0) (.var 2))))) .nil)⟩
def f_is_name : Fn := ⟨"is_name", 1, ["value", "letter"], (.cons (.ret (.and (.isi (.var 0) .str) (.and (.chain .le .le (.con (.int 1)) (.bi .len (.cons (.var 0) .nil)) (.con (.int 8))) (.bi .all (.cons (.lc [1] (.nm 1) (.seq (.var 0)) .nil (.cmp .inn (.var 1) (.glb "LETTERS" (.str "abcdefghijklmnopqrstuvwxyz")))) .nil))))) .nil)⟩
def f_are_cells : Fn := ⟨"are_cells", 1, ["value", "cell"], (.cons (.ife (.or (.not (.isi (.var 0) .tuple)) (.not (.chain .le .le (.con (.int 1)) (.bi .len (.cons (.var 0) .nil)) (.glb "MOST_CELLS" (.int 3))))) (.cons (.ret (.con (.bool false))) .nil) .nil) (.cons (.frr (.nm 1) (.seq (.var 0)) (.cons (.ife (.or (.not (.isi (.var 1) .tuple)) (.or (.cmp .ne (.bi .len (.cons (.var 1) .nil)) (.con (.int 2))) (.not (.call "is_name" (.val (.ix (.var 1) (.con (.int 0))) .nil))))) (.cons (.ret (.con (.bool false))) .nil) .nil) (.cons (.ife (.and (.notn (.ix (.var 1) (.con (.int 1)))) (.not (.call "is_name" (.val (.ix (.var 1) (.con (.int 1))) .nil)))) (.cons (.ret (.con (.bool false))) .nil) .nil) .nil))) (.cons (.ret (.call "is_rising" (.val (.lc [1] (.nm 1) (.seq (.var 0)) .nil (.ix (.var 1) (.con (.int 0)))) .nil))) .nil)))⟩
def f_names_of : Fn := ⟨"names_of", 1, ["cells", "cell"], (.cons (.ret (.lc [1] (.nm 1) (.seq (.var 0)) .nil (.ix (.var 1) (.con (.int 0))))) .nil)⟩
def f_is_reader_row : Fn := ⟨"is_reader_row", 3, ["value", "names", "size", "word", "good", "other"], (.cons (.ife (.or (.not (.isi (.var 0) .tuple)) (.or (.cmp .lt (.bi .len (.cons (.var 0) .nil)) (.con (.int 2))) (.not (.isi (.ix (.var 0) (.con (.int 0))) .str)))) (.cons (.ret (.con (.bool false))) .nil) .nil) (.cons (.set 3 (.ix (.var 0) (.con (.int 0)))) (.cons (.ife (.cmp .eq (.var 3) (.con (.str "go"))) (.cons (.ret (.and (.cmp .eq (.bi .len (.cons (.var 0) .nil)) (.con (.int 2))) (.call "is_from" (.val (.ix (.var 0) (.con (.int 1))) (.val (.con (.int 0)) (.val (.var 2) .nil)))))) .nil) .nil) (.cons (.ife (.cmp .eq (.var 3) (.con (.str "read"))) (.cons (.set 4 (.and (.cmp .eq (.bi .len (.cons (.var 0) .nil)) (.con (.int 3))) (.and (.isi (.ix (.var 0) (.con (.int 1))) .str) (.cmp .inn (.ix (.var 0) (.con (.int 1))) (.var 1))))) (.cons (.ret (.and (.var 4) (.call "is_from" (.val (.ix (.var 0) (.con (.int 2))) (.val (.con (.int 0)) (.val (.bin .sub (.glb "NOTES" (.int 4)) (.con (.int 1))) .nil)))))) .nil)) .nil) (.cons (.ife (.or (.cmp .nin (.var 3) (.glb "TESTS" (.tuple [(.str "is"), (.str "not"), (.str "same")]))) (.or (.cmp .ne (.bi .len (.cons (.var 0) .nil)) (.con (.int 4))) (.not (.call "is_from" (.val (.ix (.var 0) (.con (.int 1))) (.val (.con (.int 0)) (.val (.bin .sub (.glb "NOTES" (.int 4)) (.con (.int 1))) .nil))))))) (.cons (.ret (.con (.bool false))) .nil) .nil) (.cons (.set 5 (.ife (.cmp .eq (.var 3) (.con (.str "same"))) (.call "is_from" (.val (.ix (.var 0) (.con (.int 2))) (.val (.con (.int 0)) (.val (.bin .sub (.glb "NOTES" (.int 4)) (.con (.int 1))) .nil)))) (.call "is_name" (.val (.ix (.var 0) (.con (.int 2))) .nil)))) (.cons (.ret (.and (.var 5) (.call "is_from" (.val (.ix (.var 0) (.con (.int 3))) (.val (.con (.int 0)) (.val (.var 2) .nil)))))) .nil)))))))⟩
def f_is_writer_row : Fn := ⟨"is_writer_row", 3, ["value", "names", "size", "word"], (.cons (.ife (.or (.not (.isi (.var 0) .tuple)) (.or (.cmp .lt (.bi .len (.cons (.var 0) .nil)) (.con (.int 2))) (.not (.isi (.ix (.var 0) (.con (.int 0))) .str)))) (.cons (.ret (.con (.bool false))) .nil) .nil) (.cons (.set 3 (.ix (.var 0) (.con (.int 0)))) (.cons (.ife (.cmp .eq (.var 3) (.con (.str "go"))) (.cons (.ret (.and (.cmp .eq (.bi .len (.cons (.var 0) .nil)) (.con (.int 2))) (.call "is_from" (.val (.ix (.var 0) (.con (.int 1))) (.val (.con (.int 0)) (.val (.var 2) .nil)))))) .nil) .nil) (.cons (.ife (.or (.not (.isi (.ix (.var 0) (.con (.int 1))) .str)) (.cmp .nin (.ix (.var 0) (.con (.int 1))) (.var 1))) (.cons (.ret (.con (.bool false))) .nil) .nil) (.cons (.ife (.cmp .eq (.var 3) (.con (.str "new"))) (.cons (.ret (.cmp .eq (.bi .len (.cons (.var 0) .nil)) (.con (.int 2)))) .nil) .nil) (.cons (.ife (.cmp .eq (.var 3) (.con (.str "put"))) (.cons (.ret (.and (.cmp .eq (.bi .len (.cons (.var 0) .nil)) (.con (.int 3))) (.call "is_name" (.val (.ix (.var 0) (.con (.int 2))) .nil)))) .nil) .nil) (.cons (.ife (.cmp .eq (.var 3) (.con (.str "when"))) (.cons (.ret (.and (.cmp .eq (.bi .len (.cons (.var 0) .nil)) (.con (.int 4))) (.and (.call "is_name" (.val (.ix (.var 0) (.con (.int 2))) .nil)) (.call "is_from" (.val (.ix (.var 0) (.con (.int 3))) (.val (.con (.int 0)) (.val (.var 2) .nil))))))) .nil) .nil) (.cons (.ife (.or (.cmp .ne (.var 3) (.con (.str "swap"))) (.cmp .ne (.bi .len (.cons (.var 0) .nil)) (.con (.int 5)))) (.cons (.ret (.con (.bool false))) .nil) .nil) (.cons (.ret (.and (.call "is_name" (.val (.ix (.var 0) (.con (.int 2))) .nil)) (.and (.call "is_name" (.val (.ix (.var 0) (.con (.int 3))) .nil)) (.call "is_from" (.val (.ix (.var 0) (.con (.int 4))) (.val (.con (.int 0)) (.val (.var 2) .nil))))))) .nil)))))))))⟩
def f_is_reader : Fn := ⟨"is_reader", 2, ["value", "names", "row"], (.cons (.ife (.or (.not (.isi (.var 0) .tuple)) (.not (.chain .le .le (.con (.int 1)) (.bi .len (.cons (.var 0) .nil)) (.glb "MOST_READER" (.int 10))))) (.cons (.ret (.con (.bool false))) .nil) .nil) (.cons (.ret (.bi .all (.cons (.lc [2] (.nm 2) (.seq (.var 0)) .nil (.call "is_reader_row" (.val (.var 2) (.val (.var 1) (.val (.bi .len (.cons (.var 0) .nil)) .nil))))) .nil))) .nil))⟩
def f_is_writer : Fn := ⟨"is_writer", 2, ["value", "names", "row"], (.cons (.ife (.or (.not (.isi (.var 0) .tuple)) (.not (.chain .le .le (.con (.int 1)) (.bi .len (.cons (.var 0) .nil)) (.glb "MOST_WRITER" (.int 6))))) (.cons (.ret (.con (.bool false))) .nil) .nil) (.cons (.ret (.bi .all (.cons (.lc [2] (.nm 2) (.seq (.var 0)) .nil (.call "is_writer_row" (.val (.var 2) (.val (.var 1) (.val (.bi .len (.cons (.var 0) .nil)) .nil))))) .nil))) .nil))⟩
def f_is_answer : Fn := ⟨"is_answer", 2, ["value", "names", "pair"], (.cons (.ife (.or (.not (.isi (.var 0) .tuple)) (.cmp .eq (.bi .len (.cons (.var 0) .nil)) (.con (.int 0)))) (.cons (.ret (.con (.bool false))) .nil) .nil) (.cons (.frr (.nm 2) (.seq (.var 0)) (.cons (.ife (.or (.not (.isi (.var 2) .tuple)) (.or (.cmp .ne (.bi .len (.cons (.var 2) .nil)) (.con (.int 2))) (.or (.not (.isi (.ix (.var 2) (.con (.int 0))) .str)) (.cmp .nin (.ix (.var 2) (.con (.int 0))) (.var 1))))) (.cons (.ret (.con (.bool false))) .nil) .nil) (.cons (.ife (.not (.call "is_from" (.val (.ix (.var 2) (.con (.int 1))) (.val (.con (.int 0)) (.val (.bin .sub (.glb "NOTES" (.int 4)) (.con (.int 1))) .nil))))) (.cons (.ret (.con (.bool false))) .nil) .nil) .nil))) (.cons (.ret (.call "is_rising" (.val (.lc [2] (.nm 2) (.seq (.var 0)) .nil (.ix (.var 2) (.con (.int 0)))) .nil))) .nil)))⟩
def f_is_system : Fn := ⟨"is_system", 1, ["value", "names", "writer"], (.cons (.ife (.or (.not (.isi (.var 0) .tuple)) (.or (.cmp .ne (.bi .len (.cons (.var 0) .nil)) (.con (.int 4))) (.not (.call "are_cells" (.val (.ix (.var 0) (.con (.int 0))) .nil))))) (.cons (.ret (.con (.bool false))) .nil) .nil) (.cons (.set 1 (.call "names_of" (.val (.ix (.var 0) (.con (.int 0))) .nil))) (.cons (.ife (.or (.not (.call "is_reader" (.val (.ix (.var 0) (.con (.int 1))) (.val (.var 1) .nil)))) (.not (.call "is_answer" (.val (.ix (.var 0) (.con (.int 2))) (.val (.var 1) .nil))))) (.cons (.ret (.con (.bool false))) .nil) .nil) (.cons (.ife (.or (.not (.isi (.ix (.var 0) (.con (.int 3))) .tuple)) (.cmp .gt (.bi .len (.cons (.ix (.var 0) (.con (.int 3))) .nil)) (.glb "MOST_WRITERS" (.int 3)))) (.cons (.ret (.con (.bool false))) .nil) .nil) (.cons (.ret (.bi .all (.cons (.lc [2] (.nm 2) (.seq (.ix (.var 0) (.con (.int 3)))) .nil (.call "is_writer" (.val (.var 2) (.val (.var 1) .nil)))) .nil))) .nil)))))⟩
def f_need_system : Fn := ⟨"need_system", 1, ["value"], (.cons (.ife (.not (.call "is_system" (.val (.var 0) .nil))) (.cons (.rse "InvalidSystem" (.cons (.con (.str "not a system")) .nil)) .nil) .nil) .nil)⟩
def f_is_test : Fn := ⟨"is_test", 1, ["row"], (.cons (.ret (.cmp .inn (.ix (.var 0) (.con (.int 0))) (.glb "TESTS" (.tuple [(.str "is"), (.str "not"), (.str "same")])))) .nil)⟩
def f_test_rows : Fn := ⟨"test_rows", 1, ["system", "number", "row"], (.cons (.ret (.lc [1, 2] (.tup [(.nm 1), (.nm 2)]) (.enu (.ix (.var 0) (.con (.int 1)))) (.cons (.call "is_test" (.val (.var 2) .nil)) .nil) (.var 1))) .nil)⟩
def f_tests_of : Fn := ⟨"tests_of", 1, ["system"], (.cons (.exp (.call "need_system" (.val (.var 0) .nil))) (.cons (.ret (.call "test_rows" (.val (.var 0) .nil))) .nil))⟩
end G
open G
variable {fuel : Nat} {T : List Fn} {n : Nat} {Q : R → List Slot → Prop}
/-- a whole number from lo to hi -/
def fromB (d : PyData) (lo hi : Int) : Bool := match d with
  | .int i => decide (lo ≤ i) && decide (i ≤ hi)
  | _ => false
@[simp] theorem ty_int_bool {b : Bool} : isTy .int (.bool b) = true := rfl
@[simp] theorem ty_bool_int {i : Int} : isTy .bool (.int i) = false := rfl
theorem s_from (hf : Has T f_is_from) {d : PyData} {lo hi : Int} (hQ : Q (.fz (.bool (fromB d lo hi))) [.fz d, .fz (.int lo), .fz (.int hi)]) :
    WO (callN fuel T (n + 1) "is_from" [.fz d, .fz (.int lo), .fz (.int hi)]) Q := by
  refine WO_call hf rfl ?_
  cases d with
  | int i =>
    simp [f_is_from, fin]
    have hQ : Q (.fz (.bool (decide (lo ≤ i) && decide (i ≤ hi)))) [.fz (.int i), .fz (.int lo), .fz (.int hi)] := hQ
    split
    · rename_i h
      rw [decide_eq_true h] at hQ
      simpa using hQ
    · rename_i h
      rw [decide_eq_false h] at hQ
      exact hQ
  | bool b => simp [f_is_from, fin]; exact hQ
  | _ => simp [f_is_from, fin, isTy]; exact hQ
/-- a letter, as the program asks it -/
def letters : Str := "abcdefghijklmnopqrstuvwxyz"
def letB (z : Str) : Bool := !(Builtin.Str.occurrences letters z 0 letters.length 1).isEmpty
def letsB (x : Str) : Bool := (x.cps.toList.map fun c => (⟨#[c]⟩ : Str)).all letB
def nameB : PyData → Bool
  | .str x => decide (1 ≤ x.length) && decide (x.length ≤ 8) && letsB x
  | _ => false
theorem in_letters {z : Str} : inD (.str z) (.str letters) = some (letB z) := rfl
theorem s_name (hf : Has T f_is_name) {d : PyData} (hL : ∀ x, d = .str x → x.length ≤ lim) (hQ : Q (.fz (.bool (nameB d))) [.fz d]) :
    WO (callN fuel T (n + 1) "is_name" [.fz d]) Q := by
  refine WO_call hf rfl ?_
  cases d with
  | str x =>
    have hx := hL x rfl
    have e0 : (PyData.str (Str.ofString "abcdefghijklmnopqrstuvwxyz")) = .str letters := rfl
    simp only [f_is_name, e0]
    simp [hx]
    by_cases h1 : (1 : Int) ≤ x.length
    · by_cases h2 : (x.length : Int) ≤ 8
      · simp [hx, h1, h2]
        refine W_pure (fun p => match p with
          | .str z => some (.bool (letB z))
          | _ => none) (fun p hp => ?_) ?_
        · obtain ⟨c, _, rfl⟩ := List.mem_map.mp hp
          simp [cturn_app, in_letters]
        · have e3 : (x.cps.toList.map fun c => PyData.str ⟨#[c]⟩).filterMap (fun p => match p with
            | .str z => some (PyData.bool (letB z))
            | _ => none) = ((x.cps.toList.map fun c => (⟨#[c]⟩ : Str)).map letB).map .bool := by
            induction x.cps.toList with
            | nil => rfl
            | cons p l ih => simp only [List.map_cons, List.filterMap_cons, ih]
          rw [e3]
          have e4 : ((x.cps.toList.map fun c => (⟨#[c]⟩ : Str)).map letB).all id = letsB x := by rw [List.all_map]; rfl
          refine ⟨?_, ?_⟩
          · simp
            exact hx
          · simp only [WO_ret, WO_bndc, rdata_own, data_lst, evOs_nil, gets_cons, gets_nil, get_d, bi_all, allB_map, e4]
            simp [fin]
            have : nameB (.str x) = letsB x := by
              show (decide _ && decide _ && letsB x) = _
              rw [decide_eq_true (by omega), decide_eq_true (by omega)]; rfl
            rw [this] at hQ
            exact hQ
      · simp [hx, h1, h2, fin]
        have : nameB (.str x) = false := by
          show (decide _ && decide _ && letsB x) = _
          rw [decide_eq_false (p := x.length ≤ 8) (by omega), Bool.and_false]; rfl
        rw [this] at hQ
        exact hQ
    · simp [hx, h1, fin]
      have : nameB (.str x) = false := by
        show (decide _ && decide _ && letsB x) = _
        rw [decide_eq_false (p := 1 ≤ x.length) (by omega)]; rfl
      rw [this] at hQ
      exact hQ
  | _ => simp [f_is_name, fin, isTy]; exact hQ
theorem name_len {L k : Nat} {d : PyData} (h : okD L k d = true) : ∀ x, d = .str x → x.length ≤ lim := fun x e => by
  subst e
  exact Nat.le_trans (okD_len h) (by decide)
/-! ### cells -/
def cellB : PyData → Bool
  | .tuple [a, b] => nameB a && (isNon b || nameB b)
  | _ => false
/-- the first items -/
def headS : PyData → Str
  | .tuple (.str x :: _) => x
  | _ => ""
def cellsB : PyData → Bool
  | .tuple cs => decide (1 ≤ cs.length) && decide (cs.length ≤ 3) && cs.all cellB && rises (cs.map headS)
  | _ => false
@[simp] theorem isNon_none : isNon .none = true := rfl
theorem tuple_or (d : PyData) : isTy .tuple d = false ∨ ∃ ds, d = .tuple ds := by cases d <;> first | exact .inl rfl | exact .inr ⟨_, rfl⟩
theorem atI0 {α : Type} {a : α} {r : List α} : L2.atI (a :: r) 0 = some a := by
  unfold L2.atI L2.ixN
  rw [if_pos (by omega), if_pos (by rw [List.length_cons]; omega)]
  rfl
theorem atI1 {α : Type} {a b : α} {r : List α} : L2.atI (a :: b :: r) 1 = some b := by
  unfold L2.atI L2.ixN
  rw [if_pos (by omega), if_pos (by simp; omega)]
  rfl
theorem atI2 {α : Type} {a b c : α} {r : List α} : L2.atI (a :: b :: c :: r) 2 = some c := by
  unfold L2.atI L2.ixN
  rw [if_pos (by omega), if_pos (by simp; omega)]
  rfl
theorem atI3 {α : Type} {a b c d : α} {r : List α} : L2.atI (a :: b :: c :: d :: r) 3 = some d := by
  unfold L2.atI L2.ixN
  rw [if_pos (by omega), if_pos (by simp; omega)]
  rfl
theorem atI4 {α : Type} {a b c d e : α} {r : List α} : L2.atI (a :: b :: c :: d :: e :: r) 4 = some e := by
  unfold L2.atI L2.ixN
  rw [if_pos (by omega), if_pos (by simp; omega)]
  rfl
/-- the body's test of one cell -/
theorem cell_turn {Γ : Gam} {fuel : Nat} {T : List Fn} {n : Nat} (hΓ : Γ = ⟨callN fuel T (n + 1), fuel⟩) (hf : Has T f_is_name) {L k : Nat} {c v : PyData} (hc : okD L k c = true) {P : Fl → Rho → Prop} (s2 : Slot)
    (hQ : P (if cellB c then .nx else .rt (.fz (.bool false))) [.fz v, .fz c]) :
    WO (exs Γ (match f_are_cells.body with | .cons _ (.cons (.frr _ _ b) _) => b | _ => .nil) [.fz v, .fz c]) P := by
  subst hΓ
  have nmL : ∀ {k : Nat} {d : PyData}, okD L k d = true → ∀ (Q : R → List Slot → Prop), Q (.fz (.bool (nameB d))) [.fz d] → WO (callN fuel T (n + 1) "is_name" [.fz d]) Q := fun h Q q => s_name hf (name_len h) q
  rcases tuple_or c with e | ⟨ds, rfl⟩
  · have : cellB c = false := by cases c <;> first | rfl | cases e
    rw [this] at hQ
    simp [f_are_cells, e]
    exact hQ
  · cases k with
    | zero => cases hc
    | succ k =>
    rw [okD_tuple, Bool.and_eq_true, List.all_eq_true] at hc
    match ds with
    | [] => simp [f_are_cells]; exact hQ
    | [a] => simp [f_are_cells]; exact hQ
    | a :: b :: z :: r =>
      have : ¬ ((r.length : Int) + 1 + 1 + 1 = 2) := by omega
      simp [f_are_cells, this]
      exact hQ
    | [a, b] =>
      simp [f_are_cells, atI0, atI1]
      refine nmL (hc.2 a (by simp)) _ ?_
      simp
      have e1 : cellB (.tuple [a, b]) = (nameB a && (isNon b || nameB b)) := rfl
      rw [e1] at hQ
      cases ha : nameB a with
      | false =>
        rw [ha] at hQ
        simp
        exact hQ
      | true =>
        rw [ha] at hQ
        simp [atI0, atI1]
        cases hb : isNon b with
        | true =>
          rw [hb] at hQ
          simp
          exact hQ
        | false =>
          rw [hb] at hQ
          simp [atI1]
          refine nmL (hc.2 b (by simp)) _ ?_
          simp
          cases hb2 : nameB b <;> (rw [hb2] at hQ; simp; exact hQ)
theorem cells_names : ∀ {cs : List PyData}, cs.all cellB = true → ∀ c ∈ cs, ∃ x b, c = .tuple [.str x, b] := fun {cs} h c hc => by
  have h := List.all_eq_true.mp h c hc
  unfold cellB at h
  split at h
  · rename_i a b
    rw [Bool.and_eq_true] at h
    cases a with
    | str x => exact ⟨x, b, rfl⟩
    | _ => cases h.1
  · cases h
def CellI (v : PyData) (cs ds : List PyData) (ρ : Rho) : Prop := ∃ pre s1, cs = pre ++ ds ∧ pre.all cellB = true ∧ ρ = [.fz v, s1]
theorem s_cells (hr : Has T f_is_rising) (hf : Has T f_is_name) (hh : Has T f_are_cells) {L k : Nat} {d : PyData} (hd : okD L k d = true) (hQ : Q (.fz (.bool (cellsB d))) [.fz d]) :
    WO (callN fuel T (n + 2) "are_cells" [.fz d]) Q := by
  refine WO_call hh rfl ?_
  rcases tuple_or d with e | ⟨cs, rfl⟩
  · have : cellsB d = false := by cases d <;> first | rfl | cases e
    rw [this] at hQ
    simp [f_are_cells, e, fin]
    exact hQ
  · cases k with
    | zero => cases hd
    | succ k =>
    rw [okD_tuple, Bool.and_eq_true, List.all_eq_true] at hd
    have e1 : cellsB (.tuple cs) = (decide (1 ≤ cs.length) && decide (cs.length ≤ 3) && cs.all cellB && rises (cs.map headS)) := rfl
    rw [e1] at hQ
    by_cases h1 : 1 ≤ cs.length
    · by_cases h2 : cs.length ≤ 3
      · have i1 : (1 : Int) ≤ cs.length := by omega
        have i2 : (cs.length : Int) ≤ 3 := by omega
        rw [decide_eq_true h1, decide_eq_true h2, Bool.true_and, Bool.true_and] at hQ
        simp [f_are_cells, i1, i2]
        refine W_for (CellI (.tuple cs) cs) (fun c ds ρ hI => ?_) (fun ρ hI => ?_) _ _ ⟨[], .und, rfl, rfl, rfl⟩
        · obtain ⟨pre, s1, e, hp, rfl⟩ := hI
          have hc : okD L k c = true := hd.2 c (by rw [e]; simp)
          rw [WO_turn_nm]
          refine ⟨by simp, cell_turn (n := n) rfl hf hc .und ?_⟩
          cases hb : cellB c with
          | true =>
            simp
            exact ⟨pre ++ [c], .fz c, by rw [e]; simp, by rw [List.all_append, hp]; simp [hb], rfl⟩
          | false =>
            have hall : cs.all cellB = false := by rw [e, List.all_append, List.all_cons, hb]; simp
            rw [hall, Bool.false_and] at hQ
            simp [fin]
            exact hQ
        · obtain ⟨pre, s1, e, hp, rfl⟩ := hI
          rw [List.append_nil] at e
          subst e
          rw [hp, Bool.true_and] at hQ
          simp
          refine W_pure (fun c => match c with
            | .tuple (.str x :: _) => some (.str x)
            | _ => none) (fun c hc => ?_) ?_
          · obtain ⟨x, b, rfl⟩ := cells_names hp c hc
            simp [cturn_app, atI0]
          · have e3 : ∀ {l : List PyData}, l.all cellB = true → l.filterMap (fun c => match c with
              | .tuple (.str x :: _) => some (PyData.str x)
              | _ => none) = (l.map headS).map .str := fun {l} hl => by
              induction l with
              | nil => rfl
              | cons c l ih =>
                obtain ⟨x, b, rfl⟩ := cells_names hl c (by simp)
                rw [List.all_cons, Bool.and_eq_true] at hl
                simp only [List.filterMap_cons, List.map_cons, ih hl.2]
                rfl
            rw [e3 hp]
            refine ⟨?_, ?_⟩
            · simp
              show _ ≤ 16777216
              omega
            · simp
              refine s_rising hr (xs := cs.map headS) (.inl (by simp)) (by rw [List.length_map]; show _ ≤ 16777216; omega) ?_
              simp [fin]
              exact hQ
      · have i1 : (1 : Int) ≤ cs.length := by omega
        have i2 : ¬ (cs.length : Int) ≤ 3 := by omega
        rw [decide_eq_false h2, Bool.and_false, Bool.false_and, Bool.false_and] at hQ
        simp [f_are_cells, i1, i2, fin]
        exact hQ
    · have i1 : ¬ (1 : Int) ≤ cs.length := by omega
      rw [decide_eq_false h1, Bool.false_and, Bool.false_and, Bool.false_and] at hQ
      simp [f_are_cells, i1, fin]
      exact hQ
/-! ### rows -/
def strIn (ns : List Str) : PyData → Bool
  | .str x => ns.any (· == x)
  | _ => false
def testB (w : Str) : Bool := w == "is" || w == "not" || w == "same"
def readRow (ns : List Str) (a : PyData) : List PyData → Bool
  | [b] => strIn ns a && fromB b 0 3
  | _ => false
def testRow (w : Str) (size : Int) (a : PyData) : List PyData → Bool
  | [b, c] => fromB a 0 3 && (if w = "same" then fromB b 0 3 else nameB b) && fromB c 0 size
  | _ => false
def rowB (ns : List Str) (size : Int) : PyData → Bool
  | .tuple (.str w :: a :: r) => if w = "go" then r.isEmpty && fromB a 0 size else if w = "read" then readRow ns a r else if testB w = true then testRow w size a r else false
  | _ => false
def namesD (ns : List Str) : PyData := .list (ns.map .str)
theorem in_names {ns : List Str} {x : Str} (hx : SeqAt.shaped (.str x) = true) (hn : SeqAt.shaped (namesD ns) = true) : inD (.str x) (namesD ns) = some (strIn ns (.str x)) := by
  unfold namesD at hn ⊢
  rw [inD_list hx hn]
  congr 1
  rw [List.any_map]
  rfl
theorem eq_str {x y : Str} (hx : SeqAt.shaped (.str x) = true) (hy : SeqAt.shaped (.str y) = true) : eqD (.str x) (.str y) = some (decide (x = y)) := by
  rw [eqD_of hx hy]
  show some (x == y) = _
  congr 1
theorem s_reader_row (hf : Has T f_is_from) (hn : Has T f_is_name) (hh : Has T f_is_reader_row) {L k : Nat} {d : PyData} (hd : okD L k d = true) (hk : k ≤ 60) {ns : List Str} (hN : SeqAt.shaped (namesD ns) = true) {size : Int}
    (hQ : Q (.fz (.bool (rowB ns size d))) [.fz d, .fz (namesD ns), .fz (.int size)]) :
    WO (callN fuel T (n + 2) "is_reader_row" [.fz d, .fz (namesD ns), .fz (.int size)]) Q := by
  refine WO_call hh rfl ?_
  rcases tuple_or d with e | ⟨ds, rfl⟩
  · have : rowB ns size d = false := by cases d <;> first | rfl | cases e
    rw [this] at hQ
    simp [f_is_reader_row, e, fin]
    exact hQ
  · cases k with
    | zero => cases hd
    | succ k =>
    rw [okD_tuple, Bool.and_eq_true, List.all_eq_true] at hd
    match ds with
    | [] => simp [f_is_reader_row, fin]; exact hQ
    | [a] =>
      have : rowB ns size (.tuple [a]) = false := by cases a <;> rfl
      rw [this] at hQ
      simp [f_is_reader_row, fin]
      exact hQ
    | a0 :: a :: r =>
      have l0 : ¬ ((r.length : Int) + 1 + 1 < 2) := by omega
      have hstr : isTy .str a0 = false ∨ ∃ w, a0 = .str w := by cases a0 <;> first | exact .inl rfl | exact .inr ⟨_, rfl⟩
      rcases hstr with e | ⟨w, rfl⟩
      · have : rowB ns size (.tuple (a0 :: a :: r)) = false := by cases a0 <;> first | rfl | cases e
        rw [this] at hQ
        simp [f_is_reader_row, l0, atI0, e, fin]
        exact hQ
      · have hw := okD_shaped (hd.2 (.str w) (by simp)) (by omega)
        have q1 : eqD (.str w) (.str "go") = some (decide (w = "go")) := eq_str hw (by decide +kernel)
        have q2 : eqD (.str w) (.str "read") = some (decide (w = "read")) := eq_str hw (by decide +kernel)
        have q3 : eqD (.str w) (.str "same") = some (decide (w = "same")) := eq_str hw (by decide +kernel)
        have q4 : inD (.str w) (.tuple [.str "is", .str "not", .str "same"]) = some (testB w) := by
          rw [inD_tuple hw (by decide +kernel)]
          simp [testB, BEq.comm, Bool.or_assoc]
        by_cases b1 : w = "go"
        · rw [decide_eq_true b1] at q1
          simp [f_is_reader_row, l0, atI0, q1]
          have e0 : rowB ns size (.tuple (.str w :: a :: r)) = (r.isEmpty && fromB a 0 size) := if_pos b1
          rw [e0] at hQ
          cases r with
          | nil =>
            simp [atI1]
            refine s_from hf ?_
            simp [fin]
            exact hQ
          | cons c r =>
            have l1 : ¬ ((r.length : Int) + 1 + 1 + 1 = 2) := by omega
            simp [l1, fin]
            exact hQ
        by_cases b2 : w = "read"
        · have e0 : rowB ns size (.tuple (.str w :: a :: r)) = readRow ns a r := (if_neg b1).trans (if_pos b2)
          rw [e0] at hQ
          rw [decide_eq_false b1] at q1
          rw [decide_eq_true b2] at q2
          simp [f_is_reader_row, l0, atI0, q1, q2]
          match r with
          | [] => simp [fin]; exact hQ
          | c :: e :: r =>
            have l1 : ¬ ((r.length : Int) + 1 + 1 + 1 + 1 = 3) := by omega
            simp [l1, fin]
            exact hQ
          | [c] =>
            have hQ : Q (.fz (.bool (strIn ns a && fromB c 0 3))) _ := hQ
            have hstr : isTy .str a = false ∨ ∃ y, a = .str y := by cases a <;> first | exact .inl rfl | exact .inr ⟨_, rfl⟩
            rcases hstr with e | ⟨y, rfl⟩
            · have : strIn ns a = false := by cases a <;> first | rfl | cases e
              rw [this] at hQ
              simp [atI1, e, fin]
              exact hQ
            · have hy := okD_shaped (hd.2 (.str y) (by simp)) (by omega)
              simp [atI1, in_names hy hN]
              cases hs : strIn ns (.str y) with
              | false =>
                rw [hs] at hQ
                simp [fin]
                exact hQ
              | true =>
                rw [hs] at hQ
                simp [atI2]
                refine s_from hf ?_
                simp [fin]
                exact hQ
        · have e0 : rowB ns size (.tuple (.str w :: a :: r)) = (if testB w = true then testRow w size a r else false) := (if_neg b1).trans (if_neg b2)
          rw [e0] at hQ
          rw [decide_eq_false b1] at q1
          rw [decide_eq_false b2] at q2
          simp [f_is_reader_row, l0, atI0, q1, q2, q4]
          by_cases b3 : testB w = true
          · rw [if_pos b3] at hQ
            simp [b3]
            match r with
            | [] => simp [fin]; exact hQ
            | [c] => simp [fin]; exact hQ
            | c :: e :: g :: r =>
              have l1 : ¬ ((r.length : Int) + 1 + 1 + 1 + 1 + 1 = 4) := by omega
              simp [l1, fin]
              exact hQ
            | [b, c] =>
              have hQ : Q (.fz (.bool (fromB a 0 3 && (if w = "same" then fromB b 0 3 else nameB b) && fromB c 0 size))) _ := hQ
              simp [atI1]
              refine s_from hf ?_
              simp
              cases ha : fromB a 0 3 with
              | false =>
                rw [ha] at hQ
                simp [fin]
                exact hQ
              | true =>
                rw [ha] at hQ
                simp [q3]
                have rest : ∀ o : Bool, o = (if w = "same" then fromB b 0 3 else nameB b) → WO (exs ⟨callN fuel T (n + 1), fuel⟩ (.cons (.ret (.and (.var 5) (.call "is_from" (.val (.ix (.var 0) (.con (.int 3))) (.val (.con (.int 0)) (.val (.var 2) .nil)))))) .nil) [.fz (.tuple [.str w, a, b, c]), .fz (namesD ns), .fz (.int size), .fz (.str w), .und, .fz (.bool o)]) (fin [.fz (.tuple [.str w, a, b, c]), .fz (namesD ns), .fz (.int size)] Q) := fun o ho => by
                  rw [← ho] at hQ
                  cases o with
                  | false => simp [fin]; exact hQ
                  | true =>
                    simp [atI3]
                    refine s_from hf ?_
                    simp [fin]
                    exact hQ
                by_cases b4 : w = "same"
                · simp only [if_pos b4]
                  simp [atI2]
                  refine s_from hf ?_
                  have := rest _ (by rw [if_pos b4])
                  simp at this ⊢
                  exact this
                · simp only [if_neg b4]
                  simp [atI2]
                  refine s_name hn (name_len (hd.2 b (by simp))) ?_
                  have := rest _ (by rw [if_neg b4])
                  simp at this ⊢
                  exact this
          · rw [if_neg b3] at hQ
            have b3 : testB w = false := by simpa using b3
            simp [b3, fin]
            exact hQ
end Y

set_option Elab.async false
set_option linter.all false
set_option maxRecDepth 100000
namespace Y
open PySem G
variable {fuel : Nat} {T : List Fn} {n : Nat} {Q : R → List Slot → Prop}
def newRow : List PyData → Bool
  | [] => true
  | _ => false
def putRow : List PyData → Bool
  | [b] => nameB b
  | _ => false
def whenRow (size : Int) : List PyData → Bool
  | [b, c] => nameB b && fromB c 0 size
  | _ => false
def swapRow (size : Int) : List PyData → Bool
  | [b, c, e] => nameB b && nameB c && fromB e 0 size
  | _ => false
def wrowB (ns : List Str) (size : Int) : PyData → Bool
  | .tuple (.str w :: a :: r) => if w = "go" then r.isEmpty && fromB a 0 size else if strIn ns a = true then (if w = "new" then newRow r else if w = "put" then putRow r else if w = "when" then whenRow size r else if w = "swap" then swapRow size r else false) else false
  | _ => false
theorem str_or (a : PyData) : isTy .str a = false ∨ ∃ y, a = .str y := by cases a <;> first | exact .inl rfl | exact .inr ⟨_, rfl⟩
theorem strIn_no {ns : List Str} {a : PyData} (h : isTy .str a = false) : strIn ns a = false := by cases a <;> first | rfl | cases h
theorem s_writer_row (hf : Has T f_is_from) (hn : Has T f_is_name) (hh : Has T f_is_writer_row) {L k : Nat} {d : PyData} (hd : okD L k d = true) (hk : k ≤ 60) {ns : List Str} (hN : SeqAt.shaped (namesD ns) = true) {size : Int}
    (hQ : Q (.fz (.bool (wrowB ns size d))) [.fz d, .fz (namesD ns), .fz (.int size)]) :
    WO (callN fuel T (n + 2) "is_writer_row" [.fz d, .fz (namesD ns), .fz (.int size)]) Q := by
  refine WO_call hh rfl ?_
  rcases tuple_or d with e | ⟨ds, rfl⟩
  · have : wrowB ns size d = false := by cases d <;> first | rfl | cases e
    rw [this] at hQ
    simp [f_is_writer_row, e, fin]
    exact hQ
  · cases k with
    | zero => cases hd
    | succ k =>
    rw [okD_tuple, Bool.and_eq_true, List.all_eq_true] at hd
    match ds with
    | [] => simp [f_is_writer_row, fin]; exact hQ
    | [a] =>
      have : wrowB ns size (.tuple [a]) = false := by cases a <;> rfl
      rw [this] at hQ
      simp [f_is_writer_row, fin]
      exact hQ
    | a0 :: a :: r =>
      have l0 : ¬ ((r.length : Int) + 1 + 1 < 2) := by omega
      rcases str_or a0 with e | ⟨w, rfl⟩
      · have : wrowB ns size (.tuple (a0 :: a :: r)) = false := by cases a0 <;> first | rfl | cases e
        rw [this] at hQ
        simp [f_is_writer_row, l0, atI0, e, fin]
        exact hQ
      · have hw := okD_shaped (hd.2 (.str w) (by simp)) (by omega)
        have q1 : eqD (.str w) (.str "go") = some (decide (w = "go")) := eq_str hw (by decide +kernel)
        have q2 : eqD (.str w) (.str "new") = some (decide (w = "new")) := eq_str hw (by decide +kernel)
        have q3 : eqD (.str w) (.str "put") = some (decide (w = "put")) := eq_str hw (by decide +kernel)
        have q4 : eqD (.str w) (.str "when") = some (decide (w = "when")) := eq_str hw (by decide +kernel)
        have q5 : eqD (.str w) (.str "swap") = some (decide (w = "swap")) := eq_str hw (by decide +kernel)
        by_cases b1 : w = "go"
        · rw [decide_eq_true b1] at q1
          simp [f_is_writer_row, l0, atI0, q1]
          have e0 : wrowB ns size (.tuple (.str w :: a :: r)) = (r.isEmpty && fromB a 0 size) := if_pos b1
          rw [e0] at hQ
          cases r with
          | nil =>
            simp [atI1]
            refine s_from hf ?_
            simp [fin]
            exact hQ
          | cons c r =>
            have l1 : ¬ ((r.length : Int) + 1 + 1 + 1 = 2) := by omega
            simp [l1, fin]
            exact hQ
        · rw [decide_eq_false b1] at q1
          have e0 : wrowB ns size (.tuple (.str w :: a :: r)) = (if strIn ns a = true then (if w = "new" then newRow r else if w = "put" then putRow r else if w = "when" then whenRow size r else if w = "swap" then swapRow size r else false) else false) := if_neg b1
          rw [e0] at hQ
          rcases str_or a with e | ⟨y, rfl⟩
          · rw [strIn_no e] at hQ
            simp [f_is_writer_row, l0, atI0, q1, atI1, e, fin]
            exact hQ
          have hy := okD_shaped (hd.2 (.str y) (by simp)) (by omega)
          cases hs : strIn ns (.str y) with
          | false =>
            rw [hs] at hQ
            simp [f_is_writer_row, l0, atI0, q1, atI1, in_names hy hN, hs, fin]
            exact hQ
          | true =>
          rw [hs, if_pos rfl] at hQ
          by_cases b2 : w = "new"
          · rw [if_pos b2] at hQ
            rw [decide_eq_true b2] at q2
            simp [f_is_writer_row, l0, atI0, q1, atI1, in_names hy hN, hs, q2]
            match r with
            | [] => simp [fin]; exact hQ
            | c :: r =>
              have l1 : ¬ ((r.length : Int) + 1 + 1 + 1 = 2) := by omega
              simp [l1, fin]
              exact hQ
          rw [if_neg b2] at hQ
          rw [decide_eq_false b2] at q2
          by_cases b3 : w = "put"
          · rw [if_pos b3] at hQ
            rw [decide_eq_true b3] at q3
            simp [f_is_writer_row, l0, atI0, q1, atI1, in_names hy hN, hs, q2, q3]
            match r with
            | [] => simp [fin]; exact hQ
            | [b] =>
              simp [atI2]
              refine s_name hn (name_len (hd.2 b (by simp))) ?_
              simp [fin]
              exact hQ
            | c :: e :: r =>
              have l1 : ¬ ((r.length : Int) + 1 + 1 + 1 + 1 = 3) := by omega
              simp [l1, fin]
              exact hQ
          rw [if_neg b3] at hQ
          rw [decide_eq_false b3] at q3
          by_cases b4 : w = "when"
          · rw [if_pos b4] at hQ
            rw [decide_eq_true b4] at q4
            simp [f_is_writer_row, l0, atI0, q1, atI1, in_names hy hN, hs, q2, q3, q4]
            match r with
            | [] => simp [fin]; exact hQ
            | [b] => simp [fin]; exact hQ
            | c :: e :: g :: r =>
              have l1 : ¬ ((r.length : Int) + 1 + 1 + 1 + 1 + 1 = 4) := by omega
              simp [l1, fin]
              exact hQ
            | [b, c] =>
              have hQ : Q (.fz (.bool (nameB b && fromB c 0 size))) _ := hQ
              simp [atI2]
              refine s_name hn (name_len (hd.2 b (by simp))) ?_
              simp
              cases hb : nameB b with
              | false =>
                rw [hb] at hQ
                simp [fin]
                exact hQ
              | true =>
                rw [hb] at hQ
                simp [atI3]
                refine s_from hf ?_
                simp [fin]
                exact hQ
          rw [if_neg b4] at hQ
          rw [decide_eq_false b4] at q4
          by_cases b5 : w = "swap"
          · rw [if_pos b5] at hQ
            rw [decide_eq_true b5] at q5
            simp [f_is_writer_row, l0, atI0, q1, atI1, in_names hy hN, hs, q2, q3, q4, q5]
            match r with
            | [] => simp [fin]; exact hQ
            | [b] => simp [fin]; exact hQ
            | [b, c] => simp [fin]; exact hQ
            | c :: e :: g :: g2 :: r =>
              have l1 : ¬ ((r.length : Int) + 1 + 1 + 1 + 1 + 1 + 1 = 5) := by omega
              simp [l1, fin]
              exact hQ
            | [b, c, g] =>
              have hQ : Q (.fz (.bool (nameB b && nameB c && fromB g 0 size))) _ := hQ
              simp [atI2]
              refine s_name hn (name_len (hd.2 b (by simp))) ?_
              simp
              cases hb : nameB b with
              | false =>
                rw [hb] at hQ
                simp [fin]
                exact hQ
              | true =>
                rw [hb] at hQ
                simp [atI3]
                refine s_name hn (name_len (hd.2 c (by simp))) ?_
                simp
                cases hc : nameB c with
                | false =>
                  rw [hc] at hQ
                  simp [fin]
                  exact hQ
                | true =>
                  rw [hc] at hQ
                  simp [atI4]
                  refine s_from hf ?_
                  simp [fin]
                  exact hQ
          · rw [if_neg b5] at hQ
            rw [decide_eq_false b5] at q5
            simp [f_is_writer_row, l0, atI0, q1, atI1, in_names hy hN, hs, q2, q3, q4, q5, fin]
            exact hQ
end Y

set_option Elab.async false
set_option linter.all false
set_option maxRecDepth 100000
namespace Y
open PySem G
variable {fuel : Nat} {T : List Fn} {n : Nat} {Q : R → List Slot → Prop}
def readerB (ns : List Str) : PyData → Bool
  | .tuple rs => decide (1 ≤ rs.length) && decide (rs.length ≤ 10) && rs.all (rowB ns rs.length)
  | _ => false
def writerB (ns : List Str) : PyData → Bool
  | .tuple rs => decide (1 ≤ rs.length) && decide (rs.length ≤ 6) && rs.all (wrowB ns rs.length)
  | _ => false
theorem all_bools {α : Type} (f : α → Bool) (l : List α) : (l.map f).all id = l.all f := by rw [List.all_map]; rfl
theorem map_bools (f : PyData → Bool) (l : List PyData) : l.map (fun x => PyData.bool (f x)) = (l.map f).map .bool := by rw [List.map_map]; rfl
theorem s_reader (hf : Has T f_is_from) (hn : Has T f_is_name) (hr : Has T f_is_reader_row) (hh : Has T f_is_reader) {L k : Nat} {d : PyData} (hd : okD L k d = true) (hk : k ≤ 60) {ns : List Str} (hN : SeqAt.shaped (namesD ns) = true)
    (hQ : Q (.fz (.bool (readerB ns d))) [.fz d, .fz (namesD ns)]) : WO (callN fuel T (n + 3) "is_reader" [.fz d, .fz (namesD ns)]) Q := by
  refine WO_call hh rfl ?_
  rcases tuple_or d with e | ⟨rs, rfl⟩
  · have : readerB ns d = false := by cases d <;> first | rfl | cases e
    rw [this] at hQ
    simp [f_is_reader, e, fin]
    exact hQ
  · cases k with
    | zero => cases hd
    | succ k =>
    rw [okD_tuple, Bool.and_eq_true, List.all_eq_true] at hd
    have e1 : readerB ns (.tuple rs) = (decide (1 ≤ rs.length) && decide (rs.length ≤ 10) && rs.all (rowB ns rs.length)) := rfl
    rw [e1] at hQ
    by_cases h1 : 1 ≤ rs.length
    · by_cases h2 : rs.length ≤ 10
      · have i1 : (1 : Int) ≤ rs.length := by omega
        have i2 : (rs.length : Int) ≤ 10 := by omega
        rw [decide_eq_true h1, decide_eq_true h2, Bool.true_and, Bool.true_and] at hQ
        simp [f_is_reader, i1, i2]
        refine W_pure (fun r => some (.bool (rowB ns rs.length r))) (fun r hr' => ?_) ?_
        · simp [cturn_app]
          refine s_reader_row hf hn hr (hd.2 r hr') (by omega) hN ?_
          simp
        · rw [fm_some]
          refine ⟨by rw [List.length_map]; show _ ≤ 16777216; omega, ?_⟩
          rw [map_bools]
          simp only [WO_ret, WO_bndc, rdata_own, data_lst, evOs_nil, gets_cons, gets_nil, get_d, bi_all, allB_map, all_bools]
          simp [fin]
          exact hQ
      · have i1 : (1 : Int) ≤ rs.length := by omega
        have i2 : ¬ (rs.length : Int) ≤ 10 := by omega
        rw [decide_eq_false h2, Bool.and_false, Bool.false_and] at hQ
        simp [f_is_reader, i1, i2, fin]
        exact hQ
    · have i1 : ¬ (1 : Int) ≤ rs.length := by omega
      rw [decide_eq_false h1, Bool.false_and, Bool.false_and] at hQ
      simp [f_is_reader, i1, fin]
      exact hQ
theorem s_writer (hf : Has T f_is_from) (hn : Has T f_is_name) (hr : Has T f_is_writer_row) (hh : Has T f_is_writer) {L k : Nat} {d : PyData} (hd : okD L k d = true) (hk : k ≤ 60) {ns : List Str} (hN : SeqAt.shaped (namesD ns) = true)
    (hQ : Q (.fz (.bool (writerB ns d))) [.fz d, .fz (namesD ns)]) : WO (callN fuel T (n + 3) "is_writer" [.fz d, .fz (namesD ns)]) Q := by
  refine WO_call hh rfl ?_
  rcases tuple_or d with e | ⟨rs, rfl⟩
  · have : writerB ns d = false := by cases d <;> first | rfl | cases e
    rw [this] at hQ
    simp [f_is_writer, e, fin]
    exact hQ
  · cases k with
    | zero => cases hd
    | succ k =>
    rw [okD_tuple, Bool.and_eq_true, List.all_eq_true] at hd
    have e1 : writerB ns (.tuple rs) = (decide (1 ≤ rs.length) && decide (rs.length ≤ 6) && rs.all (wrowB ns rs.length)) := rfl
    rw [e1] at hQ
    by_cases h1 : 1 ≤ rs.length
    · by_cases h2 : rs.length ≤ 6
      · have i1 : (1 : Int) ≤ rs.length := by omega
        have i2 : (rs.length : Int) ≤ 6 := by omega
        rw [decide_eq_true h1, decide_eq_true h2, Bool.true_and, Bool.true_and] at hQ
        simp [f_is_writer, i1, i2]
        refine W_pure (fun r => some (.bool (wrowB ns rs.length r))) (fun r hr' => ?_) ?_
        · simp [cturn_app]
          refine s_writer_row hf hn hr (hd.2 r hr') (by omega) hN ?_
          simp
        · rw [fm_some]
          refine ⟨by rw [List.length_map]; show _ ≤ 16777216; omega, ?_⟩
          rw [map_bools]
          simp only [WO_ret, WO_bndc, rdata_own, data_lst, evOs_nil, gets_cons, gets_nil, get_d, bi_all, allB_map, all_bools]
          simp [fin]
          exact hQ
      · have i1 : (1 : Int) ≤ rs.length := by omega
        have i2 : ¬ (rs.length : Int) ≤ 6 := by omega
        rw [decide_eq_false h2, Bool.and_false, Bool.false_and] at hQ
        simp [f_is_writer, i1, i2, fin]
        exact hQ
    · have i1 : ¬ (1 : Int) ≤ rs.length := by omega
      rw [decide_eq_false h1, Bool.false_and, Bool.false_and] at hQ
      simp [f_is_writer, i1, fin]
      exact hQ
/-! ### answers -/
def pairB (ns : List Str) : PyData → Bool
  | .tuple [a, b] => strIn ns a && fromB b 0 3
  | _ => false
def answerB (ns : List Str) : PyData → Bool
  | .tuple ps => !ps.isEmpty && ps.all (pairB ns) && rises (ps.map headS)
  | _ => false
theorem pair_turn {Γ : Gam} (hΓ : Γ = ⟨callN fuel T (n + 1), fuel⟩) (hf : Has T f_is_from) {L k : Nat} {c v : PyData} (hc : okD L k c = true) (hk : k ≤ 60) {ns : List Str} (hN : SeqAt.shaped (namesD ns) = true) {P : Fl → Rho → Prop}
    (hQ : P (if pairB ns c then .nx else .rt (.fz (.bool false))) [.fz v, .fz (namesD ns), .fz c]) :
    WO (exs Γ (match f_is_answer.body with | .cons _ (.cons (.frr _ _ b) _) => b | _ => .nil) [.fz v, .fz (namesD ns), .fz c]) P := by
  subst hΓ
  rcases tuple_or c with e | ⟨ds, rfl⟩
  · have : pairB ns c = false := by cases c <;> first | rfl | cases e
    rw [this] at hQ
    simp [f_is_answer, e]
    exact hQ
  · cases k with
    | zero => cases hc
    | succ k =>
    rw [okD_tuple, Bool.and_eq_true, List.all_eq_true] at hc
    match ds with
    | [] => simp [f_is_answer]; exact hQ
    | [a] => simp [f_is_answer]; exact hQ
    | a :: b :: z :: r =>
      have : ¬ ((r.length : Int) + 1 + 1 + 1 = 2) := by omega
      simp [f_is_answer, this]
      exact hQ
    | [a, b] =>
      have e1 : pairB ns (.tuple [a, b]) = (strIn ns a && fromB b 0 3) := rfl
      rw [e1] at hQ
      rcases str_or a with e | ⟨y, rfl⟩
      · rw [strIn_no e] at hQ
        simp [f_is_answer, atI0, e]
        exact hQ
      · have hy := okD_shaped (hc.2 (.str y) (by simp)) (by omega)
        cases hs : strIn ns (.str y) with
        | false =>
          rw [hs] at hQ
          simp [f_is_answer, atI0, in_names hy hN, hs]
          exact hQ
        | true =>
          rw [hs] at hQ
          simp [f_is_answer, atI0, in_names hy hN, hs, atI1]
          refine s_from hf ?_
          simp
          cases hb : fromB b 0 3 <;> (rw [hb] at hQ; simp; exact hQ)
def AnsI (v nd : PyData) (ns : List Str) (cs ds : List PyData) (ρ : Rho) : Prop := ∃ pre s1, cs = pre ++ ds ∧ pre.all (pairB ns) = true ∧ ρ = [.fz v, .fz nd, s1]
theorem pairs_names {ns : List Str} : ∀ {cs : List PyData}, cs.all (pairB ns) = true → ∀ c ∈ cs, ∃ x b, c = .tuple [.str x, b] := fun {cs} h c hc => by
  have h := List.all_eq_true.mp h c hc
  unfold pairB at h
  split at h
  · rename_i a b
    rw [Bool.and_eq_true] at h
    cases a with
    | str x => exact ⟨x, b, rfl⟩
    | _ => cases h.1
  · cases h
def headG : PyData → Option PyData := fun c => match c with
  | .tuple (.str x :: _) => some (.str x)
  | _ => none
theorem heads_fm : ∀ {l : List PyData}, (∀ c ∈ l, ∃ x b, c = .tuple [.str x, b]) → l.filterMap headG = (l.map headS).map .str
  | [], _ => rfl
  | c :: l, h => by
    obtain ⟨x, b, rfl⟩ := h c (by simp)
    simp only [List.filterMap_cons, List.map_cons, heads_fm fun c hc => h c (List.mem_cons_of_mem _ hc)]
    rfl
theorem s_answer (hr : Has T f_is_rising) (hf : Has T f_is_from) (hh : Has T f_is_answer) {L k : Nat} {d : PyData} (hd : okD L k d = true) (hk : k ≤ 60) (hL : L ≤ 1000000) {ns : List Str} (hN : SeqAt.shaped (namesD ns) = true)
    (hQ : Q (.fz (.bool (answerB ns d))) [.fz d, .fz (namesD ns)]) : WO (callN fuel T (n + 2) "is_answer" [.fz d, .fz (namesD ns)]) Q := by
  refine WO_call hh rfl ?_
  rcases tuple_or d with e | ⟨cs, rfl⟩
  · have : answerB ns d = false := by cases d <;> first | rfl | cases e
    rw [this] at hQ
    simp [f_is_answer, e, fin]
    exact hQ
  · cases k with
    | zero => cases hd
    | succ k =>
    rw [okD_tuple, Bool.and_eq_true, decide_eq_true_eq, List.all_eq_true] at hd
    have e1 : answerB ns (.tuple cs) = (!cs.isEmpty && cs.all (pairB ns) && rises (cs.map headS)) := rfl
    rw [e1] at hQ
    by_cases h0 : cs = []
    · subst h0
      simp [f_is_answer, fin]
      exact hQ
    have hemp : cs.isEmpty = false := by cases cs <;> first | rfl | exact absurd rfl h0
    rw [hemp, Bool.not_false, Bool.true_and] at hQ
    simp [f_is_answer, h0]
    refine W_for (AnsI (.tuple cs) (namesD ns) ns cs) (fun c ds ρ hI => ?_) (fun ρ hI => ?_) _ _ ⟨[], .und, rfl, rfl, rfl⟩
    · obtain ⟨pre, s1, e, hp, rfl⟩ := hI
      have hc : okD L k c = true := hd.2 c (by rw [e]; simp)
      rw [WO_turn_nm]
      refine ⟨by simp, pair_turn (n := n) rfl hf hc (by omega) hN ?_⟩
      cases hb : pairB ns c with
      | true =>
        simp
        exact ⟨pre ++ [c], .fz c, by rw [e]; simp, by rw [List.all_append, hp]; simp [hb], rfl⟩
      | false =>
        have hall : cs.all (pairB ns) = false := by rw [e, List.all_append, List.all_cons, hb]; simp
        rw [hall, Bool.false_and] at hQ
        simp [fin]
        exact hQ
    · obtain ⟨pre, s1, e, hp, rfl⟩ := hI
      rw [List.append_nil] at e
      subst e
      rw [hp, Bool.true_and] at hQ
      simp
      refine W_pure headG (fun c hc => ?_) ?_
      · obtain ⟨x, b, rfl⟩ := pairs_names hp c hc
        simp [cturn_app, atI0, headG]
      · rw [heads_fm (pairs_names hp)]
        refine ⟨?_, ?_⟩
        · simp
          show _ ≤ 16777216
          omega
        · simp
          refine s_rising hr (xs := cs.map headS) (.inl (by simp)) (by rw [List.length_map]; show _ ≤ 16777216; omega) ?_
          simp [fin]
          exact hQ
end Y

set_option Elab.async false
set_option linter.all false
set_option maxRecDepth 100000
namespace Y
open PySem G
variable {fuel : Nat} {T : List Fn} {n : Nat} {Q : R → List Slot → Prop}
def itemsD : PyData → List PyData
  | .tuple ds => ds
  | .list ds => ds
  | _ => []
def namesOf (d : PyData) : List Str := (itemsD d).map headS
theorem shaped_names {L k : Nat} {cs : List PyData} (hcs : cs.all (okD L (k + 1)) = true) (h : ∀ c ∈ cs, ∃ x b, c = .tuple [.str x, b]) : SeqAt.shaped (namesD (cs.map headS)) = true := by
  have hx : ∀ d ∈ (cs.map headS).map PyData.str, d.canLay0 = true ∧ d.depth ≤ 0 := fun d hd => by
    obtain ⟨x, hx, rfl⟩ := List.mem_map.mp hd
    obtain ⟨c, hc, rfl⟩ := List.mem_map.mp hx
    obtain ⟨y, b, rfl⟩ := h c hc
    have := List.all_eq_true.mp hcs _ hc
    rw [okD_tuple, Bool.and_eq_true, List.all_eq_true] at this
    exact ⟨(okD_lay (this.2 (.str y) (by simp))).1, Nat.le_refl _⟩
  obtain ⟨h1, h2⟩ := canLayAll_of hx
  unfold SeqAt.shaped namesD
  rw [Bool.and_eq_true, decide_eq_true_eq]
  refine ⟨h1, ?_⟩
  show PyData.depthAll _ + 1 ≤ 64
  omega
theorem s_names_of (hh : Has T f_names_of) {cs : List PyData} (h : ∀ c ∈ cs, ∃ x b, c = .tuple [.str x, b]) (hl : cs.length ≤ lim) (hQ : Q (.own (.lst ((cs.map headS).map .str))) [.fz (.tuple cs)]) :
    WO (callN fuel T (n + 1) "names_of" [.fz (.tuple cs)]) Q := by
  refine WO_call hh rfl ?_
  simp [f_names_of]
  refine W_pure headG (fun c hc => ?_) ?_
  · obtain ⟨x, b, rfl⟩ := h c hc
    simp [cturn_app, atI0, headG]
  · rw [heads_fm h]
    refine ⟨by simp; exact hl, ?_⟩
    simp [fin]
    simpa using hQ
def writersB (ns : List Str) : PyData → Bool
  | .tuple ws => decide (ws.length ≤ 3) && ws.all (writerB ns)
  | _ => false
def sysB : PyData → Bool
  | .tuple [c, r, a, w] => cellsB c && (readerB (namesOf c) r && answerB (namesOf c) a) && writersB (namesOf c) w
  | _ => false
theorem s_system (hr : Has T f_is_rising) (hf : Has T f_is_from) (hn : Has T f_is_name) (hc : Has T f_are_cells) (ho : Has T f_names_of) (hrr : Has T f_is_reader_row) (hrd : Has T f_is_reader) (hwr : Has T f_is_writer_row) (hwd : Has T f_is_writer) (ha : Has T f_is_answer) (hh : Has T f_is_system)
    {L k : Nat} {d : PyData} (hd : okD L k d = true) (hk : k ≤ 60) (hL : L ≤ 1000000) (hQ : Q (.fz (.bool (sysB d))) [.fz d]) : WO (callN fuel T (n + 4) "is_system" [.fz d]) Q := by
  refine WO_call hh rfl ?_
  rcases tuple_or d with e | ⟨ds, rfl⟩
  · have : sysB d = false := by cases d <;> first | rfl | cases e
    rw [this] at hQ
    simp [f_is_system, e, fin]
    exact hQ
  · cases k with
    | zero => cases hd
    | succ k =>
    rw [okD_tuple, Bool.and_eq_true, decide_eq_true_eq, List.all_eq_true] at hd
    match ds with
    | [] => simp [f_is_system, fin]; exact hQ
    | [_] => simp [f_is_system, fin]; exact hQ
    | [_, _] => simp [f_is_system, fin]; exact hQ
    | [_, _, _] => simp [f_is_system, fin]; exact hQ
    | _ :: _ :: _ :: _ :: _ :: r =>
      have : ¬ ((r.length : Int) + 1 + 1 + 1 + 1 + 1 = 4) := by omega
      simp [f_is_system, this, fin]
      exact hQ
    | [c, r, a, w] =>
      have okc := hd.2 c (by simp)
      simp [f_is_system, atI0]
      refine s_cells hr hn hc (n := n + 1) okc ?_
      simp
      have e1 : sysB (.tuple [c, r, a, w]) = (cellsB c && (readerB (namesOf c) r && answerB (namesOf c) a) && writersB (namesOf c) w) := rfl
      rw [e1] at hQ
      cases hcb : cellsB c with
      | false =>
        rw [hcb, Bool.false_and, Bool.false_and] at hQ
        simp [fin]
        exact hQ
      | true =>
        rw [hcb, Bool.true_and] at hQ
        simp [atI0]
        rcases tuple_or c with e | ⟨cs, rfl⟩
        · exfalso
          have : cellsB c = false := by cases c <;> first | rfl | cases e
          rw [this] at hcb; cases hcb
        cases k with
        | zero => cases okc
        | succ k =>
        rw [okD_tuple, Bool.and_eq_true, decide_eq_true_eq] at okc
        have hcells : cs.all cellB = true := by
          have : (decide (1 ≤ cs.length) && decide (cs.length ≤ 3) && cs.all cellB && rises (cs.map headS)) = true := hcb
          simp only [Bool.and_eq_true] at this
          exact this.1.2
        have hpr := cells_names hcells
        cases k with
        | zero =>
          exfalso
          match cs with
          | [] => cases hcb
          | c0 :: cs =>
            obtain ⟨x, b, rfl⟩ := hpr c0 (by simp)
            have := okc.2
            rw [List.all_cons, Bool.and_eq_true] at this
            cases this.1
        | succ k =>
        have hN : SeqAt.shaped (namesD (cs.map headS)) = true := shaped_names okc.2 hpr
        refine s_names_of ho (n := n + 2) hpr (Nat.le_trans (Nat.le_trans okc.1 hL) (by decide)) ?_
        simp [atI1]
        have en : PyData.list (List.map (PyData.str ∘ headS) cs) = namesD (cs.map headS) := by unfold namesD; rw [List.map_map]
        have eo : namesOf (.tuple cs) = cs.map headS := rfl
        rw [eo] at hQ
        rw [en]
        refine s_reader hf hn hrr hrd (n := n) (hd.2 r (by simp)) (by omega) hN ?_
        simp
        cases hrb : readerB (cs.map headS) r with
        | false =>
          rw [hrb, Bool.false_and, Bool.false_and] at hQ
          simp [fin]
          exact hQ
        | true =>
          rw [hrb, Bool.true_and] at hQ
          simp [atI2]
          refine s_answer hr hf ha (n := n + 1) (hd.2 a (by simp)) (by omega) hL hN ?_
          simp
          cases hab : answerB (cs.map headS) a with
          | false =>
            rw [hab, Bool.false_and] at hQ
            simp [fin]
            exact hQ
          | true =>
            rw [hab, Bool.true_and] at hQ
            simp [atI3]
            rcases tuple_or w with e | ⟨ws, rfl⟩
            · have : writersB (cs.map headS) w = false := by cases w <;> first | rfl | cases e
              rw [this] at hQ
              simp [e, fin]
              exact hQ
            have hQ : Q (.fz (.bool (decide (ws.length ≤ 3) && ws.all (writerB (cs.map headS))))) _ := hQ
            simp [atI3]
            by_cases h3 : ws.length ≤ 3
            · have i3 : ¬ (3 : Int) < ws.length := by omega
              rw [decide_eq_true h3, Bool.true_and] at hQ
              have okw := hd.2 (.tuple ws) (by simp)
              rw [okD_tuple, Bool.and_eq_true, List.all_eq_true] at okw
              simp [i3, atI3]
              refine W_pure (fun r => some (.bool (writerB (cs.map headS) r))) (fun r hr' => ?_) ?_
              · simp [cturn_app]
                refine s_writer hf hn hwr hwd (n := n) (okw.2 r hr') (by omega) hN ?_
                simp
              · rw [fm_some]
                refine ⟨by rw [List.length_map]; show _ ≤ 16777216; omega, ?_⟩
                rw [map_bools]
                simp only [WO_ret, WO_bndc, rdata_own, data_lst, evOs_nil, gets_cons, gets_nil, get_d, bi_all, allB_map, all_bools]
                simp [fin]
                exact hQ
            · have i3 : (3 : Int) < ws.length := by omega
              rw [decide_eq_false h3, Bool.false_and] at hQ
              simp [i3, fin]
              exact hQ
end Y

set_option Elab.async false
set_option linter.all false
set_option maxRecDepth 100000
namespace Y
open PySem G
variable {fuel : Nat} {T : List Fn} {n : Nat} {Q : R → List Slot → Prop}
def numG : PyData → Option PyData := fun p => match p with
  | .tuple [i, .tuple (.str w :: _)] => if testB w then some i else none
  | _ => none
def testNums (rs : List PyData) : List PyData := (enuD 0 rs).filterMap numG
theorem enuD_mem : ∀ {rs : List PyData} {k : Nat} {p : PyData}, p ∈ enuD k rs → ∃ (i : Int) (r : PyData), r ∈ rs ∧ p = .tuple [.int i, r]
  | r :: rs, k, p, h => by
    rcases List.mem_cons.mp h with rfl | h
    · exact ⟨_, r, by simp, rfl⟩
    · obtain ⟨i, r', h1, h2⟩ := enuD_mem h
      exact ⟨i, r', List.mem_cons_of_mem _ h1, h2⟩
theorem rows_strs {ns : List Str} {size : Int} {rs : List PyData} (h : rs.all (rowB ns size) = true) : ∀ r ∈ rs, ∃ w q, r = .tuple (.str w :: q) := fun r hr => by
  have h := List.all_eq_true.mp h r hr
  unfold rowB at h
  split at h
  · exact ⟨_, _, rfl⟩
  · cases h
theorem s_is_test (hh : Has T f_is_test) {w : Str} {q : List PyData} (hw : SeqAt.shaped (.str w) = true) (hQ : Q (.fz (.bool (testB w))) [.fz (.tuple (.str w :: q))]) : WO (callN fuel T (n + 1) "is_test" [.fz (.tuple (.str w :: q))]) Q := by
  refine WO_call hh rfl ?_
  have q4 : inD (.str w) (.tuple [.str "is", .str "not", .str "same"]) = some (testB w) := by
    rw [inD_tuple hw (by decide +kernel)]
    simp [testB, BEq.comm, Bool.or_assoc]
  simp [f_is_test, atI0, q4, fin]
  exact hQ
theorem enuD_length : ∀ {rs : List PyData} {k : Nat}, (enuD k rs).length = rs.length
  | [], _ => rfl
  | _ :: rs, k => congrArg (· + 1) (enuD_length (rs := rs) (k := k + 1))
theorem s_test_rows (ht : Has T f_is_test) (hh : Has T f_test_rows) {c a w : PyData} {rs : List PyData} (hrs : ∀ r ∈ rs, ∃ w q, r = .tuple (.str w :: q) ∧ SeqAt.shaped (.str w) = true) (hl : rs.length ≤ lim)
    (hQ : Q (.own (.lst (testNums rs))) [.fz (.tuple [c, .tuple rs, a, w])]) : WO (callN fuel T (n + 2) "test_rows" [.fz (.tuple [c, .tuple rs, a, w])]) Q := by
  refine WO_call hh rfl ?_
  simp [f_test_rows, atI1]
  refine W_pure numG (fun p hp => ?_) ?_
  · obtain ⟨i, r, hr, rfl⟩ := enuD_mem hp
    obtain ⟨w, q, rfl, hw⟩ := hrs r hr
    simp [cturn_app]
    refine s_is_test ht hw ?_
    simp
    cases hb : testB w <;> simp [numG, hb]
  · have : ((enuD 0 rs).filterMap numG).length ≤ lim := Nat.le_trans (List.length_filterMap_le _ _) (by rw [enuD_length]; exact hl)
    refine ⟨this, ?_⟩
    simp [fin]
    exact hQ
structure SysH (T : List Fn) : Prop where
  ri : Has T f_is_rising
  fr : Has T f_is_from
  nm : Has T f_is_name
  ce : Has T f_are_cells
  no : Has T f_names_of
  rr : Has T f_is_reader_row
  rd : Has T f_is_reader
  wr : Has T f_is_writer_row
  wd : Has T f_is_writer
  an : Has T f_is_answer
  sy : Has T f_is_system
theorem SysH.sys (S : SysH T) {L k : Nat} {d : PyData} (hd : okD L k d = true) (hk : k ≤ 60) (hL : L ≤ 1000000) (hQ : Q (.fz (.bool (sysB d))) [.fz d]) : WO (callN fuel T (n + 4) "is_system" [.fz d]) Q :=
  s_system S.ri S.fr S.nm S.ce S.no S.rr S.rd S.wr S.wd S.an S.sy hd hk hL hQ
theorem s_need_system (S : SysH T) (hh : Has T f_need_system) {L k : Nat} {d : PyData} (hd : okD L k d = true) (hk : k ≤ 60) (hL : L ≤ 1000000) (hs : sysB d = true) (hQ : Q (.fz .none) [.fz d]) : WO (callN fuel T (n + 5) "need_system" [.fz d]) Q := by
  refine WO_call hh rfl ?_
  simp [f_need_system]
  refine S.sys (n := n) hd hk hL ?_
  simp [hs, fin]
  exact hQ
theorem sys_parts {d : PyData} (h : sysB d = true) : ∃ c rs a w, d = .tuple [c, .tuple rs, a, w] ∧ cellsB c = true ∧ rs.length ≤ 10 ∧ rs.all (rowB (namesOf c) rs.length) = true := by
  unfold sysB at h
  split at h
  · rename_i c r a w
    simp only [Bool.and_eq_true] at h
    obtain ⟨⟨h1, h2, h3⟩, h4⟩ := h
    unfold readerB at h2
    split at h2
    · rename_i rs
      simp only [Bool.and_eq_true, decide_eq_true_eq] at h2
      exact ⟨c, rs, a, w, rfl, h1, h2.1.2, h2.2⟩
    · cases h2
  · cases h
theorem sys_rows {L k : Nat} {c a w : PyData} {rs : List PyData} (hd : okD L k (.tuple [c, .tuple rs, a, w]) = true) (hk : k ≤ 60) {ns : List Str} {size : Int} (h : rs.all (rowB ns size) = true) : ∀ r ∈ rs, ∃ w q, r = .tuple (.str w :: q) ∧ SeqAt.shaped (.str w) = true := fun r hr => by
  obtain ⟨w, q, rfl⟩ := rows_strs h r hr
  refine ⟨w, q, rfl, ?_⟩
  cases k with
  | zero => cases hd
  | succ k =>
  rw [okD_tuple, Bool.and_eq_true, List.all_eq_true] at hd
  have h1 := hd.2 (.tuple rs) (by simp)
  cases k with
  | zero => cases h1
  | succ k =>
  rw [okD_tuple, Bool.and_eq_true, List.all_eq_true] at h1
  have h2 := h1.2 _ hr
  cases k with
  | zero => cases h2
  | succ k =>
  rw [okD_tuple, Bool.and_eq_true, List.all_eq_true] at h2
  exact okD_shaped (h2.2 (.str w) (by simp)) (by omega)
theorem s_tests_of (S : SysH T) (hn : Has T f_need_system) (ht : Has T f_is_test) (hr : Has T f_test_rows) (hh : Has T f_tests_of) {L k : Nat} {c a w : PyData} {rs : List PyData} (hd : okD L k (.tuple [c, .tuple rs, a, w]) = true) (hk : k ≤ 60) (hL : L ≤ 1000000)
    (hs : sysB (.tuple [c, .tuple rs, a, w]) = true) (hrs : ∀ r ∈ rs, ∃ w q, r = .tuple (.str w :: q) ∧ SeqAt.shaped (.str w) = true) (hl : rs.length ≤ lim) (hQ : Q (.own (.lst (testNums rs))) [.fz (.tuple [c, .tuple rs, a, w])]) :
    WO (callN fuel T (n + 6) "tests_of" [.fz (.tuple [c, .tuple rs, a, w])]) Q := by
  refine WO_call hh rfl ?_
  simp [f_tests_of]
  refine s_need_system S hn (n := n) hd hk hL hs ?_
  simp
  refine s_test_rows ht hr (n := n + 3) hrs hl ?_
  simp [fin]
  exact hQ
end Y

set_option Elab.async false
set_option linter.all false
set_option maxRecDepth 100000
namespace Y
open PySem
namespace G
def f__law_words : Fn := ⟨"_law_words", 1, ["source"], (.cons (.ret (.call "_law_choice" (.mut 0 (.val (.lst (.cons (.con (.str "amid")) (.cons (.con (.str "amid")) (.cons (.con (.str "free")) (.cons (.con (.str "x")) (.cons (.con (.str "zzzzzzzz")) .nil)))))) .nil)))) .nil)⟩
def f__law_test : Fn := ⟨"_law_test", 3, ["source", "size", "back", "word", "other"], (.cons (.set 3 (.call "_law_choice" (.mut 0 (.val (.lst (.cons (.con (.str "same")) (.cons (.con (.str "same")) (.cons (.con (.str "is")) (.cons (.con (.str "not")) .nil))))) .nil)))) (.cons (.set 4 (.ife (.cmp .eq (.var 3) (.con (.str "same"))) (.call "_law_draw" (.mut 0 (.val (.con (.int 4)) .nil))) (.call "_law_words" (.mut 0 .nil)))) (.cons (.ret (.tup (.cons (.var 3) (.cons (.call "_law_draw" (.mut 0 (.val (.con (.int 4)) .nil))) (.cons (.var 4) (.cons (.ife (.var 2) (.con (.int 0)) (.call "_law_draw" (.mut 0 (.val (.bin .add (.var 1) (.con (.int 1))) .nil)))) .nil)))))) .nil)))⟩
def f__law_reader : Fn := ⟨"_law_reader", 3, ["source", "names", "most", "size", "rows", "number", "way"], (.cons (.par [3, 4] (.cons (.bin .add (.con (.int 1)) (.call "_law_draw" (.mut 0 (.val (.var 2) .nil)))) (.cons (.lst .nil) .nil))) (.cons (.frr (.nm 5) (.rng1 (.var 3)) (.cons (.set 6 (.call "_law_draw" (.mut 0 (.val (.con (.int 8)) .nil)))) (.cons (.ife (.cmp .lt (.var 6) (.con (.int 5))) (.cons (.app 4 (.tup (.cons (.con (.str "read")) (.cons (.call "_law_choice" (.mut 0 (.val (.var 1) .nil))) (.cons (.call "_law_draw" (.mut 0 (.val (.con (.int 4)) .nil))) .nil))))) .nil) (.cons (.ife (.cmp .lt (.var 6) (.con (.int 7))) (.cons (.app 4 (.call "_law_test" (.mut 0 (.val (.var 3) (.val (.cmp .eq (.call "_law_draw" (.mut 0 (.val (.con (.int 2)) .nil))) (.con (.int 0))) .nil))))) .nil) (.cons (.app 4 (.tup (.cons (.con (.str "go")) (.cons (.ife (.cmp .gt (.call "_law_draw" (.mut 0 (.val (.con (.int 3)) .nil))) (.con (.int 0))) (.bin .add (.var 5) (.con (.int 1))) (.call "_law_draw" (.mut 0 (.val (.bin .add (.var 3) (.con (.int 1))) .nil)))) .nil)))) .nil)) .nil)) .nil))) (.cons (.ret (.bi .tuple (.cons (.var 4) .nil))) .nil)))⟩
def f__law_writer_row : Fn := ⟨"_law_writer_row", 3, ["source", "names", "size", "cell", "way"], (.cons (.par [3, 4] (.cons (.call "_law_choice" (.mut 0 (.val (.var 1) .nil))) (.cons (.call "_law_draw" (.mut 0 (.val (.con (.int 10)) .nil))) .nil))) (.cons (.ife (.cmp .lt (.var 4) (.con (.int 4))) (.cons (.ret (.tup (.cons (.con (.str "new")) (.cons (.var 3) .nil)))) .nil) .nil) (.cons (.ife (.cmp .lt (.var 4) (.con (.int 7))) (.cons (.ret (.tup (.cons (.con (.str "put")) (.cons (.var 3) (.cons (.call "_law_words" (.mut 0 .nil)) .nil))))) .nil) .nil) (.cons (.ife (.cmp .eq (.var 4) (.con (.int 7))) (.cons (.ret (.tup (.cons (.con (.str "when")) (.cons (.var 3) (.cons (.call "_law_words" (.mut 0 .nil)) (.cons (.call "_law_draw" (.mut 0 (.val (.bin .add (.var 2) (.con (.int 1))) .nil))) .nil)))))) .nil) .nil) (.cons (.ife (.cmp .eq (.var 4) (.con (.int 8))) (.cons (.ret (.tup (.cons (.con (.str "swap")) (.cons (.var 3) (.cons (.call "_law_words" (.mut 0 .nil)) (.cons (.call "_law_words" (.mut 0 .nil)) (.cons (.call "_law_draw" (.mut 0 (.val (.bin .add (.var 2) (.con (.int 1))) .nil))) .nil))))))) .nil) .nil) (.cons (.ret (.tup (.cons (.con (.str "go")) (.cons (.call "_law_draw" (.mut 0 (.val (.bin .add (.var 2) (.con (.int 1))) .nil))) .nil)))) .nil))))))⟩
def f__law_writer : Fn := ⟨"_law_writer", 3, ["source", "names", "most", "size", "number"], (.cons (.set 3 (.bin .add (.con (.int 1)) (.call "_law_draw" (.mut 0 (.val (.var 2) .nil))))) (.cons (.ret (.bi .tuple (.cons (.lc [4] (.nm 4) (.rng1 (.var 3)) .nil (.call "_law_writer_row" (.mut 0 (.val (.var 1) (.val (.var 3) .nil))))) .nil))) .nil))⟩
def f__law_cells : Fn := ⟨"_law_cells", 2, ["source", "most", "names", "some", "name"], (.cons (.set 2 (.call "_law_choice" (.mut 0 (.val (.lst (.cons (.lst (.cons (.con (.str "n")) (.cons (.con (.str "x")) (.cons (.con (.str "y")) .nil)))) (.cons (.lst (.cons (.con (.str "a")) (.cons (.con (.str "aa")) (.cons (.con (.str "zzzzzzzz")) .nil)))) (.cons (.lst (.cons (.con (.str "is")) (.cons (.con (.str "read")) (.cons (.con (.str "same")) .nil)))) .nil)))) .nil)))) (.cons (.set 3 (.lc [4] (.nm 4) (.seq (.sl (.var 2) .none (.some (.var 1)))) (.cons (.cmp .gt (.call "_law_draw" (.mut 0 (.val (.con (.int 4)) .nil))) (.con (.int 0))) .nil) (.var 4))) (.cons (.set 3 (.ife (.cmp .ne (.var 3) (.lst .nil)) (.var 3) (.sl (.var 2) .none (.some (.con (.int 1)))))) (.cons (.ret (.bi .tuple (.cons (.lc [4] (.nm 4) (.seq (.var 3)) .nil (.tup (.cons (.var 4) (.cons (.call "_law_choice" (.mut 0 (.val (.lst (.cons (.con .none) (.cons (.con .none) (.cons (.con .none) (.cons (.call "_law_words" (.mut 0 .nil)) .nil))))) .nil))) .nil)))) .nil))) .nil))))⟩
def f__law_answer : Fn := ⟨"_law_answer", 2, ["source", "names", "some", "name"], (.cons (.set 2 (.lc [3] (.nm 3) (.seq (.var 1)) (.cons (.cmp .gt (.call "_law_draw" (.mut 0 (.val (.con (.int 4)) .nil))) (.con (.int 0))) .nil) (.var 3))) (.cons (.ret (.bi .tuple (.cons (.lc [3] (.nm 3) (.seq (.ife (.cmp .ne (.var 2) (.lst .nil)) (.var 2) (.sl (.var 1) .none (.some (.con (.int 1)))))) .nil (.tup (.cons (.var 3) (.cons (.call "_law_draw" (.mut 0 (.val (.con (.int 4)) .nil))) .nil)))) .nil))) .nil))⟩
def f__law_system : Fn := ⟨"_law_system", 1, ["source", "cells", "names", "cell", "writers", "number"], (.cons (.set 1 (.call "_law_cells" (.mut 0 (.val (.con (.int 3)) .nil)))) (.cons (.set 2 (.lc [3] (.nm 3) (.seq (.var 1)) .nil (.ix (.var 3) (.con (.int 0))))) (.cons (.set 4 (.bi .tuple (.cons (.lc [5] (.nm 5) (.rng1 (.call "_law_draw" (.mut 0 (.val (.con (.int 4)) .nil)))) .nil (.call "_law_writer" (.mut 0 (.val (.var 2) (.val (.con (.int 6)) .nil))))) .nil))) (.cons (.ret (.tup (.cons (.var 1) (.cons (.call "_law_reader" (.mut 0 (.val (.var 2) (.val (.con (.int 10)) .nil)))) (.cons (.call "_law_answer" (.mut 0 (.val (.var 2) .nil))) (.cons (.var 4) .nil)))))) .nil))))⟩
end G
open G
variable {fuel : Nat} {T : List Fn} {n : Nat} {Q : R → List Slot → Prop}
structure DrawH (T : List Fn) : Prop where
  dr : Has T f__law_draw
  ch : Has T f__law_choice
  wo : Has T f__law_words
theorem okW {x : PyData} {l : List PyData} (hl : l.all (okD 12 0) = true) (h : x ∈ l) : ∀ k, okD 12 k x = true := fun k => okD_mono (Nat.le_refl _) (Nat.zero_le _) (List.all_eq_true.mp hl x h)
theorem DrawH.words (D : DrawH T) {a b : Int} (h : SrcOk a b) (hQ : ∀ x a' b', (∀ k, okD 12 k x = true) → SrcOk a' b' → Q (.fz x) [src a' b']) : WO (callN fuel T (n + 3) "_law_words" [src a b]) Q := by
  refine WO_call D.wo rfl ?_
  simp [f__law_words, src]
  refine s_choice D.dr D.ch h (by simp) (by simp) fun x a' b' hx h' => ?_
  simp [src, fin]
  exact hQ x a' b' (okW (by decide +kernel) hx) h'
theorem okT {ds : List PyData} {L k : Nat} (hl : ds.length ≤ L) (h : ∀ d ∈ ds, okD L k d = true) : okD L (k + 1) (.tuple ds) = true := by
  rw [okD_tuple, decide_eq_true hl, List.all_eq_true.mpr h]; rfl
theorem okI {L k : Nat} {i : Int} : okD L k (.int i) = true := by cases k <;> rfl
theorem DrawH.test (D : DrawH T) (hh : Has T f__law_test) {a b size : Int} {bk : Bool} (h : SrcOk a b) (h1 : 0 ≤ size) (h2 : size < 1000) (hQ : ∀ x a' b', okD 12 1 x = true → SrcOk a' b' → Q (.fz x) [src a' b', .fz (.int size), .fz (.bool bk)]) :
    WO (callN fuel T (n + 4) "_law_test" [src a b, .fz (.int size), .fz (.bool bk)]) Q := by
  refine WO_call hh rfl ?_
  simp [f__law_test, src]
  refine s_choice D.dr D.ch (n := n + 1) h (by simp) (by simp) fun x a1 b1 hx h => ?_
  have ox := okW (l := [.str "same", .str "same", .str "is", .str "not"]) (by decide +kernel) hx
  have q3 : eqD x (.str "same") = some (PyData.eqv x (.str "same")) := eqD_of (okD_shaped (ox 0) (by omega)) (by decide +kernel)
  simp [src, q3]
  have rest : ∀ (o : PyData) (a5 b5 : Int), (∀ k, okD 12 k o = true) → SrcOk a5 b5 → WO (exs ⟨callN fuel T (n + 3), fuel⟩ (match f__law_test.body with | .cons _ (.cons _ r) => r | _ => .nil) [src a5 b5, .fz (.int size), .fz (.bool bk), .fz x, .fz o]) (fin [src a b, .fz (.int size), .fz (.bool bk)] Q) := fun o a5 b5 ho h => by
    simp [f__law_test, src]
    refine s_draw D.dr (n := n + 2) h (by omega) (by omega) fun r a2 b2 _ _ h => ?_
    have mk : ∀ e : PyData, okD 12 0 e = true → okD 12 1 (.tuple [x, .int r, o, e]) = true := fun e he => okT (by simp) (by
      intro d hd
      simp at hd
      rcases hd with rfl | rfl | rfl | rfl
      · exact ox 0
      · exact okI
      · exact ho 0
      · exact he)
    cases bk with
    | true =>
      simp [src, fin]
      exact hQ _ _ _ (mk _ rfl) h
    | false =>
      simp [src]
      refine s_draw D.dr (n := n + 2) h (by omega) (by omega) fun r2 a3 b3 _ _ h => ?_
      simp [src, fin]
      exact hQ _ _ _ (mk _ rfl) h
  split
  · refine s_draw D.dr (n := n + 2) h (by omega) (by omega) fun r a2 b2 _ _ h => ?_
    have := rest (.int r) a2 b2 (fun k => okI) h
    simp [f__law_test, src] at this ⊢
    exact this
  · refine D.words (n := n) h fun y a2 b2 hy h => ?_
    have := rest y a2 b2 hy h
    simp [f__law_test, src] at this ⊢
    exact this
def okNs (xs : List PyData) : Prop := xs ≠ [] ∧ xs.length ≤ 12 ∧ xs.all (okD 12 0) = true
theorem okNs.mem {xs : List PyData} (h : okNs xs) {x : PyData} (hx : x ∈ xs) : ∀ k, okD 12 k x = true := okW h.2.2 hx
theorem ok2 {x y : PyData} (hx : okD 12 0 x = true) (hy : okD 12 0 y = true) : okD 12 1 (.tuple [x, y]) = true := okT (by simp) (by simp [hx, hy])
theorem ok3 {x y z : PyData} (hx : okD 12 0 x = true) (hy : okD 12 0 y = true) (hz : okD 12 0 z = true) : okD 12 1 (.tuple [x, y, z]) = true := okT (by simp) (by simp [hx, hy, hz])
theorem ok4 {x y z u : PyData} (hx : okD 12 0 x = true) (hy : okD 12 0 y = true) (hz : okD 12 0 z = true) (hu : okD 12 0 u = true) : okD 12 1 (.tuple [x, y, z, u]) = true := okT (by simp) (by simp [hx, hy, hz, hu])
theorem ok5 {x y z u w : PyData} (hx : okD 12 0 x = true) (hy : okD 12 0 y = true) (hz : okD 12 0 z = true) (hu : okD 12 0 u = true) (hw : okD 12 0 w = true) : okD 12 1 (.tuple [x, y, z, u, w]) = true := okT (by simp) (by simp [hx, hy, hz, hu, hw])
theorem DrawH.wrow (D : DrawH T) (hh : Has T f__law_writer_row) {a b size : Int} {xs : List PyData} (hx : okNs xs) (h : SrcOk a b) (h1 : 0 ≤ size) (h2 : size < 1000) (hQ : ∀ x a' b', okD 12 1 x = true → SrcOk a' b' → Q (.fz x) [src a' b', .fz (.list xs), .fz (.int size)]) :
    WO (callN fuel T (n + 4) "_law_writer_row" [src a b, .fz (.list xs), .fz (.int size)]) Q := by
  refine WO_call hh rfl ?_
  have hl : xs.length < 1073741824 := by have := hx.2.1; omega
  simp [f__law_writer_row, src]
  refine s_choice D.dr D.ch (n := n + 1) h hx.1 hl fun c a1 b1 hc h => ?_
  have oc := hx.mem hc 0
  simp [src]
  refine s_draw D.dr (n := n + 2) h (by omega) (by omega) fun way a2 b2 _ _ h => ?_
  simp [src]
  split
  · simp [fin]
    exact hQ _ _ _ (ok2 (by decide +kernel) oc) h
  split
  · refine D.words (n := n) h fun y a3 b3 hy h => ?_
    simp [src, fin]
    exact hQ _ _ _ (ok3 (by decide +kernel) oc (hy 0)) h
  split
  · refine D.words (n := n) h fun y a3 b3 hy h => ?_
    simp [src]
    refine s_draw D.dr (n := n + 2) h (by omega) (by omega) fun r a4 b4 _ _ h => ?_
    simp [src, fin]
    exact hQ _ _ _ (ok4 (by decide +kernel) oc (hy 0) okI) h
  split
  · refine D.words (n := n) h fun y a3 b3 hy h => ?_
    simp [src]
    refine D.words (n := n) h fun z a5 b5 hz h => ?_
    simp [src]
    refine s_draw D.dr (n := n + 2) h (by omega) (by omega) fun r a4 b4 _ _ h => ?_
    simp [src, fin]
    exact hQ _ _ _ (ok5 (by decide +kernel) oc (hy 0) (hz 0) okI) h
  · refine s_draw D.dr (n := n + 2) h (by omega) (by omega) fun r a4 b4 _ _ h => ?_
    simp [src, fin]
    exact hQ _ _ _ (ok2 (by decide +kernel) okI) h
def WdI (nd : PyData) (m size : Int) (rem acc : List PyData) (ρ : Rho) : Prop := ∃ a b s4, SrcOk a b ∧ acc.all (okD 12 1) = true ∧ ((acc.length + rem.length : Nat) : Int) = size ∧ ρ = [src a b, .fz nd, .fz (.int m), .fz (.int size), s4]
theorem rng_len {lo : Int} {k : Nat} : (rngD lo k).length = k := by unfold rngD; simp
theorem okRng_small {i : Int} (h0 : 0 ≤ i) (h1 : i < 1000) : okRng i = true := by
  unfold okRng
  simp
  omega
theorem DrawH.writer (D : DrawH T) (hw : Has T f__law_writer_row) (hh : Has T f__law_writer) {a b m : Int} {xs : List PyData} (hx : okNs xs) (h : SrcOk a b) (h1 : 1 ≤ m) (h2 : m ≤ 10) (hQ : ∀ x a' b', okD 12 2 x = true → SrcOk a' b' → Q (.fz x) [src a' b', .fz (.list xs), .fz (.int m)]) :
    WO (callN fuel T (n + 5) "_law_writer" [src a b, .fz (.list xs), .fz (.int m)]) Q := by
  refine WO_call hh rfl ?_
  simp [f__law_writer, src]
  refine s_draw D.dr (n := n + 3) h (by omega) (by omega) fun r a1 b1 r0 r1 h => ?_
  simp [src, okRng_small (i := 1 + r) (by omega) (by omega)]
  rw [WO_inner]
  refine W_lc (WdI (.list xs) m (1 + r)) (fun d rem acc ρ hI => ?_) _ [] _ ⟨a1, b1, .und, h, rfl, by rw [rng_len]; simp; omega, rfl⟩ (fun bs ρ hI => ?_)
  · obtain ⟨a2, b2, s4, h, ha, hl, rfl⟩ := hI
    simp [cturn_app, src]
    refine D.wrow hw (n := n) hx h (by omega) (by omega) fun x a3 b3 ox h => ?_
    simp [src]
    exact ⟨a3, b3, _, h, by rw [List.all_append, ha]; simp [ox], by simp at hl ⊢; omega, rfl⟩
  · obtain ⟨a2, b2, s4, h, ha, hl, rfl⟩ := hI
    simp only [List.nil_append] at ha hl
    simp at hl
    have hl2 : bs.length ≤ lim := by show _ ≤ 16777216; omega
    simp [hl2, src, fin]
    exact hQ _ _ _ (by rw [okD_tuple, ha, decide_eq_true (by omega)]; rfl) h
def RdI (nd : PyData) (m size : Int) (rem : List PyData) (ρ : Rho) : Prop := ∃ a b acc s5 s6, SrcOk a b ∧ acc.all (okD 12 1) = true ∧ ((acc.length + rem.length : Nat) : Int) = size ∧ (∀ d ∈ rem, ∃ i : Int, d = .int i) ∧ ρ = [src a b, .fz nd, .fz (.int m), .fz (.int size), .own false (.lst acc), s5, s6]
theorem DrawH.reader (D : DrawH T) (ht : Has T f__law_test) (hh : Has T f__law_reader) {a b m : Int} {xs : List PyData} (hx : okNs xs) (h : SrcOk a b) (h1 : 1 ≤ m) (h2 : m ≤ 10) (hQ : ∀ x a' b', okD 12 2 x = true → SrcOk a' b' → Q (.fz x) [src a' b', .fz (.list xs), .fz (.int m)]) :
    WO (callN fuel T (n + 5) "_law_reader" [src a b, .fz (.list xs), .fz (.int m)]) Q := by
  refine WO_call hh rfl ?_
  simp [f__law_reader, src]
  refine s_draw D.dr (n := n + 3) h (by omega) (by omega) fun r a1 b1 r0 r1 h => ?_
  simp [src, okRng_small (i := 1 + r) (by omega) (by omega)]
  have hxl : xs.length < 1073741824 := by have := hx.2.1; omega
  refine W_for (RdI (.list xs) m (1 + r)) (fun d rem ρ hI => ?_) (fun ρ hI => ?_) _ _ ⟨a1, b1, [], .und, .und, h, rfl, by rw [rng_len]; simp; omega, fun d hd => by
    unfold rngD at hd
    obtain ⟨i, _, rfl⟩ := List.mem_map.mp hd
    exact ⟨_, rfl⟩, rfl⟩
  · obtain ⟨a2, b2, acc, s5, s6, h, ha, hl, hi, rfl⟩ := hI
    obtain ⟨i, rfl⟩ := hi d (by simp)
    have hl3 : acc.length < lim := by show _ < 16777216; simp at hl; omega
    have done : ∀ (x : PyData) (a b : Int) (s6 : Slot), okD 12 1 x = true → SrcOk a b → RdI (.list xs) m (1 + r) rem [src a b, .fz (.list xs), .fz (.int m), .fz (.int (1 + r)), .own false (.lst (acc ++ [x])), .fz (.int i), s6] := fun x a b s6 ox h =>
      ⟨a, b, acc ++ [x], _, s6, h, by rw [List.all_append, ha]; simp [ox], by simp at hl ⊢; omega, fun d hd => hi d (List.mem_cons_of_mem _ hd), rfl⟩
    rw [WO_turn_nm]
    refine ⟨by simp, ?_⟩
    simp [src]
    refine s_draw D.dr (n := n + 3) h (by omega) (by omega) fun way a3 b3 _ _ h => ?_
    simp [src]
    split
    · refine s_choice D.dr D.ch (n := n + 2) h hx.1 hxl fun c a4 b4 hc h => ?_
      simp [src]
      refine s_draw D.dr (n := n + 3) h (by omega) (by omega) fun r2 a5 b5 _ _ h => ?_
      simp [src, hl3]
      exact done _ _ _ _ (ok3 (by decide +kernel) (hx.mem hc 0) okI) h
    split
    · refine s_draw D.dr (n := n + 3) h (by omega) (by omega) fun r2 a5 b5 _ _ h => ?_
      simp [src]
      refine D.test ht (n := n) h (by omega) (by omega) fun x a6 b6 ox h => ?_
      simp [src, hl3]
      exact done _ _ _ _ ox h
    · refine s_draw D.dr (n := n + 3) h (by omega) (by omega) fun r2 a5 b5 _ _ h => ?_
      simp [src]
      split
      · simp [src, hl3]
        exact done _ _ _ _ (ok2 (by decide +kernel) okI) h
      · refine s_draw D.dr (n := n + 3) h (by omega) (by omega) fun r3 a6 b6 _ _ h => ?_
        simp [src, hl3]
        exact done _ _ _ _ (ok2 (by decide +kernel) okI) h
  · obtain ⟨a2, b2, acc, s5, s6, h, ha, hl, hi, rfl⟩ := hI
    simp at hl
    simp [src, fin]
    exact hQ _ _ _ (by rw [okD_tuple, ha, decide_eq_true (by omega)]; rfl) h
def CellsOk (cs : List PyData) : Prop := cs ≠ [] ∧ cs.length ≤ 12 ∧ ∀ c ∈ cs, ∃ x y, c = .tuple [x, y] ∧ okD 12 0 x = true ∧ okD 12 0 y = true
theorem CellsOk.ok {cs : List PyData} (h : CellsOk cs) : okD 12 2 (.tuple cs) = true := okT h.2.1 fun c hc => by
  obtain ⟨x, y, rfl, hx, hy⟩ := h.2.2 c hc
  exact ok2 hx hy
def SoI (nm : PyData) (m : Int) (s3 : Slot) (rem acc : List PyData) (ρ : Rho) : Prop := ∃ a b s4, SrcOk a b ∧ (∀ x ∈ acc, okD 12 0 x = true) ∧ (∀ x ∈ rem, okD 12 0 x = true) ∧ acc.length + rem.length ≤ 12 ∧ ρ = [src a b, .fz (.int m), .fz nm, s3, s4]
theorem nm_shaped {xs : List PyData} (h : ∀ x ∈ xs, okD 12 0 x = true) (hl : xs.length ≤ 12) : SeqAt.shaped (.list xs) = true := okD_shaped (L := 12) (k := 1) (by rw [okD_list, decide_eq_true hl, List.all_eq_true.mpr h]; rfl) (by omega)
theorem eq_nilL {xs : List PyData} (h : SeqAt.shaped (.list xs) = true) : eqD (.list xs) (.list []) = some xs.isEmpty := by
  rw [eqD_of h rfl]
  cases xs <;> rfl
end Y

set_option Elab.async false
set_option linter.all false
set_option maxRecDepth 100000
namespace Y
open PySem G
variable {fuel : Nat} {T : List Fn} {n : Nat} {Q : R → List Slot → Prop}
def An1 (nd : PyData) (s2 : Slot) (rem acc : List PyData) (ρ : Rho) : Prop := ∃ a b s3, SrcOk a b ∧ (∀ x ∈ acc, okD 12 0 x = true) ∧ (∀ x ∈ rem, okD 12 0 x = true) ∧ acc.length + rem.length ≤ 12 ∧ ρ = [src a b, .fz nd, s2, s3]
def An2 (nd : PyData) (s2 : Slot) (rem acc : List PyData) (ρ : Rho) : Prop := ∃ a b s3, SrcOk a b ∧ (∀ x ∈ acc, okD 12 1 x = true) ∧ (∀ x ∈ rem, okD 12 0 x = true) ∧ acc.length + rem.length ≤ 12 ∧ ρ = [src a b, .fz nd, s2, s3]
theorem DrawH.answer (D : DrawH T) (hh : Has T f__law_answer) {a b : Int} {xs : List PyData} (hx : ∀ x ∈ xs, okD 12 0 x = true) (hl : xs.length ≤ 12) (h : SrcOk a b) (hQ : ∀ x a' b', okD 12 2 x = true → SrcOk a' b' → Q (.fz x) [src a' b', .fz (.list xs)]) :
    WO (callN fuel T (n + 4) "_law_answer" [src a b, .fz (.list xs)]) Q := by
  refine WO_call hh rfl ?_
  simp [f__law_answer, src]
  rw [WO_inner]
  refine W_lc (An1 (.list xs) .und) (fun d rem acc ρ hI => ?_) _ [] _ ⟨a, b, .und, h, by simp, hx, by simpa using hl, rfl⟩ (fun bs ρ hI => ?_)
  · obtain ⟨a2, b2, s3, h, h1, h2, h3, rfl⟩ := hI
    have od := h2 d (by simp)
    simp [cturn_app, src]
    refine s_draw D.dr (n := n + 2) h (by omega) (by omega) fun r a3 b3 _ _ h => ?_
    simp [src]
    split
    · exact ⟨a3, b3, _, h, fun x hx => by
        rcases List.mem_append.mp hx with hx | hx
        · exact h1 x hx
        · rw [List.mem_singleton.mp hx]; exact od, fun x hx => h2 x (List.mem_cons_of_mem _ hx), by simp at h3 ⊢; omega, rfl⟩
    · exact ⟨a3, b3, _, h, by simpa using h1, fun x hx => h2 x (List.mem_cons_of_mem _ hx), by simp at h3 ⊢; omega, rfl⟩
  · obtain ⟨a2, b2, s3, h, h1, _, h3, rfl⟩ := hI
    simp only [List.nil_append] at h1 h3
    simp at h3
    have hl2 : bs.length ≤ lim := by show _ ≤ 16777216; omega
    have q := eq_nilL (nm_shaped h1 h3)
    have rest : ∀ (ys : List PyData) (s2 : Slot), (∀ y ∈ ys, okD 12 0 y = true) → ys.length ≤ 12 → WO (inner [3] (lcL (fun d => turnW [3] (cturn ⟨callN fuel T (n + 3), fuel⟩ (.nm 3) .nil (.tup (.cons (.var 3) (.cons (.call "_law_draw" (.mut 0 (.val (.con (.int 4)) .nil))) .nil))) d)) ys) [src a2 b2, .fz (.list xs), s2, .und]) (fun r ρ' => (∀ x ∈ r, okD 12 1 x = true) ∧ r.length ≤ 12 ∧ ∃ a b, SrcOk a b ∧ ρ' = [src a b, .fz (.list xs), s2, .und]) := fun ys s2 hy hyl => by
      rw [WO_inner]
      refine W_lc (An2 (.list xs) s2) (fun d rem acc ρ hI => ?_) _ [] _ ⟨a2, b2, .und, h, by simp, hy, by simpa using hyl, rfl⟩ (fun bs ρ hI => ?_)
      · obtain ⟨a2, b2, s3, h, h1, h2, h3, rfl⟩ := hI
        have od := h2 d (by simp)
        simp [cturn_app, src]
        refine s_draw D.dr (n := n + 2) h (by omega) (by omega) fun r a3 b3 _ _ h => ?_
        simp [src]
        exact ⟨a3, b3, _, h, fun x hx => by
          rcases List.mem_append.mp hx with hx | hx
          · exact h1 x hx
          · rw [List.mem_singleton.mp hx]; exact ok2 od okI, fun x hx => h2 x (List.mem_cons_of_mem _ hx), by simp at h3 ⊢; omega, rfl⟩
      · obtain ⟨a2, b2, s3, h, h1, _, h3, rfl⟩ := hI
        simp only [List.nil_append] at h1 h3
        simp at h3
        refine ⟨h1, h3, a2, b2, h, ?_⟩
        simp [src]
    have fini : ∀ (r : List PyData) (a b : Int) (s2 : Slot), (∀ x ∈ r, okD 12 1 x = true) → r.length ≤ 12 → SrcOk a b → okD 12 2 (.tuple r) = true ∧ r.length ≤ lim := fun r a b s2 h1 h2 _ => ⟨okT h2 h1, by show _ ≤ 16777216; omega⟩
    simp [hl2, q, src]
    have last : ∀ (r : List PyData) (ρ' : Rho) (s2 : Slot), ((∀ x ∈ r, okD 12 1 x = true) ∧ r.length ≤ 12 ∧ ∃ a b, SrcOk a b ∧ ρ' = [src a b, .fz (.list xs), s2, .und]) → r.length ≤ lim ∧ WO (bnd (evOs ⟨callN fuel T (n + 3), fuel⟩ Es.nil) (fun ds => ret (Opd.d (PyData.list r) :: ds)) ρ') fun a_2 ρ' => WO (bnd (gets a_2) (fun ds => ofO (biD Bi.tuple ds)) ρ') fun a_3 ρ' => fin [src a b, Slot.fz (PyData.list xs)] Q (Fl.rt a_3) ρ' := fun r ρ' s2 ⟨q1, q2, a4, b4, h, e⟩ => by
      subst e
      refine ⟨by show _ ≤ 16777216; omega, ?_⟩
      simp [src, fin]
      exact hQ _ _ _ (okT q2 q1) h
    split
    · refine (rest (cutD xs none (some 1)) (.own false (.lst bs)) (fun y hy => hx y ?_) ?_).imp fun r ρ' q => last r ρ' _ q
      · unfold cutD at hy
        exact List.mem_of_mem_drop (List.mem_of_mem_take hy)
      · unfold cutD
        rw [List.length_take, List.length_drop]
        omega
    · exact (rest bs .und h1 h3).imp fun r ρ' q => last r ρ' _ q
end Y

set_option Elab.async false
set_option linter.all false
set_option maxRecDepth 100000
namespace Y
open PySem G
variable {fuel : Nat} {T : List Fn} {n : Nat} {Q : R → List Slot → Prop}
def Ce1 (m nd : PyData) (s2 : Slot) (rem acc : List PyData) (ρ : Rho) : Prop := ∃ a b s3, SrcOk a b ∧ (∀ x ∈ acc, okD 12 0 x = true) ∧ (∀ x ∈ rem, okD 12 0 x = true) ∧ acc.length + rem.length ≤ 12 ∧ ρ = [src a b, .fz m, .fz nd, s2, s3]
def CellT (c : PyData) : Prop := ∃ x y, c = .tuple [x, y] ∧ okD 12 0 x = true ∧ okD 12 0 y = true
def Ce2 (m nd : PyData) (s2 : Slot) (k : Nat) (rem acc : List PyData) (ρ : Rho) : Prop := ∃ a b s3, SrcOk a b ∧ (∀ x ∈ acc, CellT x) ∧ (∀ x ∈ rem, okD 12 0 x = true) ∧ acc.length + rem.length = k ∧ ρ = [src a b, .fz m, .fz nd, s2, s3]
theorem DrawH.cells (D : DrawH T) (hh : Has T f__law_cells) {a b : Int} (h : SrcOk a b) (hQ : ∀ cs a' b', CellsOk cs → SrcOk a' b' → Q (.fz (.tuple cs)) [src a' b', .fz (.int 3)]) :
    WO (callN fuel T (n + 4) "_law_cells" [src a b, .fz (.int 3)]) Q := by
  refine WO_call hh rfl ?_
  simp [f__law_cells, src]
  refine s_choice D.dr D.ch (n := n + 1) h (by simp) (by simp) fun nm a9 b9 hnm h => ?_
  have hys : ∃ ys, nm = .list ys ∧ ys.length = 3 ∧ ∀ y ∈ ys, okD 12 0 y = true := by
    simp at hnm
    rcases hnm with rfl | rfl | rfl
    · exact ⟨_, rfl, rfl, by decide +kernel⟩
    · exact ⟨_, rfl, rfl, by decide +kernel⟩
    · exact ⟨_, rfl, rfl, by decide +kernel⟩
  obtain ⟨ys, rfl, yl, yo⟩ := hys
  have cm : ∀ k : Int, ∀ y ∈ cutD ys none (some k), okD 12 0 y = true := fun k y hy => yo y (by
    unfold cutD at hy
    exact List.mem_of_mem_drop (List.mem_of_mem_take hy))
  have cl : ∀ k : Int, (cutD ys none (some k)).length ≤ 3 := fun k => by
    unfold cutD
    rw [List.length_take, List.length_drop]
    omega
  have c1 : (cutD ys none (some 1)).length = 1 := by
    rw [cut_take (by omega) (by omega), List.length_take]
    show min 1 ys.length = 1
    omega
  simp [src]
  rw [WO_inner]
  refine W_lc (Ce1 (.int 3) (.list ys) .und) (fun d rem acc ρ hI => ?_) _ [] _ ⟨a9, b9, .und, h, by simp, cm 3, by have := cl 3; simp; omega, rfl⟩ (fun bs ρ hI => ?_)
  · obtain ⟨a2, b2, s3, h, h1, h2, h3, rfl⟩ := hI
    have od := h2 d (by simp)
    simp [cturn_app, src]
    refine s_draw D.dr (n := n + 2) h (by omega) (by omega) fun r a3 b3 _ _ h => ?_
    simp [src]
    split
    · exact ⟨a3, b3, _, h, fun x hx => by
        rcases List.mem_append.mp hx with hx | hx
        · exact h1 x hx
        · rw [List.mem_singleton.mp hx]; exact od, fun x hx => h2 x (List.mem_cons_of_mem _ hx), by simp at h3 ⊢; omega, rfl⟩
    · exact ⟨a3, b3, _, h, by simpa using h1, fun x hx => h2 x (List.mem_cons_of_mem _ hx), by simp at h3 ⊢; omega, rfl⟩
  · obtain ⟨a2, b2, s3, h, h1, _, h3, rfl⟩ := hI
    simp only [List.nil_append] at h1 h3
    simp at h3
    have hl2 : bs.length ≤ lim := by show _ ≤ 16777216; omega
    have q := eq_nilL (nm_shaped h1 h3)
    have rest : ∀ (ys' : List PyData) (s2 : Slot), (∀ y ∈ ys', okD 12 0 y = true) → WO (inner [4] (lcL (fun d => turnW [4] (cturn ⟨callN fuel T (n + 3), fuel⟩ (.nm 4) .nil (.tup (.cons (.var 4) (.cons (.call "_law_choice" (.mut 0 (.val (.lst (.cons (.con .none) (.cons (.con .none) (.cons (.con .none) (.cons (.call "_law_words" (.mut 0 .nil)) .nil))))) .nil))) .nil))) d)) ys') [src a2 b2, .fz (.int 3), .fz (.list ys), s2, .und]) (fun r ρ' => (∀ x ∈ r, CellT x) ∧ r.length = ys'.length ∧ ∃ a b, SrcOk a b ∧ ρ' = [src a b, .fz (.int 3), .fz (.list ys), s2, .und]) := fun ys' s2 hy => by
      rw [WO_inner]
      refine W_lc (Ce2 (.int 3) (.list ys) s2 ys'.length) (fun d rem acc ρ hI => ?_) _ [] _ ⟨a2, b2, .und, h, by simp, hy, by simp, rfl⟩ (fun bs ρ hI => ?_)
      · obtain ⟨a2, b2, s3, h, h1, h2, h3, rfl⟩ := hI
        have od := h2 d (by simp)
        simp [cturn_app, src]
        refine D.words (n := n) h fun y a3 b3 hy h => ?_
        simp [src]
        refine s_choice D.dr D.ch (n := n + 1) h (by simp) (by simp) fun z a4 b4 hz h => ?_
        have oz : okD 12 0 z = true := by
          simp at hz
          rcases hz with rfl | rfl
          · rfl
          · exact hy 0
        simp [src]
        exact ⟨a4, b4, _, h, fun x hx => by
          rcases List.mem_append.mp hx with hx | hx
          · exact h1 x hx
          · rw [List.mem_singleton.mp hx]; exact ⟨_, _, rfl, od, oz⟩, fun x hx => h2 x (List.mem_cons_of_mem _ hx), by simp at h3 ⊢; omega, rfl⟩
      · obtain ⟨a2, b2, s3, h, h1, _, h3, rfl⟩ := hI
        simp only [List.nil_append] at h1 h3
        simp at h3
        refine ⟨h1, h3, a2, b2, h, ?_⟩
        simp [src]
    simp [hl2, q, src]
    have last : ∀ (r : List PyData) (ρ' : Rho) (s2 : Slot) (k : Nat), 1 ≤ k → k ≤ 12 → ((∀ x ∈ r, CellT x) ∧ r.length = k ∧ ∃ a b, SrcOk a b ∧ ρ' = [src a b, .fz (.int 3), .fz (.list ys), s2, .und]) → r.length ≤ lim ∧ WO (bnd (evOs ⟨callN fuel T (n + 3), fuel⟩ Es.nil) (fun ds => ret (Opd.d (PyData.list r) :: ds)) ρ') fun a_2 ρ' => WO (bnd (gets a_2) (fun ds => ofO (biD Bi.tuple ds)) ρ') fun a_3 ρ' => fin [src a b, Slot.fz (.int 3)] Q (Fl.rt a_3) ρ' := fun r ρ' s2 k k1 k2 ⟨q1, q2, a4, b4, h, e⟩ => by
      subst e
      refine ⟨by show _ ≤ 16777216; omega, ?_⟩
      simp [src, fin]
      exact hQ _ _ _ ⟨fun z => by rw [z] at q2; simp at q2; omega, by omega, q1⟩ h
    split
    · exact (rest (cutD ys none (some 1)) _ (cm 1)).imp fun r ρ' q => last r ρ' _ _ (by omega) (by omega) q
    · rename_i hne
      have hb : 1 ≤ bs.length := List.length_pos_iff.mpr hne
      exact (rest bs _ h1).imp fun r ρ' q => last r ρ' _ _ hb h3 q
end Y

set_option Elab.async false
set_option linter.all false
set_option maxRecDepth 100000
namespace Y
open PySem G
variable {fuel : Nat} {T : List Fn} {n : Nat} {Q : R → List Slot → Prop}
def fstG : PyData → Option PyData := fun c => match c with
  | .tuple (x :: _) => some x
  | _ => none
theorem fst_ok {cs : List PyData} (h : CellsOk cs) : okNs (cs.filterMap fstG) := by
  have e : ∀ l : List PyData, (∀ c ∈ l, CellT c) → (l.filterMap fstG).length = l.length ∧ ∀ x ∈ l.filterMap fstG, okD 12 0 x = true := fun l => by
    induction l with
    | nil => intro _; exact ⟨rfl, by simp⟩
    | cons c l ih =>
      intro hl
      obtain ⟨x, y, rfl, hx, _⟩ := hl c (by simp)
      obtain ⟨i1, i2⟩ := ih fun c hc => hl c (List.mem_cons_of_mem _ hc)
      refine ⟨by simp [fstG, i1], fun z hz => ?_⟩
      have hz : z ∈ x :: l.filterMap fstG := hz
      rcases List.mem_cons.mp hz with rfl | hz
      · exact hx
      · exact i2 z hz
  obtain ⟨e1, e2⟩ := e cs h.2.2
  refine ⟨fun z => ?_, ?_, List.all_eq_true.mpr e2⟩
  · rw [z] at e1
    have := h.1
    cases cs with
    | nil => exact this rfl
    | cons _ _ => simp at e1
  · have := h.2.1
    omega
def SyI (c : PyData) (xs : List PyData) (s3 : Slot) (k : Nat) (rem acc : List PyData) (ρ : Rho) : Prop := ∃ a b s2 s5, SrcOk a b ∧ (s2 = .own false (.lst xs) ∨ s2 = .fz (.list xs)) ∧ (∀ x ∈ acc, okD 12 2 x = true) ∧ acc.length + rem.length = k ∧ ρ = [src a b, .fz c, s2, s3, .und, s5]
theorem DrawH.system (D : DrawH T) (hc : Has T f__law_cells) (ht : Has T f__law_test) (hr : Has T f__law_reader) (hwr : Has T f__law_writer_row) (hw : Has T f__law_writer) (ha : Has T f__law_answer) (hh : Has T f__law_system) {a b : Int} (h : SrcOk a b) (hQ : ∀ x a' b', okD 12 4 x = true → SrcOk a' b' → Q (.fz x) [src a' b']) :
    WO (callN fuel T (n + 6) "_law_system" [src a b]) Q := by
  refine WO_call hh rfl ?_
  simp [f__law_system, src]
  refine D.cells hc (n := n + 1) h fun cs a1 b1 hcs h => ?_
  simp [src]
  refine W_pure fstG (fun c hc => ?_) ?_
  · obtain ⟨x, y, rfl, _, _⟩ := hcs.2.2 c hc
    simp [cturn_app, atI0, fstG]
  have hN := fst_ok hcs
  generalize cs.filterMap fstG = xs at hN ⊢
  refine ⟨by have := hN.2.1; show _ ≤ 16777216; omega, ?_⟩
  simp
  refine s_draw D.dr (n := n + 4) h (by omega) (by omega) fun r a2 b2 r0 r1 h => ?_
  simp [src, okRng_small (i := r) (by omega) (by omega)]
  rw [WO_inner]
  refine W_lc (SyI (.tuple cs) xs .und r.toNat) (fun d rem acc ρ hI => ?_) _ [] _ ⟨a2, b2, _, .und, h, .inl rfl, by simp, by rw [rng_len]; simp, rfl⟩ (fun bs ρ hI => ?_)
  · obtain ⟨a3, b3, s2, s5, h, h2, h3, h4, rfl⟩ := hI
    have done : ∀ (x : PyData) (a b : Int), okD 12 2 x = true → SrcOk a b → SyI (.tuple cs) xs .und r.toNat rem (acc ++ [x]) [src a b, .fz (.tuple cs), .fz (.list xs), .und, .und, .fz d] := fun x a b ox h =>
      ⟨a, b, _, _, h, .inr rfl, fun y hy => by
        rcases List.mem_append.mp hy with hy | hy
        · exact h3 y hy
        · rw [List.mem_singleton.mp hy]; exact ox, by simp at h4 ⊢; omega, rfl⟩
    rcases h2 with rfl | rfl <;>
    · simp [cturn_app, src]
      refine D.writer hwr hw (n := n) hN h (by omega) (by omega) fun x a4 b4 ox h => ?_
      simp [src]
      exact done _ _ _ ox h
  · obtain ⟨a3, b3, s2, s5, h, h2, h3, h4, rfl⟩ := hI
    simp only [List.nil_append] at h3 h4
    simp at h4
    have hl : bs.length ≤ lim := by show _ ≤ 16777216; omega
    have owr : okD 12 3 (.tuple bs) = true := okT (by omega) h3
    rcases h2 with rfl | rfl <;>
    · simp [hl, src]
      refine D.reader ht hr (n := n) hN h (by omega) (by omega) fun rd a4 b4 ord h => ?_
      simp [src]
      refine D.answer ha (n := n + 1) (fun x hx => hN.mem hx 0) ?_ h fun an a5 b5 oan h => ?_
      · exact hN.2.1
      · simp [src, fin]
        refine hQ _ _ _ (okT (by simp) ?_) h
        intro d hd
        simp at hd
        rcases hd with rfl | rfl | rfl | rfl
        · exact okD_mono (Nat.le_refl _) (by omega) hcs.ok
        · exact okD_mono (Nat.le_refl _) (by omega) ord
        · exact okD_mono (Nat.le_refl _) (by omega) oan
        · exact owr
end Y

set_option Elab.async false
set_option linter.all false
set_option maxRecDepth 100000
namespace K01
open PySem Y
def f_is_from : Fn := ⟨"is_from", 3, ["value", "low", "high"], (.cons (.ret (.and (.isi (.var 0) .int) (.and (.not (.isi (.var 0) .bool)) (.chain .le .le (.var 1) (.var 0) (.var 2))))) .nil)⟩
def f_is_name : Fn := ⟨"is_name", 1, ["value", "letter"], (.cons (.ret (.and (.isi (.var 0) .str) (.and (.chain .le .le (.con (.int 1)) (.bi .len (.cons (.var 0) .nil)) (.con (.int 8))) (.bi .all (.cons (.lc [1] (.nm 1) (.seq (.var 0)) .nil (.cmp .inn (.var 1) (.glb "LETTERS" (.str "abcdefghijklmnopqrstuvwxyz")))) .nil))))) .nil)⟩
def f_is_rising : Fn := ⟨"is_rising", 1, ["rows", "one", "other"], (.cons (.ret (.bi .all (.cons (.lc [1, 2] (.tup [(.nm 1), (.nm 2)]) (.zip (.var 0) (.sl (.var 0) (.some (.con (.int 1))) .none)) .nil (.cmp .lt (.var 1) (.var 2))) .nil))) .nil)⟩
def f_are_cells : Fn := ⟨"are_cells", 1, ["value", "cell"], (.cons (.ife (.or (.not (.isi (.var 0) .tuple)) (.not (.chain .le .le (.con (.int 1)) (.bi .len (.cons (.var 0) .nil)) (.glb "MOST_CELLS" (.int 3))))) (.cons (.ret (.con (.bool false))) .nil) .nil) (.cons (.frr (.nm 1) (.seq (.var 0)) (.cons (.ife (.or (.not (.isi (.var 1) .tuple)) (.or (.cmp .ne (.bi .len (.cons (.var 1) .nil)) (.con (.int 2))) (.not (.call "is_name" (.val (.ix (.var 1) (.con (.int 0))) .nil))))) (.cons (.ret (.con (.bool false))) .nil) .nil) (.cons (.ife (.and (.notn (.ix (.var 1) (.con (.int 1)))) (.not (.call "is_name" (.val (.ix (.var 1) (.con (.int 1))) .nil)))) (.cons (.ret (.con (.bool false))) .nil) .nil) .nil))) (.cons (.ret (.call "is_rising" (.val (.lc [1] (.nm 1) (.seq (.var 0)) .nil (.ix (.var 1) (.con (.int 0)))) .nil))) .nil)))⟩
def f_names_of : Fn := ⟨"names_of", 1, ["cells", "cell"], (.cons (.ret (.lc [1] (.nm 1) (.seq (.var 0)) .nil (.ix (.var 1) (.con (.int 0))))) .nil)⟩
def f_is_reader_row : Fn := ⟨"is_reader_row", 3, ["value", "names", "size", "word", "good", "other"], (.cons (.ife (.or (.not (.isi (.var 0) .tuple)) (.or (.cmp .lt (.bi .len (.cons (.var 0) .nil)) (.con (.int 2))) (.not (.isi (.ix (.var 0) (.con (.int 0))) .str)))) (.cons (.ret (.con (.bool false))) .nil) .nil) (.cons (.set 3 (.ix (.var 0) (.con (.int 0)))) (.cons (.ife (.cmp .eq (.var 3) (.con (.str "go"))) (.cons (.ret (.and (.cmp .eq (.bi .len (.cons (.var 0) .nil)) (.con (.int 2))) (.call "is_from" (.val (.ix (.var 0) (.con (.int 1))) (.val (.con (.int 0)) (.val (.var 2) .nil)))))) .nil) .nil) (.cons (.ife (.cmp .eq (.var 3) (.con (.str "read"))) (.cons (.set 4 (.and (.cmp .eq (.bi .len (.cons (.var 0) .nil)) (.con (.int 3))) (.and (.isi (.ix (.var 0) (.con (.int 1))) .str) (.cmp .inn (.ix (.var 0) (.con (.int 1))) (.var 1))))) (.cons (.ret (.and (.var 4) (.call "is_from" (.val (.ix (.var 0) (.con (.int 2))) (.val (.con (.int 0)) (.val (.bin .sub (.glb "NOTES" (.int 4)) (.con (.int 1))) .nil)))))) .nil)) .nil) (.cons (.ife (.or (.cmp .nin (.var 3) (.glb "TESTS" (.tuple [(.str "is"), (.str "not"), (.str "same")]))) (.or (.cmp .ne (.bi .len (.cons (.var 0) .nil)) (.con (.int 4))) (.not (.call "is_from" (.val (.ix (.var 0) (.con (.int 1))) (.val (.con (.int 0)) (.val (.bin .sub (.glb "NOTES" (.int 4)) (.con (.int 1))) .nil))))))) (.cons (.ret (.con (.bool false))) .nil) .nil) (.cons (.set 5 (.ife (.cmp .eq (.var 3) (.con (.str "same"))) (.call "is_from" (.val (.ix (.var 0) (.con (.int 2))) (.val (.con (.int 0)) (.val (.bin .sub (.glb "NOTES" (.int 4)) (.con (.int 1))) .nil)))) (.call "is_name" (.val (.ix (.var 0) (.con (.int 2))) .nil)))) (.cons (.ret (.and (.var 5) (.call "is_from" (.val (.ix (.var 0) (.con (.int 3))) (.val (.con (.int 0)) (.val (.var 2) .nil)))))) .nil)))))))⟩
def f_is_writer_row : Fn := ⟨"is_writer_row", 3, ["value", "names", "size", "word"], (.cons (.ife (.or (.not (.isi (.var 0) .tuple)) (.or (.cmp .lt (.bi .len (.cons (.var 0) .nil)) (.con (.int 2))) (.not (.isi (.ix (.var 0) (.con (.int 0))) .str)))) (.cons (.ret (.con (.bool false))) .nil) .nil) (.cons (.set 3 (.ix (.var 0) (.con (.int 0)))) (.cons (.ife (.cmp .eq (.var 3) (.con (.str "go"))) (.cons (.ret (.and (.cmp .eq (.bi .len (.cons (.var 0) .nil)) (.con (.int 2))) (.call "is_from" (.val (.ix (.var 0) (.con (.int 1))) (.val (.con (.int 0)) (.val (.var 2) .nil)))))) .nil) .nil) (.cons (.ife (.or (.not (.isi (.ix (.var 0) (.con (.int 1))) .str)) (.cmp .nin (.ix (.var 0) (.con (.int 1))) (.var 1))) (.cons (.ret (.con (.bool false))) .nil) .nil) (.cons (.ife (.cmp .eq (.var 3) (.con (.str "new"))) (.cons (.ret (.cmp .eq (.bi .len (.cons (.var 0) .nil)) (.con (.int 2)))) .nil) .nil) (.cons (.ife (.cmp .eq (.var 3) (.con (.str "put"))) (.cons (.ret (.and (.cmp .eq (.bi .len (.cons (.var 0) .nil)) (.con (.int 3))) (.call "is_name" (.val (.ix (.var 0) (.con (.int 2))) .nil)))) .nil) .nil) (.cons (.ife (.cmp .eq (.var 3) (.con (.str "when"))) (.cons (.ret (.and (.cmp .eq (.bi .len (.cons (.var 0) .nil)) (.con (.int 4))) (.and (.call "is_name" (.val (.ix (.var 0) (.con (.int 2))) .nil)) (.call "is_from" (.val (.ix (.var 0) (.con (.int 3))) (.val (.con (.int 0)) (.val (.var 2) .nil))))))) .nil) .nil) (.cons (.ife (.or (.cmp .ne (.var 3) (.con (.str "swap"))) (.cmp .ne (.bi .len (.cons (.var 0) .nil)) (.con (.int 5)))) (.cons (.ret (.con (.bool false))) .nil) .nil) (.cons (.ret (.and (.call "is_name" (.val (.ix (.var 0) (.con (.int 2))) .nil)) (.and (.call "is_name" (.val (.ix (.var 0) (.con (.int 3))) .nil)) (.call "is_from" (.val (.ix (.var 0) (.con (.int 4))) (.val (.con (.int 0)) (.val (.var 2) .nil))))))) .nil)))))))))⟩
def f_is_reader : Fn := ⟨"is_reader", 2, ["value", "names", "row"], (.cons (.ife (.or (.not (.isi (.var 0) .tuple)) (.not (.chain .le .le (.con (.int 1)) (.bi .len (.cons (.var 0) .nil)) (.glb "MOST_READER" (.int 10))))) (.cons (.ret (.con (.bool false))) .nil) .nil) (.cons (.ret (.bi .all (.cons (.lc [2] (.nm 2) (.seq (.var 0)) .nil (.call "is_reader_row" (.val (.var 2) (.val (.var 1) (.val (.bi .len (.cons (.var 0) .nil)) .nil))))) .nil))) .nil))⟩
def f_is_writer : Fn := ⟨"is_writer", 2, ["value", "names", "row"], (.cons (.ife (.or (.not (.isi (.var 0) .tuple)) (.not (.chain .le .le (.con (.int 1)) (.bi .len (.cons (.var 0) .nil)) (.glb "MOST_WRITER" (.int 6))))) (.cons (.ret (.con (.bool false))) .nil) .nil) (.cons (.ret (.bi .all (.cons (.lc [2] (.nm 2) (.seq (.var 0)) .nil (.call "is_writer_row" (.val (.var 2) (.val (.var 1) (.val (.bi .len (.cons (.var 0) .nil)) .nil))))) .nil))) .nil))⟩
def f_is_answer : Fn := ⟨"is_answer", 2, ["value", "names", "pair"], (.cons (.ife (.or (.not (.isi (.var 0) .tuple)) (.cmp .eq (.bi .len (.cons (.var 0) .nil)) (.con (.int 0)))) (.cons (.ret (.con (.bool false))) .nil) .nil) (.cons (.frr (.nm 2) (.seq (.var 0)) (.cons (.ife (.or (.not (.isi (.var 2) .tuple)) (.or (.cmp .ne (.bi .len (.cons (.var 2) .nil)) (.con (.int 2))) (.or (.not (.isi (.ix (.var 2) (.con (.int 0))) .str)) (.cmp .nin (.ix (.var 2) (.con (.int 0))) (.var 1))))) (.cons (.ret (.con (.bool false))) .nil) .nil) (.cons (.ife (.not (.call "is_from" (.val (.ix (.var 2) (.con (.int 1))) (.val (.con (.int 0)) (.val (.bin .sub (.glb "NOTES" (.int 4)) (.con (.int 1))) .nil))))) (.cons (.ret (.con (.bool false))) .nil) .nil) .nil))) (.cons (.ret (.call "is_rising" (.val (.lc [2] (.nm 2) (.seq (.var 0)) .nil (.ix (.var 2) (.con (.int 0)))) .nil))) .nil)))⟩
def f_is_system : Fn := ⟨"is_system", 1, ["value", "names", "writer"], (.cons (.ife (.or (.not (.isi (.var 0) .tuple)) (.or (.cmp .ne (.bi .len (.cons (.var 0) .nil)) (.con (.int 4))) (.not (.call "are_cells" (.val (.ix (.var 0) (.con (.int 0))) .nil))))) (.cons (.ret (.con (.bool false))) .nil) .nil) (.cons (.set 1 (.call "names_of" (.val (.ix (.var 0) (.con (.int 0))) .nil))) (.cons (.ife (.or (.not (.call "is_reader" (.val (.ix (.var 0) (.con (.int 1))) (.val (.var 1) .nil)))) (.not (.call "is_answer" (.val (.ix (.var 0) (.con (.int 2))) (.val (.var 1) .nil))))) (.cons (.ret (.con (.bool false))) .nil) .nil) (.cons (.ife (.or (.not (.isi (.ix (.var 0) (.con (.int 3))) .tuple)) (.cmp .gt (.bi .len (.cons (.ix (.var 0) (.con (.int 3))) .nil)) (.glb "MOST_WRITERS" (.int 3)))) (.cons (.ret (.con (.bool false))) .nil) .nil) (.cons (.ret (.bi .all (.cons (.lc [2] (.nm 2) (.seq (.ix (.var 0) (.con (.int 3)))) .nil (.call "is_writer" (.val (.var 2) (.val (.var 1) .nil)))) .nil))) .nil)))))⟩
def f_need_system : Fn := ⟨"need_system", 1, ["value"], (.cons (.ife (.not (.call "is_system" (.val (.var 0) .nil))) (.cons (.rse "InvalidSystem" (.cons (.con (.str "not a system")) .nil)) .nil) .nil) .nil)⟩
def f_is_test : Fn := ⟨"is_test", 1, ["row"], (.cons (.ret (.cmp .inn (.ix (.var 0) (.con (.int 0))) (.glb "TESTS" (.tuple [(.str "is"), (.str "not"), (.str "same")])))) .nil)⟩
def f_test_rows : Fn := ⟨"test_rows", 1, ["system", "number", "row"], (.cons (.ret (.lc [1, 2] (.tup [(.nm 1), (.nm 2)]) (.enu (.ix (.var 0) (.con (.int 1)))) (.cons (.call "is_test" (.val (.var 2) .nil)) .nil) (.var 1))) .nil)⟩
def f_tests_of : Fn := ⟨"tests_of", 1, ["system"], (.cons (.exp (.call "need_system" (.val (.var 0) .nil))) (.cons (.ret (.call "test_rows" (.val (.var 0) .nil))) .nil))⟩
def f__law_source : Fn := ⟨"_law_source", 2, ["script", "index", "cell"], (.cons (.set 2 (.con (.int 0))) (.cons (.ife (.cmp .lt (.var 1) (.bi .len (.cons (.var 0) .nil))) (.cons (.set 2 (.bi .abs (.cons (.ix (.var 0) (.var 1)) .nil))) .nil) .nil) (.cons (.ife (.cmp .lt (.var 2) (.bin .pow (.con (.int 10)) (.con (.int 18)))) (.cons (.ret (.lst (.cons (.con (.int 0)) (.cons (.bin .add (.con (.int 1)) (.bin .mod (.bi .int (.cons (.bin .add (.bin .mul (.var 2) (.con (.int 7919))) (.bin .mul (.con (.int 104729)) (.var 1))) .nil)) (.con (.int 2147483646)))) .nil)))) .nil) .nil) (.cons (.ret (.lst (.cons (.var 2) (.cons (.bin .add (.con (.int 1)) (.bin .mod (.bi .int (.cons (.bin .add (.var 2) (.var 1)) .nil)) (.con (.int 2147483646)))) .nil)))) .nil))))⟩
def f__law_draw : Fn := ⟨"_law_draw", 2, ["source", "size", "drawn"], (.cons (.ife (.cmp .gt (.ix (.var 0) (.con (.int 0))) (.con (.int 0))) (.cons (.set 2 (.bin .mod (.bi .int (.cons (.ix (.var 0) (.con (.int 0))) .nil)) (.var 1))) (.cons (.setix 0 (.con (.int 0)) (.bin .fdiv (.ix (.var 0) (.con (.int 0))) (.var 1))) (.cons (.ret (.var 2)) .nil))) .nil) (.cons (.setix 0 (.con (.int 1)) (.bin .mod (.bi .int (.cons (.bin .mul (.ix (.var 0) (.con (.int 1))) (.con (.int 48271))) .nil)) (.con (.int 2147483647)))) (.cons (.set 2 (.bi .int (.cons (.bin .fdiv (.bin .mod (.bi .int (.cons (.bin .mul (.ix (.var 0) (.con (.int 1))) (.ix (.var 0) (.con (.int 1)))) .nil)) (.con (.int 2147483629))) (.con (.int 64))) .nil))) (.cons (.ife (.cmp .gt (.var 1) (.bin .pow (.con (.int 10)) (.con (.int 7)))) (.cons (.setix 0 (.con (.int 1)) (.bin .mod (.bi .int (.cons (.bin .mul (.ix (.var 0) (.con (.int 1))) (.con (.int 48271))) .nil)) (.con (.int 2147483647)))) (.cons (.set 2 (.bin .add (.bin .mul (.var 2) (.con (.int 2147483647))) (.ix (.var 0) (.con (.int 1))))) .nil)) .nil) (.cons (.ret (.bin .mod (.var 2) (.var 1))) .nil)))))⟩
def f__law_choice : Fn := ⟨"_law_choice", 2, ["source", "items"], (.cons (.ret (.ix (.var 1) (.call "_law_draw" (.mut 0 (.val (.bi .len (.cons (.var 1) .nil)) .nil))))) .nil)⟩
def f__law_from : Fn := ⟨"_law_from", 3, ["value", "low", "high"], (.cons (.ret (.and (.isi (.var 0) .int) (.and (.not (.isi (.var 0) .bool)) (.chain .le .le (.var 1) (.var 0) (.var 2))))) .nil)⟩
def f__law_words : Fn := ⟨"_law_words", 1, ["source"], (.cons (.ret (.call "_law_choice" (.mut 0 (.val (.lst (.cons (.con (.str "amid")) (.cons (.con (.str "amid")) (.cons (.con (.str "free")) (.cons (.con (.str "x")) (.cons (.con (.str "zzzzzzzz")) .nil)))))) .nil)))) .nil)⟩
def f__law_test : Fn := ⟨"_law_test", 3, ["source", "size", "back", "word", "other"], (.cons (.set 3 (.call "_law_choice" (.mut 0 (.val (.lst (.cons (.con (.str "same")) (.cons (.con (.str "same")) (.cons (.con (.str "is")) (.cons (.con (.str "not")) .nil))))) .nil)))) (.cons (.set 4 (.ife (.cmp .eq (.var 3) (.con (.str "same"))) (.call "_law_draw" (.mut 0 (.val (.con (.int 4)) .nil))) (.call "_law_words" (.mut 0 .nil)))) (.cons (.ret (.tup (.cons (.var 3) (.cons (.call "_law_draw" (.mut 0 (.val (.con (.int 4)) .nil))) (.cons (.var 4) (.cons (.ife (.var 2) (.con (.int 0)) (.call "_law_draw" (.mut 0 (.val (.bin .add (.var 1) (.con (.int 1))) .nil)))) .nil)))))) .nil)))⟩
def f__law_reader : Fn := ⟨"_law_reader", 3, ["source", "names", "most", "size", "rows", "number", "way"], (.cons (.par [3, 4] (.cons (.bin .add (.con (.int 1)) (.call "_law_draw" (.mut 0 (.val (.var 2) .nil)))) (.cons (.lst .nil) .nil))) (.cons (.frr (.nm 5) (.rng1 (.var 3)) (.cons (.set 6 (.call "_law_draw" (.mut 0 (.val (.con (.int 8)) .nil)))) (.cons (.ife (.cmp .lt (.var 6) (.con (.int 5))) (.cons (.app 4 (.tup (.cons (.con (.str "read")) (.cons (.call "_law_choice" (.mut 0 (.val (.var 1) .nil))) (.cons (.call "_law_draw" (.mut 0 (.val (.con (.int 4)) .nil))) .nil))))) .nil) (.cons (.ife (.cmp .lt (.var 6) (.con (.int 7))) (.cons (.app 4 (.call "_law_test" (.mut 0 (.val (.var 3) (.val (.cmp .eq (.call "_law_draw" (.mut 0 (.val (.con (.int 2)) .nil))) (.con (.int 0))) .nil))))) .nil) (.cons (.app 4 (.tup (.cons (.con (.str "go")) (.cons (.ife (.cmp .gt (.call "_law_draw" (.mut 0 (.val (.con (.int 3)) .nil))) (.con (.int 0))) (.bin .add (.var 5) (.con (.int 1))) (.call "_law_draw" (.mut 0 (.val (.bin .add (.var 3) (.con (.int 1))) .nil)))) .nil)))) .nil)) .nil)) .nil))) (.cons (.ret (.bi .tuple (.cons (.var 4) .nil))) .nil)))⟩
def f__law_writer_row : Fn := ⟨"_law_writer_row", 3, ["source", "names", "size", "cell", "way"], (.cons (.par [3, 4] (.cons (.call "_law_choice" (.mut 0 (.val (.var 1) .nil))) (.cons (.call "_law_draw" (.mut 0 (.val (.con (.int 10)) .nil))) .nil))) (.cons (.ife (.cmp .lt (.var 4) (.con (.int 4))) (.cons (.ret (.tup (.cons (.con (.str "new")) (.cons (.var 3) .nil)))) .nil) .nil) (.cons (.ife (.cmp .lt (.var 4) (.con (.int 7))) (.cons (.ret (.tup (.cons (.con (.str "put")) (.cons (.var 3) (.cons (.call "_law_words" (.mut 0 .nil)) .nil))))) .nil) .nil) (.cons (.ife (.cmp .eq (.var 4) (.con (.int 7))) (.cons (.ret (.tup (.cons (.con (.str "when")) (.cons (.var 3) (.cons (.call "_law_words" (.mut 0 .nil)) (.cons (.call "_law_draw" (.mut 0 (.val (.bin .add (.var 2) (.con (.int 1))) .nil))) .nil)))))) .nil) .nil) (.cons (.ife (.cmp .eq (.var 4) (.con (.int 8))) (.cons (.ret (.tup (.cons (.con (.str "swap")) (.cons (.var 3) (.cons (.call "_law_words" (.mut 0 .nil)) (.cons (.call "_law_words" (.mut 0 .nil)) (.cons (.call "_law_draw" (.mut 0 (.val (.bin .add (.var 2) (.con (.int 1))) .nil))) .nil))))))) .nil) .nil) (.cons (.ret (.tup (.cons (.con (.str "go")) (.cons (.call "_law_draw" (.mut 0 (.val (.bin .add (.var 2) (.con (.int 1))) .nil))) .nil)))) .nil))))))⟩
def f__law_writer : Fn := ⟨"_law_writer", 3, ["source", "names", "most", "size", "number"], (.cons (.set 3 (.bin .add (.con (.int 1)) (.call "_law_draw" (.mut 0 (.val (.var 2) .nil))))) (.cons (.ret (.bi .tuple (.cons (.lc [4] (.nm 4) (.rng1 (.var 3)) .nil (.call "_law_writer_row" (.mut 0 (.val (.var 1) (.val (.var 3) .nil))))) .nil))) .nil))⟩
def f__law_cells : Fn := ⟨"_law_cells", 2, ["source", "most", "names", "some", "name"], (.cons (.set 2 (.call "_law_choice" (.mut 0 (.val (.lst (.cons (.lst (.cons (.con (.str "n")) (.cons (.con (.str "x")) (.cons (.con (.str "y")) .nil)))) (.cons (.lst (.cons (.con (.str "a")) (.cons (.con (.str "aa")) (.cons (.con (.str "zzzzzzzz")) .nil)))) (.cons (.lst (.cons (.con (.str "is")) (.cons (.con (.str "read")) (.cons (.con (.str "same")) .nil)))) .nil)))) .nil)))) (.cons (.set 3 (.lc [4] (.nm 4) (.seq (.sl (.var 2) .none (.some (.var 1)))) (.cons (.cmp .gt (.call "_law_draw" (.mut 0 (.val (.con (.int 4)) .nil))) (.con (.int 0))) .nil) (.var 4))) (.cons (.set 3 (.ife (.cmp .ne (.var 3) (.lst .nil)) (.var 3) (.sl (.var 2) .none (.some (.con (.int 1)))))) (.cons (.ret (.bi .tuple (.cons (.lc [4] (.nm 4) (.seq (.var 3)) .nil (.tup (.cons (.var 4) (.cons (.call "_law_choice" (.mut 0 (.val (.lst (.cons (.con .none) (.cons (.con .none) (.cons (.con .none) (.cons (.call "_law_words" (.mut 0 .nil)) .nil))))) .nil))) .nil)))) .nil))) .nil))))⟩
def f__law_answer : Fn := ⟨"_law_answer", 2, ["source", "names", "some", "name"], (.cons (.set 2 (.lc [3] (.nm 3) (.seq (.var 1)) (.cons (.cmp .gt (.call "_law_draw" (.mut 0 (.val (.con (.int 4)) .nil))) (.con (.int 0))) .nil) (.var 3))) (.cons (.ret (.bi .tuple (.cons (.lc [3] (.nm 3) (.seq (.ife (.cmp .ne (.var 2) (.lst .nil)) (.var 2) (.sl (.var 1) .none (.some (.con (.int 1)))))) .nil (.tup (.cons (.var 3) (.cons (.call "_law_draw" (.mut 0 (.val (.con (.int 4)) .nil))) .nil)))) .nil))) .nil))⟩
def f__law_system : Fn := ⟨"_law_system", 1, ["source", "cells", "names", "cell", "writers", "number"], (.cons (.set 1 (.call "_law_cells" (.mut 0 (.val (.con (.int 3)) .nil)))) (.cons (.set 2 (.lc [3] (.nm 3) (.seq (.var 1)) .nil (.ix (.var 3) (.con (.int 0))))) (.cons (.set 4 (.bi .tuple (.cons (.lc [5] (.nm 5) (.rng1 (.call "_law_draw" (.mut 0 (.val (.con (.int 4)) .nil)))) .nil (.call "_law_writer" (.mut 0 (.val (.var 2) (.val (.con (.int 6)) .nil))))) .nil))) (.cons (.ret (.tup (.cons (.var 1) (.cons (.call "_law_reader" (.mut 0 (.val (.var 2) (.val (.con (.int 10)) .nil)))) (.cons (.call "_law_answer" (.mut 0 (.val (.var 2) .nil))) (.cons (.var 4) .nil)))))) .nil))))⟩
def f__law_changed : Fn := ⟨"_law_changed", 2, ["source", "value", "way", "at", "some"], (.cons (.set 2 (.call "_law_draw" (.mut 0 (.val (.con (.int 7)) .nil)))) (.cons (.ife (.and (.isi (.var 1) .tuple) (.and (.cmp .ne (.var 1) (.tup .nil)) (.cmp .gt (.var 2) (.con (.int 0))))) (.cons (.set 3 (.call "_law_draw" (.mut 0 (.val (.bi .len (.cons (.var 1) .nil)) .nil)))) (.cons (.ife (.cmp .eq (.var 2) (.con (.int 1))) (.cons (.ret (.bin .add (.sl (.var 1) .none (.some (.var 3))) (.sl (.var 1) (.some (.bin .add (.var 3) (.con (.int 1)))) .none))) .nil) .nil) (.cons (.ife (.cmp .eq (.var 2) (.con (.int 2))) (.cons (.ret (.bin .add (.sl (.var 1) .none (.some (.bin .add (.var 3) (.con (.int 1))))) (.sl (.var 1) (.some (.var 3)) .none))) .nil) .nil) (.cons (.ife (.cmp .eq (.var 2) (.con (.int 3))) (.cons (.ret (.bi .list (.cons (.var 1) .nil))) .nil) .nil) (.cons (.ret (.bin .add (.bin .add (.sl (.var 1) .none (.some (.var 3))) (.tup (.cons (.call "_law_changed" (.mut 0 (.val (.ix (.var 1) (.var 3)) .nil))) .nil))) (.sl (.var 1) (.some (.bin .add (.var 3) (.con (.int 1)))) .none))) .nil))))) .nil) (.cons (.set 4 (.lst (.cons (.con .none) (.cons (.con (.bool true)) (.cons (.con (.bool false)) (.cons (.con (.int 0)) (.cons (.con (.int 1)) (.cons (.con (.int 2)) (.cons (.con (.int 3)) (.cons (.con (.int 4)) (.cons (.con (.int 10)) (.cons (.con (.int 11)) (.cons (.neg (.con (.int 1))) (.cons (.con (.int 21)) (.cons (.con (.str "x")) (.cons (.con (.str "X")) (.cons (.con (.str "amid")) (.cons (.con (.str "read")) (.cons (.con (.str "same")) (.cons (.con (.str "put")) (.cons (.con (.str "")) (.cons (.con (.str "abcdefghi")) .nil)))))))))))))))))))))) (.cons (.ret (.call "_law_choice" (.mut 0 (.val (.bin .add (.var 4) (.lst (.cons (.tup .nil) (.cons (.tup (.cons (.con (.str "go")) (.cons (.con (.int 0)) .nil))) (.cons (.tup (.cons (.con (.str "new")) (.cons (.con (.str "x")) .nil))) (.cons (.tup (.cons (.con (.str "read")) (.cons (.con (.str "x")) (.cons (.con (.int 3)) .nil)))) (.cons (.tup (.cons (.con (.str "x")) (.cons (.con (.int 0)) .nil))) (.cons (.tup (.cons (.con (.str "x")) (.cons (.con .none) .nil))) .nil)))))))) .nil)))) .nil))))⟩
def f__law_name : Fn := ⟨"_law_name", 1, ["value", "letter"], (.cons (.ife (.or (.not (.isi (.var 0) .str)) (.not (.chain .le .le (.con (.int 1)) (.bi .len (.cons (.var 0) .nil)) (.con (.int 8))))) (.cons (.ret (.con (.bool false))) .nil) .nil) (.cons (.ret (.cmp .eq (.lc [1] (.nm 1) (.seq (.var 0)) (.cons (.cmp .nin (.var 1) (.con (.str "abcdefghijklmnopqrstuvwxyz"))) .nil) (.var 1)) (.lst .nil))) .nil))⟩
def f__law_shape : Fn := ⟨"_law_shape", 4, ["value", "names", "size", "shapes", "shape", "part", "sign", "good"], (.cons (.ife (.or (.not (.isi (.var 0) .tuple)) (.or (.cmp .eq (.var 0) (.tup .nil)) (.or (.not (.isi (.ix (.var 0) (.con (.int 0))) .str)) (.cmp .nin (.ix (.var 0) (.con (.int 0))) (.var 3))))) (.cons (.ret (.con (.bool false))) .nil) .nil) (.cons (.set 4 (.ix (.var 3) (.ix (.var 0) (.con (.int 0))))) (.cons (.ife (.cmp .ne (.bi .len (.cons (.var 0) .nil)) (.bin .add (.bi .len (.cons (.var 4) .nil)) (.con (.int 1)))) (.cons (.ret (.con (.bool false))) .nil) .nil) (.cons (.frr (.tup [(.nm 5), (.nm 6)]) (.zip (.sl (.var 0) (.some (.con (.int 1))) .none) (.var 4)) (.cons (.set 7 (.ife (.cmp .eq (.var 6) (.con (.str "n"))) (.call "_law_from" (.val (.var 5) (.val (.con (.int 0)) (.val (.var 2) .nil)))) (.call "_law_from" (.val (.var 5) (.val (.con (.int 0)) (.val (.con (.int 3)) .nil)))))) (.cons (.ife (.cmp .eq (.var 6) (.con (.str "c"))) (.cons (.set 7 (.and (.isi (.var 5) .str) (.cmp .inn (.var 5) (.var 1)))) .nil) .nil) (.cons (.ife (.cmp .eq (.var 6) (.con (.str "w"))) (.cons (.set 7 (.call "_law_name" (.val (.var 5) .nil))) .nil) .nil) (.cons (.ife (.not (.var 7)) (.cons (.ret (.con (.bool false))) .nil) .nil) .nil))))) (.cons (.ret (.con (.bool true))) .nil)))))⟩
def f__law_rows : Fn := ⟨"_law_rows", 4, ["value", "names", "most", "shapes", "row"], (.cons (.ife (.or (.not (.isi (.var 0) .tuple)) (.not (.chain .le .le (.con (.int 1)) (.bi .len (.cons (.var 0) .nil)) (.var 2)))) (.cons (.ret (.con (.bool false))) .nil) .nil) (.cons (.ret (.cmp .eq (.lc [4] (.nm 4) (.seq (.var 0)) (.cons (.not (.call "_law_shape" (.val (.var 4) (.val (.var 1) (.val (.bi .len (.cons (.var 0) .nil)) (.val (.var 3) .nil)))))) .nil) (.var 4)) (.lst .nil))) .nil))⟩
def f__law_climbs : Fn := ⟨"_law_climbs", 1, ["rows", "at"], (.cons (.ret (.cmp .eq (.lc [1] (.nm 1) (.rng2 (.con (.int 1)) (.bi .len (.cons (.var 0) .nil))) (.cons (.not (.cmp .lt (.ix (.var 0) (.bin .sub (.var 1) (.con (.int 1)))) (.ix (.var 0) (.var 1)))) .nil) (.var 1)) (.lst .nil))) .nil)⟩
def f__law_good_cells : Fn := ⟨"_law_good_cells", 1, ["value", "cell"], (.cons (.ife (.or (.not (.isi (.var 0) .tuple)) (.not (.chain .le .le (.con (.int 1)) (.bi .len (.cons (.var 0) .nil)) (.con (.int 3))))) (.cons (.ret (.con (.bool false))) .nil) .nil) (.cons (.frr (.nm 1) (.seq (.var 0)) (.cons (.ife (.or (.not (.isi (.var 1) .tuple)) (.or (.cmp .ne (.bi .len (.cons (.var 1) .nil)) (.con (.int 2))) (.not (.call "_law_name" (.val (.ix (.var 1) (.con (.int 0))) .nil))))) (.cons (.ret (.con (.bool false))) .nil) .nil) (.cons (.ife (.and (.notn (.ix (.var 1) (.con (.int 1)))) (.not (.call "_law_name" (.val (.ix (.var 1) (.con (.int 1))) .nil)))) (.cons (.ret (.con (.bool false))) .nil) .nil) .nil))) (.cons (.ret (.call "_law_climbs" (.val (.lc [1] (.nm 1) (.seq (.var 0)) .nil (.ix (.var 1) (.con (.int 0)))) .nil))) .nil)))⟩
def f__law_good_answer : Fn := ⟨"_law_good_answer", 2, ["value", "names", "pair"], (.cons (.ife (.or (.not (.isi (.var 0) .tuple)) (.cmp .eq (.var 0) (.tup .nil))) (.cons (.ret (.con (.bool false))) .nil) .nil) (.cons (.frr (.nm 2) (.seq (.var 0)) (.cons (.ife (.or (.not (.isi (.var 2) .tuple)) (.or (.cmp .ne (.bi .len (.cons (.var 2) .nil)) (.con (.int 2))) (.or (.not (.isi (.ix (.var 2) (.con (.int 0))) .str)) (.cmp .nin (.ix (.var 2) (.con (.int 0))) (.var 1))))) (.cons (.ret (.con (.bool false))) .nil) .nil) (.cons (.ife (.not (.call "_law_from" (.val (.ix (.var 2) (.con (.int 1))) (.val (.con (.int 0)) (.val (.con (.int 3)) .nil))))) (.cons (.ret (.con (.bool false))) .nil) .nil) .nil))) (.cons (.ret (.call "_law_climbs" (.val (.lc [2] (.nm 2) (.seq (.var 0)) .nil (.ix (.var 2) (.con (.int 0)))) .nil))) .nil)))⟩
def f__law_good : Fn := ⟨"_law_good", 1, ["value", "names", "cell", "reads", "writes", "writer"], (.cons (.ife (.or (.not (.isi (.var 0) .tuple)) (.or (.cmp .ne (.bi .len (.cons (.var 0) .nil)) (.con (.int 4))) (.not (.call "_law_good_cells" (.val (.ix (.var 0) (.con (.int 0))) .nil))))) (.cons (.ret (.con (.bool false))) .nil) .nil) (.cons (.set 1 (.lc [2] (.nm 2) (.seq (.ix (.var 0) (.con (.int 0)))) .nil (.ix (.var 2) (.con (.int 0))))) (.cons (.set 3 (.dlit (.cons (.con (.str "read")) (.cons (.con (.str "same")) (.cons (.con (.str "is")) (.cons (.con (.str "not")) (.cons (.con (.str "go")) .nil))))) (.cons (.con (.str "cd")) (.cons (.con (.str "ddn")) (.cons (.con (.str "dwn")) (.cons (.con (.str "dwn")) (.cons (.con (.str "n")) .nil))))))) (.cons (.set 4 (.dlit (.cons (.con (.str "new")) (.cons (.con (.str "put")) (.cons (.con (.str "when")) (.cons (.con (.str "swap")) (.cons (.con (.str "go")) .nil))))) (.cons (.con (.str "c")) (.cons (.con (.str "cw")) (.cons (.con (.str "cwn")) (.cons (.con (.str "cwwn")) (.cons (.con (.str "n")) .nil))))))) (.cons (.ife (.or (.not (.call "_law_rows" (.val (.ix (.var 0) (.con (.int 1))) (.val (.var 1) (.val (.con (.int 10)) (.val (.var 3) .nil)))))) (.not (.call "_law_good_answer" (.val (.ix (.var 0) (.con (.int 2))) (.val (.var 1) .nil))))) (.cons (.ret (.con (.bool false))) .nil) .nil) (.cons (.ife (.or (.not (.isi (.ix (.var 0) (.con (.int 3))) .tuple)) (.cmp .gt (.bi .len (.cons (.ix (.var 0) (.con (.int 3))) .nil)) (.con (.int 3)))) (.cons (.ret (.con (.bool false))) .nil) .nil) (.cons (.ret (.cmp .eq (.lc [5] (.nm 5) (.seq (.ix (.var 0) (.con (.int 3)))) (.cons (.not (.call "_law_rows" (.val (.var 5) (.val (.var 1) (.val (.con (.int 6)) (.val (.var 4) .nil)))))) .nil) (.var 5)) (.lst .nil))) .nil)))))))⟩
def f__law_examples : Fn := ⟨"_law_examples", 0, ["cells", "rows", "found", "row", "tens", "lone"], (.cons (.set 0 (.tup (.cons (.tup (.cons (.con (.str "a")) (.cons (.con .none) .nil))) (.cons (.tup (.cons (.con (.str "b")) (.cons (.con (.str "x")) .nil))) .nil)))) (.cons (.set 1 (.lst (.cons (.tup (.cons (.con (.str "read")) (.cons (.con (.str "a")) (.cons (.con (.int 3)) .nil)))) (.cons (.tup (.cons (.con (.str "read")) (.cons (.con (.str "a")) (.cons (.con (.int 4)) .nil)))) (.cons (.tup (.cons (.con (.str "read")) (.cons (.con (.str "c")) (.cons (.con (.int 0)) .nil)))) (.cons (.tup (.cons (.con (.str "same")) (.cons (.con (.int 0)) (.cons (.con (.int 3)) (.cons (.con (.int 1)) .nil))))) (.cons (.tup (.cons (.con (.str "same")) (.cons (.con (.int 0)) (.cons (.con (.int 4)) (.cons (.con (.int 1)) .nil))))) .nil))))))) (.cons (.set 1 (.bin .add (.var 1) (.lst (.cons (.tup (.cons (.con (.str "same")) (.cons (.con (.int 0)) (.cons (.con (.int 0)) .nil)))) (.cons (.tup (.cons (.con (.str "is")) (.cons (.con (.int 0)) (.cons (.con (.str "x")) (.cons (.con (.int 1)) .nil))))) (.cons (.tup (.cons (.con (.str "not")) (.cons (.con (.int 0)) (.cons (.con (.str "X")) (.cons (.con (.int 1)) .nil))))) (.cons (.tup (.cons (.con (.str "not")) (.cons (.con (.int 3)) (.cons (.con (.str "x")) (.cons (.con (.int 2)) .nil))))) .nil))))))) (.cons (.set 1 (.bin .add (.var 1) (.lst (.cons (.tup (.cons (.con (.str "go")) (.cons (.con (.int 1)) .nil))) (.cons (.tup (.cons (.con (.str "go")) (.cons (.con (.int 2)) .nil))) (.cons (.tup (.cons (.con (.str "go")) (.cons (.con (.bool true)) .nil))) (.cons (.tup (.cons (.con (.str "go")) .nil)) .nil))))))) (.cons (.set 2 (.lc [3] (.nm 3) (.seq (.var 1)) .nil (.tup (.cons (.var 0) (.cons (.tup (.cons (.var 3) .nil)) (.cons (.tup (.cons (.tup (.cons (.con (.str "a")) (.cons (.con (.int 0)) .nil))) .nil)) (.cons (.tup .nil) .nil))))))) (.cons (.set 1 (.lst (.cons (.tup (.cons (.con (.str "new")) (.cons (.con (.str "a")) .nil))) (.cons (.tup (.cons (.con (.str "new")) (.cons (.con (.str "a")) (.cons (.con (.str "x")) .nil)))) (.cons (.tup (.cons (.con (.str "put")) (.cons (.con (.str "b")) (.cons (.con (.str "x")) .nil)))) (.cons (.tup (.cons (.con (.str "put")) (.cons (.con (.str "b")) (.cons (.con (.int 1)) .nil)))) (.cons (.tup (.cons (.con (.str "when")) (.cons (.con (.str "a")) (.cons (.con (.str "x")) (.cons (.con (.int 1)) .nil))))) .nil))))))) (.cons (.set 1 (.bin .add (.var 1) (.lst (.cons (.tup (.cons (.con (.str "when")) (.cons (.con (.str "a")) (.cons (.con (.str "x")) (.cons (.con (.int 2)) .nil))))) (.cons (.tup (.cons (.con (.str "swap")) (.cons (.con (.str "a")) (.cons (.con (.str "x")) (.cons (.con (.str "y")) (.cons (.con (.int 1)) .nil)))))) (.cons (.tup (.cons (.con (.str "swap")) (.cons (.con (.str "a")) (.cons (.con (.str "x")) (.cons (.con (.int 1)) .nil))))) .nil)))))) (.cons (.set 1 (.bin .add (.var 1) (.lst (.cons (.tup (.cons (.con (.str "go")) (.cons (.con (.int 1)) .nil))) (.cons (.tup (.cons (.con (.str "read")) (.cons (.con (.str "a")) (.cons (.con (.int 0)) .nil)))) .nil))))) (.cons (.set 2 (.bin .add (.var 2) (.lc [3] (.nm 3) (.seq (.var 1)) .nil (.tup (.cons (.var 0) (.cons (.tup (.cons (.tup (.cons (.con (.str "go")) (.cons (.con (.int 1)) .nil))) .nil)) (.cons (.tup (.cons (.tup (.cons (.con (.str "a")) (.cons (.con (.int 0)) .nil))) .nil)) (.cons (.tup (.cons (.tup (.cons (.var 3) .nil)) .nil)) .nil)))))))) (.cons (.set 4 (.bin .mul (.tup (.cons (.tup (.cons (.con (.str "go")) (.cons (.con (.int 0)) .nil))) .nil)) (.con (.int 10)))) (.cons (.set 5 (.tup (.cons (.tup (.cons (.con (.str "a")) (.cons (.con (.int 0)) .nil))) .nil))) (.cons (.set 2 (.bin .add (.var 2) (.lst (.cons (.tup (.cons (.var 0) (.cons (.var 4) (.cons (.tup (.cons (.tup (.cons (.con (.str "a")) (.cons (.con (.int 0)) .nil))) (.cons (.tup (.cons (.con (.str "b")) (.cons (.con (.int 0)) .nil))) .nil))) (.cons (.bin .mul (.tup (.cons (.sl (.var 4) .none (.some (.con (.int 6)))) .nil)) (.con (.int 3))) .nil))))) (.cons (.tup (.cons (.var 0) (.cons (.bin .add (.var 4) (.sl (.var 4) .none (.some (.con (.int 1))))) (.cons (.var 5) (.cons (.tup .nil) .nil))))) .nil))))) (.cons (.set 2 (.bin .add (.var 2) (.lst (.cons (.tup (.cons (.var 0) (.cons (.var 4) (.cons (.var 5) (.cons (.tup (.cons (.sl (.var 4) .none (.some (.con (.int 7)))) .nil)) .nil))))) (.cons (.tup (.cons (.var 0) (.cons (.var 4) (.cons (.var 5) (.cons (.bin .mul (.tup (.cons (.sl (.var 4) .none (.some (.con (.int 1)))) .nil)) (.con (.int 4))) .nil))))) .nil))))) (.cons (.set 2 (.bin .add (.var 2) (.lst (.cons (.tup (.cons (.var 0) (.cons (.var 4) (.cons (.tup (.cons (.tup (.cons (.con (.str "b")) (.cons (.con (.int 0)) .nil))) (.cons (.tup (.cons (.con (.str "a")) (.cons (.con (.int 0)) .nil))) .nil))) (.cons (.tup .nil) .nil))))) (.cons (.tup (.cons (.var 0) (.cons (.var 4) (.cons (.tup .nil) (.cons (.tup .nil) .nil))))) (.cons (.tup (.cons (.rev (.var 0)) (.cons (.var 4) (.cons (.var 5) (.cons (.tup .nil) .nil))))) .nil)))))) (.cons (.ret (.bin .add (.var 2) (.lst (.cons (.tup (.cons (.tup .nil) (.cons (.var 4) (.cons (.var 5) (.cons (.tup .nil) .nil))))) (.cons (.tup (.cons (.var 0) (.cons (.tup .nil) (.cons (.var 5) (.cons (.tup .nil) .nil))))) (.cons (.tup (.cons (.var 0) (.cons (.var 4) (.cons (.var 5) (.cons (.tup (.cons (.tup .nil) .nil)) .nil))))) .nil)))))) .nil)))))))))))))))⟩
def f_law : Fn := ⟨"law", 1, ["script", "k", "source", "value", "turn", "found", "tests", "number", "row"], (.cons (.frr (.nm 1) (.rng1 (.bin .add (.con (.int 1)) (.bi .min (.cons (.bi .len (.cons (.var 0) .nil)) (.cons (.con (.int 10)) .nil))))) (.cons (.set 2 (.call "_law_source" (.val (.var 0) (.val (.var 1) .nil)))) (.cons (.set 3 (.call "_law_system" (.mut 2 .nil))) (.cons (.frr (.nm 4) (.rng1 (.con (.int 7))) (.cons (.set 5 (.call "is_system" (.val (.var 3) .nil))) (.cons (.ife (.or (.not (.isi (.var 5) .bool)) (.cmp .ne (.var 5) (.call "_law_good" (.val (.var 3) .nil)))) (.cons (.ret (.con (.bool false))) .nil) .nil) (.cons (.ife (.var 5) (.cons (.set 6 (.lc [7, 8] (.tup [(.nm 7), (.nm 8)]) (.enu (.ix (.var 3) (.con (.int 1)))) (.cons (.cmp .inn (.ix (.var 8) (.con (.int 0))) (.lst (.cons (.con (.str "same")) (.cons (.con (.str "is")) (.cons (.con (.str "not")) .nil))))) .nil) (.var 7))) (.cons (.ife (.cmp .ne (.call "tests_of" (.val (.var 3) .nil)) (.var 6)) (.cons (.ret (.con (.bool false))) .nil) .nil) .nil)) .nil) (.cons (.set 3 (.call "_law_changed" (.mut 2 (.val (.var 3) .nil)))) .nil))))) .nil)))) (.cons (.ret (.cmp .eq (.lc [3] (.nm 3) (.seq (.call "_law_examples" .nil)) (.cons (.cmp .ne (.call "is_system" (.val (.var 3) .nil)) (.call "_law_good" (.val (.var 3) .nil))) .nil) (.var 3)) (.lst .nil))) .nil))⟩
def T : List Fn := [f_is_from, f_is_name, f_is_rising, f_are_cells, f_names_of, f_is_reader_row, f_is_writer_row, f_is_reader, f_is_writer, f_is_answer, f_is_system, f_need_system, f_is_test, f_test_rows, f_tests_of, f__law_source, f__law_draw, f__law_choice, f__law_from, f__law_words, f__law_test, f__law_reader, f__law_writer_row, f__law_writer, f__law_cells, f__law_answer, f__law_system, f__law_changed, f__law_name, f__law_shape, f__law_rows, f__law_climbs, f__law_good_cells, f__law_good_answer, f__law_good, f__law_examples, f_law]
def consts : List (Str × PyData) := [("LETTERS", (.str "abcdefghijklmnopqrstuvwxyz")), ("TESTS", (.tuple [(.str "is"), (.str "not"), (.str "same")])), ("NOTES", (.int 4)), ("MOST_CELLS", (.int 3)), ("MOST_WRITERS", (.int 3)), ("MOST_READER", (.int 10)), ("MOST_WRITER", (.int 6))]
def blts : List Str := ["len", "all", "list", "tuple", "int", "abs", "min", "str", "isinstance", "range", "zip", "enumerate", "bool"]
end K01

set_option Elab.async false
set_option linter.all false
set_option maxRecDepth 100000
namespace K01
open PySem Y
def fuel : Nat := 1000
variable {n : Nat} {Q : R → List Y.Slot → Prop}
theorem eq_nil {xs : List PyData} (h : SeqAt.shaped (.list xs) = true) : eqD (.list xs) (.list []) = some xs.isEmpty := by
  rw [eqD_of h rfl]
  cases xs <;> rfl
theorem eq_nilT {xs : List PyData} (h : SeqAt.shaped (.tuple xs) = true) : eqD (.tuple xs) (.tuple []) = some xs.isEmpty := by
  rw [eqD_of h rfl]
  cases xs <;> rfl
theorem s_law_from {T : List Fn} {fuel : Nat} (hf : Has T f__law_from) {d : PyData} {lo hi : Int} (hQ : Q (.fz (.bool (fromB d lo hi))) [.fz d, .fz (.int lo), .fz (.int hi)]) :
    WO (callN fuel T (n + 1) "_law_from" [.fz d, .fz (.int lo), .fz (.int hi)]) Q := by
  refine WO_call hf rfl ?_
  cases d with
  | int i =>
    simp [f__law_from, fin]
    have hQ : Q (.fz (.bool (decide (lo ≤ i) && decide (i ≤ hi)))) [.fz (.int i), .fz (.int lo), .fz (.int hi)] := hQ
    split
    · rename_i h
      rw [decide_eq_true h] at hQ
      simpa using hQ
    · rename_i h
      rw [decide_eq_false h] at hQ
      exact hQ
  | bool b => simp [f__law_from, fin]; exact hQ
  | _ => simp [f__law_from, fin, isTy]; exact hQ
def badL : PyData → Option PyData := fun p => match p with
  | .str z => if letB z then none else some (.str z)
  | _ => none
theorem bad_empty (l : List Nat) : ((l.map fun c => PyData.str ⟨#[c]⟩).filterMap badL).isEmpty = (l.map fun c => (⟨#[c]⟩ : Str)).all letB := by
  induction l with
  | nil => rfl
  | cons c l ih =>
    rw [List.map_cons, List.map_cons, List.filterMap_cons, List.all_cons]
    cases h : letB ⟨#[c]⟩ with
    | true => simp only [badL, h, if_true, Bool.true_and]; exact ih
    | false => simp [badL, h]
theorem char_ok {x : Str} (h : PyData.strOk x = true) : ∀ c ∈ x.cps.toList, PyData.strOk ⟨#[c]⟩ = true := fun c hc => by
  unfold PyData.strOk at h ⊢
  rw [Array.all_eq_true'] at h
  have := h c (Array.mem_toList_iff.mp hc)
  simpa using this
theorem bad_shaped {x : Str} (h : PyData.strOk x = true) : SeqAt.shaped (.list ((x.cps.toList.map fun c => PyData.str ⟨#[c]⟩).filterMap badL)) = true := by
  have hx : ∀ d ∈ (x.cps.toList.map fun c => PyData.str ⟨#[c]⟩).filterMap badL, d.canLay0 = true ∧ d.depth ≤ 0 := fun d hd => by
    obtain ⟨p, hp, e⟩ := List.mem_filterMap.mp hd
    obtain ⟨c, hc, rfl⟩ := List.mem_map.mp hp
    unfold badL at e
    dsimp only at e
    split at e
    · cases e
    · cases e
      exact ⟨char_ok h c hc, Nat.le_refl _⟩
  obtain ⟨h1, h2⟩ := canLayAll_of hx
  unfold SeqAt.shaped
  rw [Bool.and_eq_true, decide_eq_true_eq]
  refine ⟨h1, ?_⟩
  show PyData.depthAll _ + 1 ≤ 64
  omega
theorem okD_str {L k : Nat} {x : Str} (h : okD L k (.str x) = true) : PyData.strOk x = true := by
  have h : (PyData.strOk x && decide (x.length ≤ 1000)) = true := by cases k <;> exact h
  rw [Bool.and_eq_true] at h
  exact h.1
theorem s_law_name {T : List Fn} {fuel : Nat} (hf : Has T f__law_name) {L k : Nat} {d : PyData} (hd : okD L k d = true) (hQ : Q (.fz (.bool (nameB d))) [.fz d]) :
    WO (callN fuel T (n + 1) "_law_name" [.fz d]) Q := by
  refine WO_call hf rfl ?_
  cases d with
  | str x =>
    have hx : x.length ≤ lim := Nat.le_trans (okD_len hd) (by decide)
    by_cases h1 : (1 : Int) ≤ x.length
    · by_cases h2 : (x.length : Int) ≤ 8
      · have e0 : (PyData.str (Str.ofString "abcdefghijklmnopqrstuvwxyz")) = .str letters := rfl
        simp only [f__law_name, e0]
        simp [hx, h1, h2]
        refine W_pure badL (fun p hp => ?_) ?_
        · obtain ⟨c, _, rfl⟩ := List.mem_map.mp hp
          simp [cturn_app, in_letters]
          cases hb : letB ⟨#[c]⟩ <;> simp [badL, hb]
        · have hsh := bad_shaped (okD_str hd)
          have hemp := bad_empty x.cps.toList
          have hl : ((x.cps.toList.map fun c => PyData.str ⟨#[c]⟩).filterMap badL).length ≤ lim := Nat.le_trans (List.length_filterMap_le _ _) (by rw [List.length_map, Array.length_toList]; exact hx)
          generalize (x.cps.toList.map fun c => PyData.str ⟨#[c]⟩).filterMap badL = bs at hsh hemp hl ⊢
          refine ⟨hl, ?_⟩
          simp [eq_nil hsh, fin]
          have : nameB (.str x) = bs.isEmpty := by
            rw [hemp]
            show (decide _ && decide _ && letsB x) = _
            rw [decide_eq_true (by omega), decide_eq_true (by omega)]
            rfl
          rw [this] at hQ
          exact hQ
      · simp [f__law_name, hx, h1, h2, fin]
        have : nameB (.str x) = false := by
          show (decide _ && decide _ && letsB x) = _
          rw [decide_eq_false (p := x.length ≤ 8) (by omega), Bool.and_false]; rfl
        rw [this] at hQ
        exact hQ
    · simp [f__law_name, hx, h1, fin]
      have : nameB (.str x) = false := by
        show (decide _ && decide _ && letsB x) = _
        rw [decide_eq_false (p := 1 ≤ x.length) (by omega)]; rfl
      rw [this] at hQ
      exact hQ
  | _ => simp [f__law_name, fin, isTy]; exact hQ
def climbG (xs : List Str) : PyData → Option PyData := fun p => match p with
  | .int i => if sLt (xs.getD (i - 1).toNat "") (xs.getD i.toNat "") then none else some (.int i)
  | _ => none
theorem rises_iff (xs : List Str) : rises xs = true ↔ ∀ i, i + 1 < xs.length → sLt (xs.getD i "") (xs.getD (i + 1) "") = true := by
  induction xs with
  | nil => simp [rises]
  | cons x xs ih =>
    cases xs with
    | nil => simp [rises]
    | cons y ys =>
      have e : rises (x :: y :: ys) = (sLt x y && rises (y :: ys)) := rfl
      rw [e, Bool.and_eq_true, ih]
      constructor
      · rintro ⟨h1, h2⟩ i hi
        cases i with
        | zero => exact h1
        | succ i =>
          have := h2 i (by simp at hi ⊢; omega)
          simpa using this
      · intro h
        refine ⟨by have := h 0 (by simp); simpa using this, fun i hi => ?_⟩
        have := h (i + 1) (by simp at hi ⊢; omega)
        simpa using this
theorem climb_empty (xs : List Str) : ((rngD 1 (xs.length - 1)).filterMap (climbG xs)).isEmpty = rises xs := by
  rw [Bool.eq_iff_iff, rises_iff, List.isEmpty_iff, List.filterMap_eq_nil_iff]
  constructor
  · intro h i hi
    have := h (.int (1 + (i : Nat))) (by
      unfold rngD
      exact List.mem_map.mpr ⟨i, List.mem_range.mpr (by omega), rfl⟩)
    unfold climbG at this
    dsimp only at this
    have e1 : ((1 : Int) + (i : Nat) - 1).toNat = i := by omega
    have e2 : ((1 : Int) + (i : Nat)).toNat = i + 1 := by omega
    rw [e1, e2] at this
    split at this
    · assumption
    · cases this
  · intro h p hp
    unfold rngD at hp
    obtain ⟨i, hi, rfl⟩ := List.mem_map.mp hp
    have hi := List.mem_range.mp hi
    unfold climbG
    dsimp only
    have e1 : ((1 : Int) + (i : Nat) - 1).toNat = i := by omega
    have e2 : ((1 : Int) + (i : Nat)).toNat = i + 1 := by omega
    rw [e1, e2, h i (by omega)]
    rfl
theorem climb_shaped (xs : List Str) : SeqAt.shaped (.list ((rngD 1 (xs.length - 1)).filterMap (climbG xs))) = true := by
  have hx : ∀ d ∈ (rngD 1 (xs.length - 1)).filterMap (climbG xs), d.canLay0 = true ∧ d.depth ≤ 0 := fun d hd => by
    obtain ⟨p, hp, e⟩ := List.mem_filterMap.mp hd
    unfold rngD at hp
    obtain ⟨i, hi, rfl⟩ := List.mem_map.mp hp
    unfold climbG at e
    dsimp only at e
    split at e
    · cases e
    · cases e; exact ⟨rfl, Nat.le_refl _⟩
  obtain ⟨h1, h2⟩ := canLayAll_of hx
  unfold SeqAt.shaped
  rw [Bool.and_eq_true, decide_eq_true_eq]
  refine ⟨h1, ?_⟩
  show PyData.depthAll _ + 1 ≤ 64
  omega
theorem atI_getD {xs : List Str} {i : Nat} (h : i < xs.length) {j : Int} (hj : j = (i : Nat)) : L2.atI (xs.map PyData.str) j = some (.str (xs.getD i "")) := by
  subst hj
  obtain ⟨x, e, _, e2⟩ := atI_at (xs := xs.map PyData.str) (r := ((i : Nat) : Int)) (by omega) (by rw [List.length_map]; omega)
  rw [e]
  rw [Int.toNat_natCast, List.getElem?_map, List.getElem?_eq_getElem h] at e2
  rw [← e2, List.getD_eq_getElem?_getD, List.getElem?_eq_getElem h]
  rfl
theorem s_law_climbs {T : List Fn} {fuel : Nat} (hf : Has T f__law_climbs) {xs : List Str} (hl : xs.length ≤ lim) (hQ : Q (.fz (.bool (rises xs))) [.fz (.list (xs.map .str))]) :
    WO (callN fuel T (n + 1) "_law_climbs" [.fz (.list (xs.map .str))]) Q := by
  refine WO_call hf rfl ?_
  have r1 : okRng 1 = true := by decide
  have r2 : okRng ((xs.length : Nat) : Int) = true := by
    unfold okRng
    have : xs.length ≤ 16777216 := hl
    simp
    omega
  have e0 : (((xs.length : Nat) : Int) - 1).toNat = xs.length - 1 := by omega
  simp [f__law_climbs, r1, r2, e0]
  refine W_pure (climbG xs) (fun p hp => ?_) ?_
  · unfold rngD at hp
    obtain ⟨i, hi, rfl⟩ := List.mem_map.mp hp
    have hi := List.mem_range.mp hi
    have a1 := atI_getD (xs := xs) (i := i) (by omega) (j := 1 + (i : Nat) - 1) (by omega)
    have a2 := atI_getD (xs := xs) (i := i + 1) (by omega) (j := 1 + (i : Nat)) (by omega)
    have e1 : ((1 : Int) + (i : Nat) - 1).toNat = i := by omega
    have e2 : ((1 : Int) + (i : Nat)).toNat = i + 1 := by omega
    have eg : climbG xs (.int (1 + (i : Nat))) = if sLt (xs.getD i "") (xs.getD (i + 1) "") then none else some (.int (1 + (i : Nat))) := by
      unfold climbG
      dsimp only
      rw [e1, e2]
    rw [eg]
    simp only [cturn_app]
    simp [a1, a2]
  · have hsh := climb_shaped xs
    have hemp := climb_empty xs
    have hll : ((rngD 1 (xs.length - 1)).filterMap (climbG xs)).length ≤ lim := Nat.le_trans (List.length_filterMap_le _ _) (by unfold rngD; rw [List.length_map, List.length_range]; omega)
    generalize (rngD 1 (xs.length - 1)).filterMap (climbG xs) = bs at hsh hemp hll ⊢
    refine ⟨hll, ?_⟩
    simp [eq_nil hsh, fin]
    have : rises xs = bs.isEmpty := hemp.symm
    rw [this] at hQ
    exact hQ
/-- the body's test of one cell -/
theorem law_cell_turn {Γ : Gam} {fuel : Nat} {T : List Fn} {n : Nat} (hΓ : Γ = ⟨callN fuel T (n + 1), fuel⟩) (hf : Has T f__law_name) {L k : Nat} {c v : PyData} (hc : okD L k c = true) {P : Fl → Rho → Prop} (s2 : Y.Slot)
    (hQ : P (if cellB c then .nx else .rt (.fz (.bool false))) [.fz v, .fz c]) :
    WO (exs Γ (match f__law_good_cells.body with | .cons _ (.cons (.frr _ _ b) _) => b | _ => .nil) [.fz v, .fz c]) P := by
  subst hΓ
  have nmL : ∀ {k : Nat} {d : PyData}, okD L k d = true → ∀ (Q : R → List Y.Slot → Prop), Q (.fz (.bool (nameB d))) [.fz d] → WO (callN fuel T (n + 1) "_law_name" [.fz d]) Q := fun h Q q => s_law_name hf h q
  rcases tuple_or c with e | ⟨ds, rfl⟩
  · have : cellB c = false := by cases c <;> first | rfl | cases e
    rw [this] at hQ
    simp [f__law_good_cells, e]
    exact hQ
  · cases k with
    | zero => cases hc
    | succ k =>
    rw [okD_tuple, Bool.and_eq_true, List.all_eq_true] at hc
    match ds with
    | [] => simp [f__law_good_cells]; exact hQ
    | [a] => simp [f__law_good_cells]; exact hQ
    | a :: b :: z :: r =>
      have : ¬ ((r.length : Int) + 1 + 1 + 1 = 2) := by omega
      simp [f__law_good_cells, this]
      exact hQ
    | [a, b] =>
      simp [f__law_good_cells, atI0, atI1]
      refine nmL (hc.2 a (by simp)) _ ?_
      simp
      have e1 : cellB (.tuple [a, b]) = (nameB a && (isNon b || nameB b)) := rfl
      rw [e1] at hQ
      cases ha : nameB a with
      | false =>
        rw [ha] at hQ
        simp
        exact hQ
      | true =>
        rw [ha] at hQ
        simp [atI0, atI1]
        cases hb : isNon b with
        | true =>
          rw [hb] at hQ
          simp
          exact hQ
        | false =>
          rw [hb] at hQ
          simp [atI1]
          refine nmL (hc.2 b (by simp)) _ ?_
          simp
          cases hb2 : nameB b <;> (rw [hb2] at hQ; simp; exact hQ)
theorem s_law_cells {T : List Fn} {fuel : Nat} (hr : Has T f__law_climbs) (hf : Has T f__law_name) (hh : Has T f__law_good_cells) {L k : Nat} {d : PyData} (hd : okD L k d = true) (hQ : Q (.fz (.bool (cellsB d))) [.fz d]) :
    WO (callN fuel T (n + 2) "_law_good_cells" [.fz d]) Q := by
  refine WO_call hh rfl ?_
  rcases tuple_or d with e | ⟨cs, rfl⟩
  · have : cellsB d = false := by cases d <;> first | rfl | cases e
    rw [this] at hQ
    simp [f__law_good_cells, e, fin]
    exact hQ
  · cases k with
    | zero => cases hd
    | succ k =>
    rw [okD_tuple, Bool.and_eq_true, List.all_eq_true] at hd
    have e1 : cellsB (.tuple cs) = (decide (1 ≤ cs.length) && decide (cs.length ≤ 3) && cs.all cellB && rises (cs.map headS)) := rfl
    rw [e1] at hQ
    by_cases h1 : 1 ≤ cs.length
    · by_cases h2 : cs.length ≤ 3
      · have i1 : (1 : Int) ≤ cs.length := by omega
        have i2 : (cs.length : Int) ≤ 3 := by omega
        rw [decide_eq_true h1, decide_eq_true h2, Bool.true_and, Bool.true_and] at hQ
        simp [f__law_good_cells, i1, i2]
        refine W_for (CellI (.tuple cs) cs) (fun c ds ρ hI => ?_) (fun ρ hI => ?_) _ _ ⟨[], .und, rfl, rfl, rfl⟩
        · obtain ⟨pre, s1, e, hp, rfl⟩ := hI
          have hc : okD L k c = true := hd.2 c (by rw [e]; simp)
          rw [WO_turn_nm]
          refine ⟨by simp, law_cell_turn (n := n) rfl hf hc .und ?_⟩
          cases hb : cellB c with
          | true =>
            simp
            exact ⟨pre ++ [c], .fz c, by rw [e]; simp, by rw [List.all_append, hp]; simp [hb], rfl⟩
          | false =>
            have hall : cs.all cellB = false := by rw [e, List.all_append, List.all_cons, hb]; simp
            rw [hall, Bool.false_and] at hQ
            simp [fin]
            exact hQ
        · obtain ⟨pre, s1, e, hp, rfl⟩ := hI
          rw [List.append_nil] at e
          subst e
          rw [hp, Bool.true_and] at hQ
          simp
          refine W_pure (fun c => match c with
            | .tuple (.str x :: _) => some (.str x)
            | _ => none) (fun c hc => ?_) ?_
          · obtain ⟨x, b, rfl⟩ := cells_names hp c hc
            simp [cturn_app, atI0]
          · have e3 : ∀ {l : List PyData}, l.all cellB = true → l.filterMap (fun c => match c with
              | .tuple (.str x :: _) => some (PyData.str x)
              | _ => none) = (l.map headS).map .str := fun {l} hl => by
              induction l with
              | nil => rfl
              | cons c l ih =>
                obtain ⟨x, b, rfl⟩ := cells_names hl c (by simp)
                rw [List.all_cons, Bool.and_eq_true] at hl
                simp only [List.filterMap_cons, List.map_cons, ih hl.2]
                rfl
            rw [e3 hp]
            refine ⟨?_, ?_⟩
            · simp
              show _ ≤ 16777216
              omega
            · simp
              rw [show cs.map (PyData.str ∘ headS) = (cs.map headS).map .str from (List.map_map).symm]
              refine s_law_climbs hr (xs := cs.map headS) (by rw [List.length_map]; show _ ≤ 16777216; omega) ?_
              simp only [List.map_map] at hQ ⊢
              simp [fin]
              exact hQ
      · have i1 : (1 : Int) ≤ cs.length := by omega
        have i2 : ¬ (cs.length : Int) ≤ 3 := by omega
        rw [decide_eq_false h2, Bool.and_false, Bool.false_and, Bool.false_and] at hQ
        simp [f__law_good_cells, i1, i2, fin]
        exact hQ
    · have i1 : ¬ (1 : Int) ≤ cs.length := by omega
      rw [decide_eq_false h1, Bool.false_and, Bool.false_and, Bool.false_and] at hQ
      simp [f__law_good_cells, i1, fin]
      exact hQ
theorem law_pair_turn {T : List Fn} {fuel : Nat} {Γ : Gam} (hΓ : Γ = ⟨callN fuel T (n + 1), fuel⟩) (hf : Has T f__law_from) {L k : Nat} {c v : PyData} (hc : okD L k c = true) (hk : k ≤ 60) {ns : List Str} (hN : SeqAt.shaped (namesD ns) = true) {P : Fl → Rho → Prop}
    (hQ : P (if pairB ns c then .nx else .rt (.fz (.bool false))) [.fz v, .fz (namesD ns), .fz c]) :
    WO (exs Γ (match f__law_good_answer.body with | .cons _ (.cons (.frr _ _ b) _) => b | _ => .nil) [.fz v, .fz (namesD ns), .fz c]) P := by
  subst hΓ
  rcases tuple_or c with e | ⟨ds, rfl⟩
  · have : pairB ns c = false := by cases c <;> first | rfl | cases e
    rw [this] at hQ
    simp [f__law_good_answer, e]
    exact hQ
  · cases k with
    | zero => cases hc
    | succ k =>
    rw [okD_tuple, Bool.and_eq_true, List.all_eq_true] at hc
    match ds with
    | [] => simp [f__law_good_answer]; exact hQ
    | [a] => simp [f__law_good_answer]; exact hQ
    | a :: b :: z :: r =>
      have : ¬ ((r.length : Int) + 1 + 1 + 1 = 2) := by omega
      simp [f__law_good_answer, this]
      exact hQ
    | [a, b] =>
      have e1 : pairB ns (.tuple [a, b]) = (strIn ns a && fromB b 0 3) := rfl
      rw [e1] at hQ
      rcases str_or a with e | ⟨y, rfl⟩
      · rw [strIn_no e] at hQ
        simp [f__law_good_answer, atI0, e]
        exact hQ
      · have hy := okD_shaped (hc.2 (.str y) (by simp)) (by omega)
        cases hs : strIn ns (.str y) with
        | false =>
          rw [hs] at hQ
          simp [f__law_good_answer, atI0, in_names hy hN, hs]
          exact hQ
        | true =>
          rw [hs] at hQ
          simp [f__law_good_answer, atI0, in_names hy hN, hs, atI1]
          refine s_law_from hf ?_
          simp
          cases hb : fromB b 0 3 <;> (rw [hb] at hQ; simp; exact hQ)
theorem s_law_answer {T : List Fn} {fuel : Nat} (hr : Has T f__law_climbs) (hf : Has T f__law_from) (hh : Has T f__law_good_answer) {L k : Nat} {d : PyData} (hd : okD L k d = true) (hk : k ≤ 60) (hL : L ≤ 1000000) {ns : List Str} (hN : SeqAt.shaped (namesD ns) = true)
    (hQ : Q (.fz (.bool (answerB ns d))) [.fz d, .fz (namesD ns)]) : WO (callN fuel T (n + 2) "_law_good_answer" [.fz d, .fz (namesD ns)]) Q := by
  refine WO_call hh rfl ?_
  rcases tuple_or d with e | ⟨cs, rfl⟩
  · have : answerB ns d = false := by cases d <;> first | rfl | cases e
    rw [this] at hQ
    simp [f__law_good_answer, e, fin]
    exact hQ
  · cases k with
    | zero => cases hd
    | succ k =>
    have q0 := eq_nilT (okD_shaped hd (by omega))
    rw [okD_tuple, Bool.and_eq_true, decide_eq_true_eq, List.all_eq_true] at hd
    have e1 : answerB ns (.tuple cs) = (!cs.isEmpty && cs.all (pairB ns) && rises (cs.map headS)) := rfl
    rw [e1] at hQ
    by_cases h0 : cs = []
    · subst h0
      simp [f__law_good_answer, q0, fin]
      exact hQ
    have hemp : cs.isEmpty = false := by cases cs <;> first | rfl | exact absurd rfl h0
    rw [hemp, Bool.not_false, Bool.true_and] at hQ
    rw [hemp] at q0
    simp [f__law_good_answer, q0]
    refine W_for (AnsI (.tuple cs) (namesD ns) ns cs) (fun c ds ρ hI => ?_) (fun ρ hI => ?_) _ _ ⟨[], .und, rfl, rfl, rfl⟩
    · obtain ⟨pre, s1, e, hp, rfl⟩ := hI
      have hc : okD L k c = true := hd.2 c (by rw [e]; simp)
      rw [WO_turn_nm]
      refine ⟨by simp, law_pair_turn (n := n) rfl hf hc (by omega) hN ?_⟩
      cases hb : pairB ns c with
      | true =>
        simp
        exact ⟨pre ++ [c], .fz c, by rw [e]; simp, by rw [List.all_append, hp]; simp [hb], rfl⟩
      | false =>
        have hall : cs.all (pairB ns) = false := by rw [e, List.all_append, List.all_cons, hb]; simp
        rw [hall, Bool.false_and] at hQ
        simp [fin]
        exact hQ
    · obtain ⟨pre, s1, e, hp, rfl⟩ := hI
      rw [List.append_nil] at e
      subst e
      rw [hp, Bool.true_and] at hQ
      simp
      refine W_pure headG (fun c hc => ?_) ?_
      · obtain ⟨x, b, rfl⟩ := pairs_names hp c hc
        simp [cturn_app, atI0, headG]
      · rw [heads_fm (pairs_names hp)]
        refine ⟨?_, ?_⟩
        · simp
          show _ ≤ 16777216
          omega
        · simp
          rw [show cs.map (PyData.str ∘ headS) = (cs.map headS).map .str from (List.map_map).symm]
          refine s_law_climbs hr (xs := cs.map headS) (by rw [List.length_map]; show _ ≤ 16777216; omega) ?_
          simp only [List.map_map] at hQ ⊢
          simp [fin]
          exact hQ
end K01

set_option Elab.async false
set_option linter.all false
set_option maxRecDepth 100000
namespace K01
open PySem Y
variable {n : Nat} {Q : R → List Y.Slot → Prop} {T : List Fn} {fuel : Nat}
def partB (ns : List Str) (size : Int) (z : Str) (p : PyData) : Bool := if z = "n" then fromB p 0 size else if z = "c" then strIn ns p else if z = "w" then nameB p else fromB p 0 3
def okPair (ns : List Str) (size : Int) : PyData → Bool
  | .tuple [p, .str z] => partB ns size z p
  | _ => false
theorem part_turn {Γ : Gam} (hΓ : Γ = ⟨callN fuel T (n + 1), fuel⟩) (hf : Has T f__law_from) (hn : Has T f__law_name) {L k : Nat} {p v sh : PyData} {sz : Int} (hp : okD L k p = true) (hk : k ≤ 60) {ns : List Str} (hN : SeqAt.shaped (namesD ns) = true) {z : Str} (hz : SeqAt.shaped (.str z) = true) {shape : PyData} {s7 : Y.Slot} {P : Fl → Rho → Prop}
    (hQ : ∀ s7, P (if partB ns sz z p then .nx else .rt (.fz (.bool false))) [.fz v, .fz (namesD ns), .fz (.int sz), .fz sh, .fz shape, .fz p, .fz (.str z), s7]) :
    WO (exs Γ (match f__law_shape.body with | .cons _ (.cons _ (.cons _ (.cons (.frr _ _ b) _))) => b | _ => .nil) [.fz v, .fz (namesD ns), .fz (.int sz), .fz sh, .fz shape, .fz p, .fz (.str z), s7]) P := by
  subst hΓ
  have q1 : eqD (.str z) (.str "n") = some (decide (z = "n")) := eq_str hz (by decide +kernel)
  have q2 : eqD (.str z) (.str "c") = some (decide (z = "c")) := eq_str hz (by decide +kernel)
  have q3 : eqD (.str z) (.str "w") = some (decide (z = "w")) := eq_str hz (by decide +kernel)
  have fin1 : ∀ o : Bool, o = partB ns sz z p → WO (exs ⟨callN fuel T (n + 1), fuel⟩ (.cons (.ife (.not (.var 7)) (.cons (.ret (.con (.bool false))) .nil) .nil) .nil) [.fz v, .fz (namesD ns), .fz (.int sz), .fz sh, .fz shape, .fz p, .fz (.str z), .fz (.bool o)]) P := fun o ho => by
    have hQ := hQ (.fz (.bool o))
    rw [← ho] at hQ
    cases o <;> (simp; exact hQ)
  by_cases b1 : z = "n"
  · have n2 : ¬ z = "c" := by rw [b1]; decide +kernel
    have n3 : ¬ z = "w" := by rw [b1]; decide +kernel
    rw [decide_eq_true b1] at q1
    rw [decide_eq_false n2] at q2
    rw [decide_eq_false n3] at q3
    simp [f__law_shape, q1]
    refine s_law_from hf ?_
    simp [q2, q3]
    have := fin1 (fromB p 0 sz) (by unfold partB; rw [if_pos b1])
    simp at this
    exact this
  · rw [decide_eq_false b1] at q1
    simp [f__law_shape, q1]
    refine s_law_from hf ?_
    by_cases b2 : z = "c"
    · have n3 : ¬ z = "w" := by rw [b2]; decide +kernel
      rw [decide_eq_true b2] at q2
      rw [decide_eq_false n3] at q3
      have := fin1 (strIn ns p) (by unfold partB; rw [if_neg b1, if_pos b2])
      rcases str_or p with e | ⟨y, rfl⟩
      · rw [strIn_no e] at this
        simp [q2, q3, e]
        simp at this
        exact this
      · have hy := okD_shaped hp (by omega)
        simp [q2, q3, in_names hy hN]
        simp at this
        exact this
    · rw [decide_eq_false b2] at q2
      by_cases b3 : z = "w"
      · rw [decide_eq_true b3] at q3
        simp [q2, q3]
        refine s_law_name hn hp ?_
        have := fin1 (nameB p) (by unfold partB; rw [if_neg b1, if_neg b2, if_pos b3])
        simp at this ⊢
        exact this
      · rw [decide_eq_false b3] at q3
        simp [q2, q3]
        have := fin1 (fromB p 0 3) (by unfold partB; rw [if_neg b1, if_neg b2, if_neg b3])
        simp at this
        exact this
theorem WO_turn_two {Γ : Gam} {i j : Nat} {b : Ss} {d e : PyData} {ρ : Rho} {Q : Fl → Rho → Prop} (hi : i < ρ.length) (hj : j < ρ.length) (h : WO (exs Γ b ((ρ.set i (.fz d)).set j (.fz e))) Q) : WO (turn Γ (.tup [.nm i, .nm j]) b (.tuple [d, e]) ρ) Q := by
  rw [turn_app, WO_bnd]
  show WO (bnd (setPat (.nm i) d) (fun _ => bnd (setPat (.nm j) e) fun _ => ret ()) ρ) _
  rw [WO_bnd]
  show WO (if i < ρ.length then Out.ok () (ρ.set i (.fz d)) else .bad) _
  rw [if_pos hi, WO_ok, WO_bnd]
  show WO (if j < (ρ.set i (.fz d)).length then Out.ok () ((ρ.set i (.fz d)).set j (.fz e)) else .bad) _
  rw [if_pos (by rw [List.length_set]; exact hj), WO_ok, WO_ret]
  exact h
def dictD (kvs : List (Str × Str)) : PyData := .dict (kvs.map fun p => (.str p.1, .str p.2))
def lookS (kvs : List (Str × Str)) (w : Str) : Option Str := (kvs.find? fun p => p.1 == w).map (·.2)
theorem find_dictD (w : Str) : ∀ kvs : List (Str × Str), ((kvs.map fun p => (PyData.str p.1, PyData.str p.2)).find? fun p => PyData.eqv p.1 (.str w)) = (kvs.find? fun p => p.1 == w).map fun p => (PyData.str p.1, PyData.str p.2)
  | [] => rfl
  | p :: r => by
    rw [List.map_cons, List.find?_cons, List.find?_cons]
    have : PyData.eqv (PyData.str p.1) (.str w) = (p.1 == w) := rfl
    rw [this]
    cases p.1 == w with
    | true => rfl
    | false => exact find_dictD w r
theorem ix_dictD {kvs : List (Str × Str)} {w : Str} : ixD (dictD kvs) (.str w) = (lookS kvs w).map .str := by
  show ((kvs.map fun p => (PyData.str p.1, PyData.str p.2)).find? fun p => PyData.eqv p.1 (.str w)).map (·.2) = _
  rw [find_dictD]
  unfold lookS
  rw [Option.map_map, Option.map_map]
  rfl
theorem in_dictD {kvs : List (Str × Str)} {w : Str} : inD (.str w) (dictD kvs) = some (lookS kvs w).isSome := by
  show some ((kvs.map fun p => (PyData.str p.1, PyData.str p.2)).any fun p => PyData.eqv p.1 (.str w)) = _
  rw [find_any, find_dictD]
  unfold lookS
  rw [Option.isSome_map, Option.isSome_map]
def pairsOf (r : List PyData) (sh : Str) : List PyData := zipD r (sh.cps.toList.map fun c => .str ⟨#[c]⟩)
def shapeB (kvs : List (Str × Str)) (ns : List Str) (size : Int) : PyData → Bool
  | .tuple (.str w :: r) => match lookS kvs w with
    | some sh => decide (r.length = sh.length) && (pairsOf r sh).all (okPair ns size)
    | none => false
  | _ => false
def PartI (v shapes shape nd : PyData) (ns : List Str) (sz : Int) (zs rem : List PyData) (ρ : Rho) : Prop := ∃ pre s5 s6 s7, zs = pre ++ rem ∧ pre.all (okPair ns sz) = true ∧ ρ = [.fz v, .fz nd, .fz (.int sz), .fz shapes, .fz shape, s5, s6, s7]
theorem s_law_shape (hf : Has T f__law_from) (hn : Has T f__law_name) (hh : Has T f__law_shape) {L k : Nat} {d : PyData} (hd : okD L k d = true) (hk : k ≤ 60) {ns : List Str} (hN : SeqAt.shaped (namesD ns) = true) {sz : Int} {kvs : List (Str × Str)} (hkv : ∀ w sh, lookS kvs w = some sh → PyData.strOk sh = true ∧ sh.length ≤ 1000)
    (hQ : Q (.fz (.bool (shapeB kvs ns sz d))) [.fz d, .fz (namesD ns), .fz (.int sz), .fz (dictD kvs)]) : WO (callN fuel T (n + 2) "_law_shape" [.fz d, .fz (namesD ns), .fz (.int sz), .fz (dictD kvs)]) Q := by
  refine WO_call hh rfl ?_
  rcases tuple_or d with e | ⟨ds, rfl⟩
  · have : shapeB kvs ns sz d = false := by cases d <;> first | rfl | cases e
    rw [this] at hQ
    simp [f__law_shape, e, fin]
    exact hQ
  · cases k with
    | zero => cases hd
    | succ k =>
    have q0 := eq_nilT (okD_shaped hd (by omega))
    rw [okD_tuple, Bool.and_eq_true, List.all_eq_true] at hd
    match ds with
    | [] => simp [f__law_shape, q0, fin]; exact hQ
    | a0 :: r =>
      have q0 : eqD (.tuple (a0 :: r)) (.tuple []) = some false := q0
      rcases str_or a0 with e | ⟨w, rfl⟩
      · have : shapeB kvs ns sz (.tuple (a0 :: r)) = false := by cases a0 <;> first | rfl | cases e
        rw [this] at hQ
        simp [f__law_shape, q0, atI0, e, fin]
        exact hQ
      have e1 : shapeB kvs ns sz (.tuple (.str w :: r)) = (match lookS kvs w with
        | some sh => decide (r.length = sh.length) && (pairsOf r sh).all (okPair ns sz)
        | none => false) := rfl
      rw [e1] at hQ
      cases hlk : lookS kvs w with
      | none =>
        rw [hlk] at hQ
        simp [f__law_shape, q0, atI0, in_dictD, hlk, fin]
        exact hQ
      | some sh =>
        rw [hlk] at hQ
        have hQ : Q (.fz (.bool (decide (r.length = sh.length) && (pairsOf r sh).all (okPair ns sz)))) _ := hQ
        obtain ⟨hs1, hs2⟩ := hkv w sh hlk
        have hs3 : sh.length ≤ lim := Nat.le_trans hs2 (by decide)
        simp [f__law_shape, q0, atI0, in_dictD, ix_dictD, hlk, hs3]
        by_cases hl : r.length = sh.length
        · have i1 : ((r.length : Int) = sh.length) := by omega
          rw [decide_eq_true hl, Bool.true_and] at hQ
          have ct : cutD (.str w :: r) (some 1) none = r := cut1
          simp [i1, ct]
          refine W_for (PartI (.tuple (.str w :: r)) (dictD kvs) (.str sh) (namesD ns) ns sz (pairsOf r sh)) (fun p rem ρ hI => ?_) (fun ρ hI => ?_) _ _ ⟨[], .und, .und, .und, rfl, rfl, rfl⟩
          · obtain ⟨pre, s5, s6, s7, ez, hp, rfl⟩ := hI
            have hmem : p ∈ pairsOf r sh := by rw [ez]; simp
            obtain ⟨j, hj⟩ := List.getElem?_of_mem hmem
            obtain ⟨x, z, h1, h2, rfl⟩ := zipD_get hj
            obtain ⟨c, hc, rfl⟩ := List.mem_map.mp (List.mem_of_getElem? h2)
            have hz : SeqAt.shaped (.str ⟨#[c]⟩) = true := by
              unfold SeqAt.shaped
              rw [Bool.and_eq_true]
              exact ⟨char_ok hs1 c hc, rfl⟩
            have hx := hd.2 x (List.mem_cons_of_mem _ (List.mem_of_getElem? h1))
            refine WO_turn_two (by simp) (by simp) ?_
            refine part_turn (n := n) rfl hf hn hx (by omega) hN hz fun s7 => ?_
            have eo : okPair ns sz (.tuple [x, .str ⟨#[c]⟩]) = partB ns sz ⟨#[c]⟩ x := rfl
            cases hb : partB ns sz ⟨#[c]⟩ x with
            | true =>
              simp
              exact ⟨pre ++ [.tuple [x, .str ⟨#[c]⟩]], _, _, _, by rw [ez]; simp, by rw [List.all_append, hp]; simp [eo, hb], rfl⟩
            | false =>
              have hall : (pairsOf r sh).all (okPair ns sz) = false := by rw [ez, List.all_append, List.all_cons, eo, hb]; simp
              rw [hall] at hQ
              simp [fin]
              exact hQ
          · obtain ⟨pre, s5, s6, s7, ez, hp, rfl⟩ := hI
            rw [List.append_nil] at ez
            rw [ez, hp] at hQ
            simp [fin]
            exact hQ
        · have i1 : ¬ ((r.length : Int) = sh.length) := by omega
          rw [decide_eq_false hl, Bool.false_and] at hQ
          simp [i1, fin]
          exact hQ
end K01

set_option Elab.async false
set_option linter.all false
set_option maxRecDepth 100000
namespace K01
open PySem Y
variable {n : Nat} {Q : R → List Y.Slot → Prop} {T : List Fn} {fuel : Nat}
def lawRowsB (kvs : List (Str × Str)) (ns : List Str) (most : Int) : PyData → Bool
  | .tuple rs => decide (1 ≤ rs.length) && decide ((rs.length : Int) ≤ most) && rs.all (shapeB kvs ns rs.length)
  | _ => false
def noneG (f : PyData → Bool) : PyData → Option PyData := fun p => if f p then none else some p
theorem none_empty (f : PyData → Bool) : ∀ l : List PyData, (l.filterMap (noneG f)).isEmpty = l.all f
  | [] => rfl
  | a :: l => by
    rw [List.filterMap_cons, List.all_cons]
    cases h : f a with
    | true => simp only [noneG, h, if_true, Bool.true_and]; exact none_empty f l
    | false => simp [noneG, h]
theorem none_ok {L k : Nat} {rs : List PyData} (f : PyData → Bool) (h : ∀ x ∈ rs, okD L k x = true) (hl : rs.length ≤ L) (hk : k ≤ 60) : SeqAt.shaped (.list (rs.filterMap (noneG f))) = true := by
  refine okD_shaped (L := L) (k := k + 1) ?_ (by omega)
  rw [okD_list, Bool.and_eq_true, decide_eq_true_eq, List.all_eq_true]
  refine ⟨Nat.le_trans (List.length_filterMap_le _ _) hl, fun x hx => ?_⟩
  obtain ⟨p, hp, e⟩ := List.mem_filterMap.mp hx
  unfold noneG at e
  split at e
  · cases e
  · cases e; exact h _ hp
theorem s_law_rows (hf : Has T f__law_from) (hn : Has T f__law_name) (hs : Has T f__law_shape) (hh : Has T f__law_rows) {L k : Nat} {d : PyData} (hd : okD L k d = true) (hk : k ≤ 60) (hL : L ≤ 1000000) {ns : List Str} (hN : SeqAt.shaped (namesD ns) = true) {most : Int} {kvs : List (Str × Str)} (hkv : ∀ w sh, lookS kvs w = some sh → PyData.strOk sh = true ∧ sh.length ≤ 1000)
    (hQ : Q (.fz (.bool (lawRowsB kvs ns most d))) [.fz d, .fz (namesD ns), .fz (.int most), .fz (dictD kvs)]) : WO (callN fuel T (n + 3) "_law_rows" [.fz d, .fz (namesD ns), .fz (.int most), .fz (dictD kvs)]) Q := by
  refine WO_call hh rfl ?_
  rcases tuple_or d with e | ⟨rs, rfl⟩
  · have : lawRowsB kvs ns most d = false := by cases d <;> first | rfl | cases e
    rw [this] at hQ
    simp [f__law_rows, e, fin]
    exact hQ
  · cases k with
    | zero => cases hd
    | succ k =>
    rw [okD_tuple, Bool.and_eq_true, decide_eq_true_eq, List.all_eq_true] at hd
    have e1 : lawRowsB kvs ns most (.tuple rs) = (decide (1 ≤ rs.length) && decide ((rs.length : Int) ≤ most) && rs.all (shapeB kvs ns rs.length)) := rfl
    rw [e1] at hQ
    by_cases h1 : 1 ≤ rs.length
    · by_cases h2 : (rs.length : Int) ≤ most
      · have i1 : (1 : Int) ≤ rs.length := by omega
        rw [decide_eq_true h1, decide_eq_true h2, Bool.true_and, Bool.true_and] at hQ
        simp [f__law_rows, i1, h2]
        refine W_pure (noneG (shapeB kvs ns rs.length)) (fun r hr' => ?_) ?_
        · simp [cturn_app]
          refine s_law_shape hf hn hs (n := n) (hd.2 r hr') (by omega) hN hkv ?_
          simp
          cases hb : shapeB kvs ns rs.length r <;> simp [noneG, hb]
        · have hsh := none_ok (shapeB kvs ns rs.length) hd.2 hd.1 (by omega)
          have hemp := none_empty (shapeB kvs ns rs.length) rs
          have hll : (rs.filterMap (noneG (shapeB kvs ns rs.length))).length ≤ lim := Nat.le_trans (List.length_filterMap_le _ _) (by show _ ≤ 16777216; omega)
          generalize rs.filterMap (noneG (shapeB kvs ns rs.length)) = bs at hsh hemp hll ⊢
          refine ⟨hll, ?_⟩
          simp [eq_nil hsh, fin]
          rw [← hemp] at hQ
          exact hQ
      · have i1 : (1 : Int) ≤ rs.length := by omega
        rw [decide_eq_false h2, Bool.and_false, Bool.false_and] at hQ
        simp [f__law_rows, i1, h2, fin]
        exact hQ
    · have i1 : ¬ (1 : Int) ≤ rs.length := by omega
      rw [decide_eq_false h1, Bool.false_and, Bool.false_and] at hQ
      simp [f__law_rows, i1, fin]
      exact hQ
def reads : List (Str × Str) := [("read", "cd"), ("same", "ddn"), ("is", "dwn"), ("not", "dwn"), ("go", "n")]
def writes : List (Str × Str) := [("new", "c"), ("put", "cw"), ("when", "cwn"), ("swap", "cwwn"), ("go", "n")]
theorem part_n {ns : List Str} {sz : Int} {p : PyData} : partB ns sz "n" p = fromB p 0 sz := if_pos rfl
theorem part_c {ns : List Str} {sz : Int} {p : PyData} : partB ns sz "c" p = strIn ns p := (if_neg (by decide +kernel)).trans (if_pos rfl)
theorem part_w {ns : List Str} {sz : Int} {p : PyData} : partB ns sz "w" p = nameB p := (if_neg (by decide +kernel)).trans ((if_neg (by decide +kernel)).trans (if_pos rfl))
theorem part_d {ns : List Str} {sz : Int} {p : PyData} : partB ns sz "d" p = fromB p 0 3 := (if_neg (by decide +kernel)).trans ((if_neg (by decide +kernel)).trans (if_neg (by decide +kernel)))
def chars (l : List Str) : List PyData := l.map .str
theorem pairs_nil {x : PyData} {r : List PyData} : zipD (x :: r) [] = [] := rfl
theorem read_row (ns : List Str) (sz : Int) (d : PyData) : shapeB reads ns sz d = rowB ns sz d := by
  rcases tuple_or d with e | ⟨ds, rfl⟩
  · cases d <;> first | rfl | cases e
  match ds with
  | [] => rfl
  | a0 :: r =>
  rcases str_or a0 with e | ⟨w, rfl⟩
  · cases a0 <;> first | (cases r <;> rfl) | cases e
  have c1 : ∀ (sh : Str) (l : List Str), lookS reads w = some sh → sh.length = l.length → (sh.cps.toList.map fun c => PyData.str ⟨#[c]⟩) = l.map .str → shapeB reads ns sz (.tuple (.str w :: r)) = (decide (r.length = l.length) && (zipD r (l.map .str)).all (okPair ns sz)) := fun sh l h1 h2 h3 => by
    show (match lookS reads w with
      | some sh => decide (r.length = sh.length) && (zipD r (sh.cps.toList.map fun c => .str ⟨#[c]⟩)).all (okPair ns sz)
      | none => false) = _
    rw [h1]
    dsimp only
    rw [h2, h3]
  have r0 : ∀ a q, rowB ns sz (.tuple (.str w :: a :: q)) = if w = "go" then q.isEmpty && fromB a 0 sz else if w = "read" then readRow ns a q else if testB w = true then testRow w sz a q else false := fun a q => rfl
  by_cases b1 : w = "go"
  · rw [c1 "n" ["n"] (by rw [b1]; decide +kernel) rfl rfl]
    match r with
    | [] => rfl
    | [a] =>
      rw [r0, if_pos b1]
      show (true && (partB ns sz "n" a && true)) = (true && fromB a 0 sz)
      rw [part_n, Bool.and_true]
    | a :: b :: q =>
      rw [r0, if_pos b1]
      show (decide (q.length + 1 + 1 = 1) && _) = (false && _)
      rw [decide_eq_false (by omega)]
      rfl
  by_cases b2 : w = "read"
  · rw [c1 "cd" ["c", "d"] (by rw [b2]; decide +kernel) rfl rfl]
    match r with
    | [] => rfl
    | [a] =>
      rw [r0, if_neg b1, if_pos b2]
      rfl
    | [a, b] =>
      rw [r0, if_neg b1, if_pos b2]
      show (true && (partB ns sz "c" a && (partB ns sz "d" b && true))) = (strIn ns a && fromB b 0 3)
      rw [part_c, part_d, Bool.and_true, Bool.true_and]
    | a :: b :: c :: q =>
      rw [r0, if_neg b1, if_pos b2]
      show (decide (q.length + 1 + 1 + 1 = 2) && _) = false
      rw [decide_eq_false (by omega)]
      rfl
  by_cases b3 : w = "same"
  · have ht : testB w = true := by rw [b3]; decide +kernel
    rw [c1 "ddn" ["d", "d", "n"] (by rw [b3]; decide +kernel) rfl rfl]
    match r with
    | [] => rfl
    | [a] => rw [r0, if_neg b1, if_neg b2, if_pos ht]; rfl
    | [a, b] => rw [r0, if_neg b1, if_neg b2, if_pos ht]; rfl
    | [a, b, c] =>
      rw [r0, if_neg b1, if_neg b2, if_pos ht]
      show (true && (partB ns sz "d" a && (partB ns sz "d" b && (partB ns sz "n" c && true)))) = (fromB a 0 3 && (if w = "same" then fromB b 0 3 else nameB b) && fromB c 0 sz)
      rw [part_d, part_d, part_n, if_pos b3, Bool.and_true, Bool.true_and, Bool.and_assoc]
    | a :: b :: c :: e :: q =>
      rw [r0, if_neg b1, if_neg b2, if_pos ht]
      show (decide (q.length + 1 + 1 + 1 + 1 = 3) && _) = false
      rw [decide_eq_false (by omega)]
      rfl
  by_cases b4 : testB w = true
  · have hlk : lookS reads w = some "dwn" := by
      unfold testB at b4
      simp only [Bool.or_eq_true, beq_iff_eq] at b4
      rcases b4 with (rfl | rfl) | rfl
      · decide +kernel
      · decide +kernel
      · exact absurd rfl b3
    rw [c1 "dwn" ["d", "w", "n"] hlk rfl rfl]
    match r with
    | [] => rfl
    | [a] => rw [r0, if_neg b1, if_neg b2, if_pos b4]; rfl
    | [a, b] => rw [r0, if_neg b1, if_neg b2, if_pos b4]; rfl
    | [a, b, c] =>
      rw [r0, if_neg b1, if_neg b2, if_pos b4]
      show (true && (partB ns sz "d" a && (partB ns sz "w" b && (partB ns sz "n" c && true)))) = (fromB a 0 3 && (if w = "same" then fromB b 0 3 else nameB b) && fromB c 0 sz)
      rw [part_d, part_w, part_n, if_neg b3, Bool.and_true, Bool.true_and, Bool.and_assoc]
    | a :: b :: c :: e :: q =>
      rw [r0, if_neg b1, if_neg b2, if_pos b4]
      show (decide (q.length + 1 + 1 + 1 + 1 = 3) && _) = false
      rw [decide_eq_false (by omega)]
      rfl
  · have hlk : lookS reads w = none := by
      have b4 : testB w = false := by simpa using b4
      unfold testB at b4
      simp only [Bool.or_eq_false_iff, beq_eq_false_iff_ne, ne_eq] at b4
      unfold lookS reads
      simp [List.find?_cons, Ne.symm b1, Ne.symm b2, Ne.symm b4.1.1, Ne.symm b4.1.2, Ne.symm b4.2, beq_eq_false_iff_ne]
    have e0 : shapeB reads ns sz (.tuple (.str w :: r)) = false := by
      show (match lookS reads w with
        | some sh => decide (r.length = sh.length) && (zipD r (sh.cps.toList.map fun c => .str ⟨#[c]⟩)).all (okPair ns sz)
        | none => false) = _
      rw [hlk]
    rw [e0]
    match r with
    | [] => rfl
    | a :: q => rw [r0, if_neg b1, if_neg b2, if_neg b4]
theorem write_row (ns : List Str) (sz : Int) (d : PyData) : shapeB writes ns sz d = wrowB ns sz d := by
  rcases tuple_or d with e | ⟨ds, rfl⟩
  · cases d <;> first | rfl | cases e
  match ds with
  | [] => rfl
  | a0 :: r =>
  rcases str_or a0 with e | ⟨w, rfl⟩
  · cases a0 <;> first | (cases r <;> rfl) | cases e
  have c1 : ∀ (sh : Str) (l : List Str), lookS writes w = some sh → sh.length = l.length → (sh.cps.toList.map fun c => PyData.str ⟨#[c]⟩) = l.map .str → shapeB writes ns sz (.tuple (.str w :: r)) = (decide (r.length = l.length) && (zipD r (l.map .str)).all (okPair ns sz)) := fun sh l h1 h2 h3 => by
    show (match lookS writes w with
      | some sh => decide (r.length = sh.length) && (zipD r (sh.cps.toList.map fun c => .str ⟨#[c]⟩)).all (okPair ns sz)
      | none => false) = _
    rw [h1]
    dsimp only
    rw [h2, h3]
  have r0 : ∀ a q, wrowB ns sz (.tuple (.str w :: a :: q)) = if w = "go" then q.isEmpty && fromB a 0 sz else if strIn ns a = true then (if w = "new" then newRow q else if w = "put" then putRow q else if w = "when" then whenRow sz q else if w = "swap" then swapRow sz q else false) else false := fun a q => rfl
  have si : ∀ (a : PyData) (b : Bool), (if strIn ns a = true then b else false) = (strIn ns a && b) := fun a b => by cases strIn ns a <;> rfl
  by_cases b1 : w = "go"
  · rw [c1 "n" ["n"] (by rw [b1]; decide +kernel) rfl rfl]
    match r with
    | [] => rfl
    | [a] =>
      rw [r0, if_pos b1]
      show (true && (partB ns sz "n" a && true)) = (true && fromB a 0 sz)
      rw [part_n, Bool.and_true]
    | a :: b :: q =>
      rw [r0, if_pos b1]
      show (decide (q.length + 1 + 1 = 1) && _) = (false && _)
      rw [decide_eq_false (by omega)]
      rfl
  by_cases b2 : w = "new"
  · rw [c1 "c" ["c"] (by rw [b2]; decide +kernel) rfl rfl]
    match r with
    | [] => rfl
    | [a] =>
      rw [r0, if_neg b1, if_pos b2, si]
      show (true && (partB ns sz "c" a && true)) = (strIn ns a && true)
      rw [part_c, Bool.true_and]
    | a :: b :: q =>
      rw [r0, if_neg b1, if_pos b2, si]
      show (decide (q.length + 1 + 1 = 1) && _) = (_ && false)
      rw [decide_eq_false (by omega), Bool.and_false]
      rfl
  by_cases b3 : w = "put"
  · rw [c1 "cw" ["c", "w"] (by rw [b3]; decide +kernel) rfl rfl]
    match r with
    | [] => rfl
    | [a] =>
      rw [r0, if_neg b1, if_neg b2, if_pos b3, si]
      show (false && _) = (_ && false)
      rw [Bool.and_false]; rfl
    | [a, b] =>
      rw [r0, if_neg b1, if_neg b2, if_pos b3, si]
      show (true && (partB ns sz "c" a && (partB ns sz "w" b && true))) = (strIn ns a && nameB b)
      rw [part_c, part_w, Bool.and_true, Bool.true_and]
    | a :: b :: c :: q =>
      rw [r0, if_neg b1, if_neg b2, if_pos b3, si]
      show (decide (q.length + 1 + 1 + 1 = 2) && _) = (_ && false)
      rw [decide_eq_false (by omega), Bool.and_false]
      rfl
  by_cases b4 : w = "when"
  · rw [c1 "cwn" ["c", "w", "n"] (by rw [b4]; decide +kernel) rfl rfl]
    match r with
    | [] => rfl
    | [a] =>
      rw [r0, if_neg b1, if_neg b2, if_neg b3, if_pos b4, si]
      show (false && _) = (_ && false)
      rw [Bool.and_false]; rfl
    | [a, b] =>
      rw [r0, if_neg b1, if_neg b2, if_neg b3, if_pos b4, si]
      show (false && _) = (_ && false)
      rw [Bool.and_false]; rfl
    | [a, b, c] =>
      rw [r0, if_neg b1, if_neg b2, if_neg b3, if_pos b4, si]
      show (true && (partB ns sz "c" a && (partB ns sz "w" b && (partB ns sz "n" c && true)))) = (strIn ns a && (nameB b && fromB c 0 sz))
      rw [part_c, part_w, part_n, Bool.and_true, Bool.true_and]
    | a :: b :: c :: e :: q =>
      rw [r0, if_neg b1, if_neg b2, if_neg b3, if_pos b4, si]
      show (decide (q.length + 1 + 1 + 1 + 1 = 3) && _) = (_ && false)
      rw [decide_eq_false (by omega), Bool.and_false]
      rfl
  by_cases b5 : w = "swap"
  · rw [c1 "cwwn" ["c", "w", "w", "n"] (by rw [b5]; decide +kernel) rfl rfl]
    match r with
    | [] => rfl
    | [a] =>
      rw [r0, if_neg b1, if_neg b2, if_neg b3, if_neg b4, if_pos b5, si]
      show (false && _) = (_ && false)
      rw [Bool.and_false]; rfl
    | [a, b] =>
      rw [r0, if_neg b1, if_neg b2, if_neg b3, if_neg b4, if_pos b5, si]
      show (false && _) = (_ && false)
      rw [Bool.and_false]; rfl
    | [a, b, c] =>
      rw [r0, if_neg b1, if_neg b2, if_neg b3, if_neg b4, if_pos b5, si]
      show (false && _) = (_ && false)
      rw [Bool.and_false]; rfl
    | [a, b, c, e] =>
      rw [r0, if_neg b1, if_neg b2, if_neg b3, if_neg b4, if_pos b5, si]
      show (true && (partB ns sz "c" a && (partB ns sz "w" b && (partB ns sz "w" c && (partB ns sz "n" e && true))))) = (strIn ns a && (nameB b && nameB c && fromB e 0 sz))
      rw [part_c, part_w, part_w, part_n, Bool.and_true, Bool.true_and, Bool.and_assoc]
    | a :: b :: c :: e :: g :: q =>
      rw [r0, if_neg b1, if_neg b2, if_neg b3, if_neg b4, if_pos b5, si]
      show (decide (q.length + 1 + 1 + 1 + 1 + 1 = 4) && _) = (_ && false)
      rw [decide_eq_false (by omega), Bool.and_false]
      rfl
  · have hlk : lookS writes w = none := by
      unfold lookS writes
      simp [List.find?_cons, Ne.symm b1, Ne.symm b2, Ne.symm b3, Ne.symm b4, Ne.symm b5, beq_eq_false_iff_ne]
    have e0 : shapeB writes ns sz (.tuple (.str w :: r)) = false := by
      show (match lookS writes w with
        | some sh => decide (r.length = sh.length) && (zipD r (sh.cps.toList.map fun c => .str ⟨#[c]⟩)).all (okPair ns sz)
        | none => false) = _
      rw [hlk]
    rw [e0]
    match r with
    | [] => rfl
    | a :: q => rw [r0, if_neg b1, if_neg b2, if_neg b3, if_neg b4, if_neg b5, si, Bool.and_false]
theorem rows_reads (ns : List Str) (d : PyData) : lawRowsB reads ns 10 d = readerB ns d := by
  cases d with
  | tuple rs =>
    show (decide (1 ≤ rs.length) && decide ((rs.length : Int) ≤ 10) && rs.all (shapeB reads ns rs.length)) = (decide (1 ≤ rs.length) && decide (rs.length ≤ 10) && rs.all (rowB ns rs.length))
    rw [show shapeB reads ns rs.length = rowB ns rs.length from funext fun d => read_row ns _ d]
    congr 2
    simp
    omega
  | _ => rfl
theorem rows_writes (ns : List Str) (d : PyData) : lawRowsB writes ns 6 d = writerB ns d := by
  cases d with
  | tuple rs =>
    show (decide (1 ≤ rs.length) && decide ((rs.length : Int) ≤ 6) && rs.all (shapeB writes ns rs.length)) = (decide (1 ≤ rs.length) && decide (rs.length ≤ 6) && rs.all (wrowB ns rs.length))
    rw [show shapeB writes ns rs.length = wrowB ns rs.length from funext fun d => write_row ns _ d]
    congr 2
    simp
    omega
  | _ => rfl
end K01

set_option Elab.async false
set_option linter.all false
set_option maxRecDepth 100000
namespace K01
open PySem Y
variable {n : Nat} {Q : R → List Y.Slot → Prop} {T : List Fn} {fuel : Nat}
theorem ev_dlit {Γ : Gam} {ks vs : Es} {s₀ : Y.Slot} {ρ : Rho} : ev Γ (.dlit ks vs) (s₀ :: ρ) = (bnd (evVs Γ ks) fun kd => bnd (evVs Γ vs) fun vd => if kd.all isKey && decide (kd.length = vd.length) && decide (kd.length ≤ 15) then ret (.own (.dic ((kd.zip vd).foldl (fun kvs p => putD p.1 p.2 kvs) []))) else bad) (s₀ :: ρ) := rfl
@[simp] theorem isKey_str {x : Str} : isKey (.str x) = true := rfl
def litD (kvs : List (Str × Str)) : List (PyData × PyData) := (kvs.map fun p => (PyData.str p.1, PyData.str p.2)).foldl (fun kvs p => putD p.1 p.2 kvs) []
theorem lit_reads : litD reads = reads.map fun p => (PyData.str p.1, PyData.str p.2) := by rfl
theorem lit_writes : litD writes = writes.map fun p => (PyData.str p.1, PyData.str p.2) := by rfl
theorem look_ok (kvs : List (Str × Str)) (h : kvs.all (fun p => PyData.strOk p.2 && decide (p.2.length ≤ 1000)) = true) : ∀ w sh, lookS kvs w = some sh → PyData.strOk sh = true ∧ sh.length ≤ 1000 := fun w sh e => by
  unfold lookS at e
  obtain ⟨p, hp, rfl⟩ := Option.map_eq_some_iff.mp e
  have := List.all_eq_true.mp h p (List.mem_of_find?_eq_some hp)
  rw [Bool.and_eq_true, decide_eq_true_eq] at this
  exact this
theorem ok_reads : ∀ w sh, lookS reads w = some sh → PyData.strOk sh = true ∧ sh.length ≤ 1000 := look_ok reads (by decide +kernel)
theorem ok_writes : ∀ w sh, lookS writes w = some sh → PyData.strOk sh = true ∧ sh.length ≤ 1000 := look_ok writes (by decide +kernel)
structure LawH (T : List Fn) : Prop where
  fr : Has T f__law_from
  nm : Has T f__law_name
  sh : Has T f__law_shape
  ro : Has T f__law_rows
  cl : Has T f__law_climbs
  ce : Has T f__law_good_cells
  an : Has T f__law_good_answer
  go : Has T f__law_good
theorem dic_reads : O.dic (litD reads) = .dic (reads.map fun p => (PyData.str p.1, PyData.str p.2)) := by rw [lit_reads]
def WrI (v : PyData) (ns : List Str) (ws rem acc : List PyData) (ρ : Rho) : Prop := ∃ pre s4 s5, ws = pre ++ rem ∧ acc = pre.filterMap (noneG (writerB ns)) ∧ (s4 = .own false (.dic (writes.map fun p => (PyData.str p.1, PyData.str p.2))) ∨ s4 = .fz (dictD writes)) ∧ ρ = [.fz v, .fz (namesD ns), .und, .fz (dictD reads), s4, s5]
theorem LawH.good (S : LawH T) {L k : Nat} {d : PyData} (hd : okD L k d = true) (hk : k ≤ 60) (hL : L ≤ 1000000) (hQ : Q (.fz (.bool (sysB d))) [.fz d]) : WO (callN fuel T (n + 4) "_law_good" [.fz d]) Q := by
  refine WO_call S.go rfl ?_
  rcases tuple_or d with e | ⟨ds, rfl⟩
  · have : sysB d = false := by cases d <;> first | rfl | cases e
    rw [this] at hQ
    simp [f__law_good, e, fin]
    exact hQ
  · cases k with
    | zero => cases hd
    | succ k =>
    rw [okD_tuple, Bool.and_eq_true, decide_eq_true_eq, List.all_eq_true] at hd
    match ds with
    | [] => simp [f__law_good, fin]; exact hQ
    | [_] => simp [f__law_good, fin]; exact hQ
    | [_, _] => simp [f__law_good, fin]; exact hQ
    | [_, _, _] => simp [f__law_good, fin]; exact hQ
    | _ :: _ :: _ :: _ :: _ :: r =>
      have : ¬ ((r.length : Int) + 1 + 1 + 1 + 1 + 1 = 4) := by omega
      simp [f__law_good, this, fin]
      exact hQ
    | [c, r, a, w] =>
      have okc := hd.2 c (by simp)
      simp [f__law_good, atI0]
      refine s_law_cells S.cl S.nm S.ce (n := n + 1) okc ?_
      simp
      have e1 : sysB (.tuple [c, r, a, w]) = (cellsB c && (readerB (namesOf c) r && answerB (namesOf c) a) && writersB (namesOf c) w) := rfl
      rw [e1] at hQ
      cases hcb : cellsB c with
      | false =>
        rw [hcb, Bool.false_and, Bool.false_and] at hQ
        simp [fin]
        exact hQ
      | true =>
        rw [hcb, Bool.true_and] at hQ
        simp [atI0]
        rcases tuple_or c with e | ⟨cs, rfl⟩
        · exfalso
          have : cellsB c = false := by cases c <;> first | rfl | cases e
          rw [this] at hcb; cases hcb
        cases k with
        | zero => cases okc
        | succ k =>
        rw [okD_tuple, Bool.and_eq_true, decide_eq_true_eq] at okc
        have hcells : cs.all cellB = true := by
          have : (decide (1 ≤ cs.length) && decide (cs.length ≤ 3) && cs.all cellB && rises (cs.map headS)) = true := hcb
          simp only [Bool.and_eq_true] at this
          exact this.1.2
        have hpr := cells_names hcells
        cases k with
        | zero =>
          exfalso
          match cs with
          | [] => cases hcb
          | c0 :: cs =>
            obtain ⟨x, b, rfl⟩ := hpr c0 (by simp)
            have := okc.2
            rw [List.all_cons, Bool.and_eq_true] at this
            cases this.1
        | succ k =>
        have hN : SeqAt.shaped (namesD (cs.map headS)) = true := shaped_names okc.2 hpr
        simp
        refine W_pure headG (fun c hc => ?_) ?_
        · obtain ⟨x, b, rfl⟩ := hpr c hc
          simp [cturn_app, atI0, headG]
        rw [heads_fm hpr]
        refine ⟨by simp; exact Nat.le_trans (Nat.le_trans okc.1 hL) (by decide), ?_⟩
        generalize hns : cs.map headS = ns at hN
        have eo : namesOf (.tuple cs) = ns := hns
        rw [eo] at hQ
        have en : PyData.list (ns.map .str) = namesD ns := rfl
        have d1 : putD (.str "go") (.str "n") (putD (.str "not") (.str "dwn") (putD (.str "is") (.str "dwn") (putD (.str "same") (.str "ddn") (putD (.str "read") (.str "cd") [])))) = reads.map fun p => (PyData.str p.1, PyData.str p.2) := lit_reads
        have d2 : putD (.str "go") (.str "n") (putD (.str "swap") (.str "cwwn") (putD (.str "when") (.str "cwn") (putD (.str "put") (.str "cw") (putD (.str "new") (.str "c") [])))) = writes.map fun p => (PyData.str p.1, PyData.str p.2) := lit_writes
        have d3 : PyData.dict (reads.map fun p => (PyData.str p.1, PyData.str p.2)) = dictD reads := rfl
        have d4 : PyData.dict (writes.map fun p => (PyData.str p.1, PyData.str p.2)) = dictD writes := rfl
        simp [ev_dlit]
        rw [d1, d2]
        simp [atI1]
        rw [en, d3]
        refine s_law_rows S.fr S.nm S.sh S.ro (n := n) (hd.2 r (by simp)) (by omega) hL hN ok_reads ?_
        rw [rows_reads]
        simp
        cases hrb : readerB ns r with
        | false =>
          rw [hrb, Bool.false_and, Bool.false_and] at hQ
          simp [fin]
          exact hQ
        | true =>
          rw [hrb, Bool.true_and] at hQ
          simp [atI2]
          refine s_law_answer S.cl S.fr S.an (n := n + 1) (hd.2 a (by simp)) (by omega) hL hN ?_
          simp
          cases hab : answerB ns a with
          | false =>
            rw [hab, Bool.false_and] at hQ
            simp [fin]
            exact hQ
          | true =>
            rw [hab, Bool.true_and] at hQ
            simp [atI3]
            rcases tuple_or w with e | ⟨ws, rfl⟩
            · have : writersB ns w = false := by cases w <;> first | rfl | cases e
              rw [this] at hQ
              simp [e, fin]
              exact hQ
            have hQ : Q (.fz (.bool (decide (ws.length ≤ 3) && ws.all (writerB ns)))) _ := hQ
            simp [atI3]
            by_cases h3 : ws.length ≤ 3
            · have i3 : ¬ (3 : Int) < ws.length := by omega
              rw [decide_eq_true h3, Bool.true_and] at hQ
              have okw := hd.2 (.tuple ws) (by simp)
              rw [okD_tuple, Bool.and_eq_true, decide_eq_true_eq, List.all_eq_true] at okw
              simp [i3, atI3]
              rw [WO_inner]
              refine W_lc (WrI (.tuple [.tuple cs, r, a, .tuple ws]) ns ws) (fun wr rem acc ρ hI => ?_) _ [] _ ⟨[], _, _, rfl, rfl, .inl rfl, rfl⟩ (fun bs ρ hI => ?_)
              · obtain ⟨pre, s4, s5, ez, rfl, h4, rfl⟩ := hI
                have hwr : okD L (k + 1) wr = true := okw.2 wr (by rw [ez]; simp)
                have hN4 : ∀ s4' : Y.Slot, (s4' = .own false (.dic (writes.map fun p => (PyData.str p.1, PyData.str p.2))) ∨ s4' = .fz (dictD writes)) → ∀ o : Option PyData, o = noneG (writerB ns) wr → WrI (.tuple [.tuple cs, r, a, .tuple ws]) ns ws rem (pre.filterMap (noneG (writerB ns)) ++ o.toList) [.fz (.tuple [.tuple cs, r, a, .tuple ws]), .fz (namesD ns), .und, .fz (dictD reads), s4', .fz wr] := fun s4' h o ho =>
                  ⟨pre ++ [wr], s4', _, by rw [ez]; simp, by rw [List.filterMap_append, ho]; cases hb : noneG (writerB ns) wr <;> simp [hb], h, rfl⟩
                rcases h4 with rfl | rfl
                · simp [cturn_app]
                  rw [d4]
                  refine s_law_rows S.fr S.nm S.sh S.ro (n := n) hwr (by omega) hL hN ok_writes ?_
                  rw [rows_writes]
                  simp
                  cases hb : writerB ns wr with
                  | true =>
                    have h := hN4 _ (.inr rfl) none (by simp [noneG, hb])
                    simp at h ⊢
                    exact h
                  | false => simp; exact hN4 _ (.inr rfl) (some wr) (by simp [noneG, hb])
                · simp [cturn_app]
                  refine s_law_rows S.fr S.nm S.sh S.ro (n := n) hwr (by omega) hL hN ok_writes ?_
                  rw [rows_writes]
                  simp
                  cases hb : writerB ns wr with
                  | true =>
                    have h := hN4 _ (.inr rfl) none (by simp [noneG, hb])
                    simp at h ⊢
                    exact h
                  | false => simp; exact hN4 _ (.inr rfl) (some wr) (by simp [noneG, hb])
              · obtain ⟨pre, s4, s5, ez, eb, h4, rfl⟩ := hI
                rw [List.append_nil] at ez
                subst ez
                rw [List.nil_append] at eb
                subst eb
                have hsh := none_ok (writerB ns) okw.2 okw.1 (by omega)
                have hemp := none_empty (writerB ns) ws
                have hll : (ws.filterMap (noneG (writerB ns))).length ≤ lim := Nat.le_trans (List.length_filterMap_le _ _) (by show _ ≤ 16777216; omega)
                generalize ws.filterMap (noneG (writerB ns)) = bs at hsh hemp hll ⊢
                refine ⟨hll, ?_⟩
                rw [← hemp] at hQ
                simp [eq_nil hsh, fin]
                exact hQ
            · have i3 : (3 : Int) < ws.length := by omega
              rw [decide_eq_false h3, Bool.false_and] at hQ
              simp [i3, fin]
              exact hQ
end K01

set_option Elab.async false
set_option linter.all false
set_option maxRecDepth 100000
namespace K01
open PySem Y
def exB : Bool := match callN fuel T (198 + 1) "_law_examples" [] with
  | .ok (.own (.lst ds)) sl => ds.all (okD 20 10) && decide (ds.length ≤ 100) && sl.isEmpty
  | _ => false
theorem ex_ok : exB = true := by decide +kernel
theorem examples_ok {Q : R → List Y.Slot → Prop} (hQ : ∀ ds, ds.all (okD 20 10) = true → ds.length ≤ 100 → Q (.own (.lst ds)) []) : WO (callN fuel T (198 + 1) "_law_examples" []) Q := by
  have h := ex_ok
  unfold exB at h
  split at h
  · rename_i ds sl e
    rw [Bool.and_eq_true, Bool.and_eq_true, decide_eq_true_eq] at h
    rw [e]
    cases sl with
    | nil => exact .mk (hQ _ h.1.1 h.1.2)
    | cons _ _ => cases h.2
  · cases h
end K01

set_option Elab.async false
set_option linter.all false
set_option maxRecDepth 100000
namespace K01
open PySem Y
theorem h_sys : SysH T := ⟨rfl, rfl, rfl, rfl, rfl, rfl, rfl, rfl, rfl, rfl, rfl⟩
theorem h_law : LawH T := ⟨rfl, rfl, rfl, rfl, rfl, rfl, rfl, rfl⟩
theorem h_draw : DrawH T := ⟨rfl, rfl, rfl⟩
theorem h_changed : Has T G.f__law_changed := rfl
theorem eq_bool {a : Bool} : eqD (.bool a) (.bool a) = some true := by
  rw [eqD_of rfl rfl]
  simp
theorem in_tests {w : Str} (hw : SeqAt.shaped (.str w) = true) : inD (.str w) (.list [.str "same", .str "is", .str "not"]) = some (testB w) := by
  rw [inD_list hw (by decide +kernel)]
  simp only [List.any_cons, List.any_nil, eqv_str, Bool.or_false]
  unfold testB
  congr 1
  rw [show (("same" : Str) == w) = (w == "same") from by simp [BEq.comm], show (("is" : Str) == w) = (w == "is") from by simp [BEq.comm], show (("not" : Str) == w) = (w == "not") from by simp [BEq.comm]]
  cases (w == "same") <;> cases (w == "is") <;> cases (w == "not") <;> rfl
theorem nums_lay {rs : List PyData} (hl : rs.length ≤ 100) : SeqAt.shaped (.list (testNums rs)) = true := by
  have hx : ∀ d ∈ testNums rs, d.canLay0 = true ∧ d.depth ≤ 0 := fun d hd => by
    unfold testNums at hd
    obtain ⟨p, hp, e⟩ := List.mem_filterMap.mp hd
    obtain ⟨i, r, _, rfl⟩ := enuD_mem hp
    unfold numG at e
    split at e
    · rename_i heq
      cases heq
      split at e
      · cases e; exact ⟨rfl, Nat.le_refl _⟩
      · cases e
    · cases e
  obtain ⟨h1, h2⟩ := canLayAll_of hx
  unfold SeqAt.shaped
  rw [Bool.and_eq_true, decide_eq_true_eq]
  refine ⟨h1, ?_⟩
  show PyData.depthAll _ + 1 ≤ 64
  omega
theorem eq_self_list {xs : List PyData} (h : SeqAt.shaped (.list xs) = true) : eqD (.list xs) (.list xs) = some true := by
  rw [eqD_of h h]
  congr 1
  exact PySem.SeqAt.eqv_refl _ (SeqAt.canLay_of_shaped h)
end K01

set_option Elab.async false
set_option linter.all false
set_option maxRecDepth 100000
namespace K01
open PySem Y
abbrev Γ0 : Gam := ⟨callN fuel T 199, fuel⟩
theorem WO_true {o : Out R} (h : WO o fun r _ => r = .fz (.bool true)) : ∃ sl, o = .ok (.fz (.bool true)) sl := by
  cases h with
  | mk h => subst h; exact ⟨_, rfl⟩
theorem no_dic {L k : Nat} {kvs : List (PyData × PyData)} : okD L k (.dict kvs) = false := by cases k <;> rfl
theorem s_changed' {T : List Fn} {fuel : Nat} (hd : Has T G.f__law_draw) (hc : Has T G.f__law_choice) (hh : Has T G.f__law_changed) {L k N : Nat} (hL : 3 ≤ L) (hL2 : L < 1000000) (hN : k + 3 ≤ N) {a b : Int} {d : PyData} {Q : R → List Y.Slot → Prop} (hk : k ≤ 60) (ho : okD L k d = true) (h : SrcOk a b)
    (hQ : ∀ r a' b', okD (L + 1) (k + 1) r.data = true → SrcOk a' b' → Q r [src a' b', .fz d]) : WO (callN fuel T N "_law_changed" [src a b, .fz d]) Q := by
  obtain ⟨n, rfl⟩ : ∃ n, N = n + k + 3 := ⟨N - k - 3, by omega⟩
  exact s_changed hd hc hh hL hL2 k hk ho h hQ
def V (sc : PyData) (s1 : Y.Slot) (es : List PyData) (ρ : Rho) : Prop := es.length ≤ 7 ∧ ∃ a b r s4 s5 s6, SrcOk a b ∧ okD (20 - es.length) (12 - es.length) (R.data r) = true ∧ ρ = [.fz sc, s1, .own false (.lst [.int a, .int b]), R.slot r, s4, s5, s6, .und, .und]
theorem V_step {sc : PyData} {s1 s4 s5 s6 : Y.Slot} {es : List PyData} {r : R} {a b : Int} (hl : es.length + 1 ≤ 7) (h : SrcOk a b) (hr : okD (20 - (es.length + 1) + 1) (12 - (es.length + 1) + 1) r.data = true) :
    V sc s1 es [.fz sc, s1, .own false (.lst [.int a, .int b]), R.slot r, s4, s5, s6, .und, .und] :=
  ⟨by omega, a, b, r, s4, s5, s6, h, okD_mono (by omega) (by omega) hr, rfl⟩
theorem tests_len {rs : List PyData} (h : rs.length ≤ 10) : (testNums rs).length ≤ lim := by
  have : (testNums rs).length ≤ rs.length := Nat.le_trans (List.length_filterMap_le _ _) (by rw [enuD_length]; exact Nat.le_refl _)
  show _ ≤ 16777216
  omega
theorem turn_ok {Q : Fl → Rho → Prop} {sc : PyData} {s1 : Y.Slot} (ds : List PyData) (ρ : Rho) (hQ : ∀ ρ, V sc s1 [] ρ → Q .nx ρ) (hV : V sc s1 ds ρ) : WO (forL (turn Γ0 (.nm 4) (.cons (.set 5 (.call "is_system" (.val (.var 3) .nil))) (.cons (.ife (.or (.not (.isi (.var 5) .bool)) (.cmp .ne (.var 5) (.call "_law_good" (.val (.var 3) .nil)))) (.cons (.ret (.con (.bool false))) .nil) .nil) (.cons (.ife (.var 5) (.cons (.set 6 (.lc [7, 8] (.tup [(.nm 7), (.nm 8)]) (.enu (.ix (.var 3) (.con (.int 1)))) (.cons (.cmp .inn (.ix (.var 8) (.con (.int 0))) (.lst (.cons (.con (.str "same")) (.cons (.con (.str "is")) (.cons (.con (.str "not")) .nil))))) .nil) (.var 7))) (.cons (.ife (.cmp .ne (.call "tests_of" (.val (.var 3) .nil)) (.var 6)) (.cons (.ret (.con (.bool false))) .nil) .nil) .nil)) .nil) (.cons (.set 3 (.call "_law_changed" (.mut 2 (.val (.var 3) .nil)))) .nil))))) ds ρ) Q := by
  refine W_for (V sc s1) (fun e es ρ hI => ?_) (fun ρ hI => hQ ρ hI) _ _ hV
  obtain ⟨hl, a, b, r, s4, s5, s6, h, hr, rfl⟩ := hI
  rw [List.length_cons] at hl hr
  cases r with
  | fz d =>
    have hr : okD (20 - (es.length + 1)) (12 - (es.length + 1)) d = true := hr
    simp only [turn_app]
    simp
    refine h_sys.sys (n := 195) hr (by omega) (by omega) ?_
    simp
    refine h_law.good (n := 195) hr (by omega) (by omega) ?_
    cases hs : sysB d with
    | false =>
      simp [eq_bool]
      refine s_changed' h_draw.dr h_draw.ch h_changed (by omega) (by omega) (by omega) (by omega) hr h fun r2 a' b' q h' => ?_
      simp [src]
      exact V_step hl h' q
    | true =>
      obtain ⟨c, rs, aa, w, rfl, hc, hl1, hrs⟩ := sys_parts hs
      have hrw := sys_rows hr (by omega) hrs
      simp [eq_bool, atI1]
      refine W_pure numG (fun p hp => ?_) ?_
      · obtain ⟨i, r, hr, rfl⟩ := enuD_mem hp
        obtain ⟨w, q, rfl, hw⟩ := hrw r hr
        simp [cturn_app, in_tests hw, atI0]
        cases hb : testB w <;> simp [numG, hb]
      · have e1 : (enuD 0 rs).filterMap numG = testNums rs := rfl
        have nl := nums_lay (rs := rs) (by omega)
        have tl := tests_len hl1
        rw [e1]
        simp [tl]
        refine s_tests_of h_sys rfl rfl rfl rfl (n := 193) hr (by omega) (by omega) hs hrw (by show _ ≤ 16777216; omega) ?_
        simp [eq_self_list nl]
        refine s_changed' h_draw.dr h_draw.ch h_changed (by omega) (by omega) (by omega) (by omega) hr h fun r2 a' b' q h' => ?_
        simp [src]
        exact V_step hl h' q
  | own o =>
    cases o with
    | dic kvs => exact absurd hr (by show ¬ okD _ _ (.dict kvs) = true; rw [no_dic]; exact Bool.false_ne_true)
    | lst xs =>
      have hr : okD (20 - (es.length + 1)) (12 - (es.length + 1)) (.list xs) = true := hr
      simp only [turn_app]
      simp
      refine h_sys.sys (n := 195) hr (by omega) (by omega) ?_
      simp
      refine h_law.good (n := 195) hr (by omega) (by omega) ?_
      have hs : sysB (.list xs) = false := rfl
      simp [eq_bool, hs]
      refine s_changed' h_draw.dr h_draw.ch h_changed (by omega) (by omega) (by omega) (by omega) hr h fun r2 a' b' q h' => ?_
      simp [src]
      exact V_step hl h' q
end K01

set_option Elab.async false
set_option linter.all false
set_option maxRecDepth 100000
namespace K01
open PySem Y
def I (sc : PyData) (ds : List PyData) (ρ : Rho) : Prop := (∀ d ∈ ds, ∃ k : Int, d = .int k ∧ 0 ≤ k ∧ k < 1000) ∧ ∃ s1 s2 s3 s4 s5 s6, ρ = [.fz sc, s1, s2, s3, s4, s5, s6, .und, .und]
theorem h_src : Has T G.f__law_source := rfl
theorem h_cells : Has T G.f__law_cells := rfl
theorem h_test : Has T G.f__law_test := rfl
theorem h_reader : Has T G.f__law_reader := rfl
theorem h_wrow : Has T G.f__law_writer_row := rfl
theorem h_writer : Has T G.f__law_writer := rfl
theorem h_answer : Has T G.f__law_answer := rfl
theorem h_system : Has T G.f__law_system := rfl
theorem law_W (ns : List Int) (hn : ns.length ≤ 63) : WO (callN fuel T (199 + 1) f_law.name [.fz (.list (ns.map .int))]) fun r _ => r = .fz (.bool true) := by
  refine WO_call (by unfold Has; rfl) rfl ?_
  simp [f_law]
  have hm : ∀ m : Int, m = (if (10 : Int) < ((ns.length : Nat) : Int) then (10 : Int) else ((ns.length : Nat) : Int)) → okRng (1 + m) = true ∧ ∀ d ∈ rngD 0 (1 + m).toNat, ∃ k : Int, d = .int k ∧ 0 ≤ k ∧ k < 1000 := fun m hm => by
    have hm2 : 0 ≤ m ∧ m ≤ 10 := by rw [hm]; split <;> omega
    refine ⟨by unfold okRng; simp; omega, fun d hd => ?_⟩
    unfold rngD at hd
    obtain ⟨i, hi, rfl⟩ := List.mem_map.mp hd
    have := List.mem_range.mp hi
    exact ⟨_, rfl, by omega, by omega⟩
  obtain ⟨m1, m2⟩ := hm _ rfl
  refine ⟨m1, ?_⟩
  refine W_for (I (.list (ns.map .int))) (fun d ds ρ hI => ?_) (fun ρ hI => ?_) _ _ ⟨m2, _, _, _, _, _, _, rfl⟩
  · obtain ⟨hd, s1, s2, s3, s4, s5, s6, rfl⟩ := hI
    obtain ⟨k, rfl, k0, k1⟩ := hd d List.mem_cons_self
    simp only [turn_app]
    simp
    refine s_source h_src k0 k1 fun a b h => ?_
    simp
    refine h_draw.system (n := 193) h_cells h_test h_reader h_wrow h_writer h_answer h_system h fun x a b ox h => ?_
    simp [src, okRng]
    refine turn_ok (sc := .list (ns.map .int)) (s1 := .fz (.int k)) _ _ (fun ρ hV => ?_) ⟨by simp [rngD], a, b, .fz x, s4, s5, s6, h, okD_mono (by simp [rngD]) (by simp [rngD]) ox, rfl⟩
    obtain ⟨_, a, b, r, s4, s5, s6, _, _, rfl⟩ := hV
    exact ⟨fun x hx => hd x (List.mem_cons_of_mem _ hx), _, _, _, _, _, _, rfl⟩
  · obtain ⟨_, s1, s2, s3, s4, s5, s6, rfl⟩ := hI
    simp
    refine examples_ok fun ds od hl => ?_
    simp
    refine W_pure (fun _ => none) (fun p hp => ?_) ?_
    · have op := List.all_eq_true.mp od p hp
      simp [cturn_app]
      refine h_sys.sys (n := 195) op (by omega) (by omega) ?_
      simp
      refine h_law.good (n := 195) op (by omega) (by omega) ?_
      simp [eq_bool]
    · have e1 : ds.filterMap (fun _ => (none : Option PyData)) = [] := by simp
      have e2 : eqD (.list []) (.list []) = some true := eq_nil rfl
      rw [e1]
      simp [fin, e2]
theorem law_ok (ns : List Int) (hn : ns.length ≤ 63) : ∃ sl, callN fuel T 200 f_law.name [.fz (.list (ns.map .int))] = .ok (.fz (.bool true)) sl :=
  WO_true (law_W ns hn)
end K01

set_option maxRecDepth 100000
open PySem PySem.W PyProof.Rows
set_option maxHeartbeats 0 in
theorem PySem.Challenge.cw_lookedtwice_k01_systems_recognized_holds : PySem.Challenge.rw_lookedtwice_k01_systems_recognized.Holds := by
  w_on; o_law; k_head; (case hw => w_witness2)
  k_fill
  refine Y.law_walk (l := PySem.Challenge.rw_lookedtwice_k01_systems_recognized) rfl rfl (fun w h YY => PySem.W.kIn_of YY) K01.T K01.consts K01.blts K01.fuel K01.f_law (by simp [K01.T]) (by decide +kernel) (by decide +kernel) ?ok K01.law_ok
  case ok =>
    intro w
    refine' ⟨?nd, ?defs, ?con, ?blt⟩
    case nd => decide +kernel
    case defs =>
      refine' .cons (.mk ?d1a ?d1b ?d1c ?d1d) ?d1m
      case d1a => k_is
      case d1b => k_is
      case d1c => k_is
      case d1d => decide +kernel
      refine' .cons (.mk ?d2a ?d2b ?d2c ?d2d) ?d2m
      case d2a => k_is
      case d2b => k_is
      case d2c => k_is
      case d2d => decide +kernel
      refine' .cons (.mk ?d3a ?d3b ?d3c ?d3d) ?d3m
      case d3a => k_is
      case d3b => k_is
      case d3c => k_is
      case d3d => decide +kernel
      refine' .cons (.mk ?d4a ?d4b ?d4c ?d4d) ?d4m
      case d4a => k_is
      case d4b => k_is
      case d4c => k_is
      case d4d => decide +kernel
      refine' .cons (.mk ?d5a ?d5b ?d5c ?d5d) ?d5m
      case d5a => k_is
      case d5b => k_is
      case d5c => k_is
      case d5d => decide +kernel
      refine' .cons (.mk ?d6a ?d6b ?d6c ?d6d) ?d6m
      case d6a => k_is
      case d6b => k_is
      case d6c => k_is
      case d6d => decide +kernel
      refine' .cons (.mk ?d7a ?d7b ?d7c ?d7d) ?d7m
      case d7a => k_is
      case d7b => k_is
      case d7c => k_is
      case d7d => decide +kernel
      refine' .cons (.mk ?d8a ?d8b ?d8c ?d8d) ?d8m
      case d8a => k_is
      case d8b => k_is
      case d8c => k_is
      case d8d => decide +kernel
      refine' .cons (.mk ?d9a ?d9b ?d9c ?d9d) ?d9m
      case d9a => k_is
      case d9b => k_is
      case d9c => k_is
      case d9d => decide +kernel
      refine' .cons (.mk ?d10a ?d10b ?d10c ?d10d) ?d10m
      case d10a => k_is
      case d10b => k_is
      case d10c => k_is
      case d10d => decide +kernel
      refine' .cons (.mk ?d11a ?d11b ?d11c ?d11d) ?d11m
      case d11a => k_is
      case d11b => k_is
      case d11c => k_is
      case d11d => decide +kernel
      refine' .cons (.mk ?d12a ?d12b ?d12c ?d12d) ?d12m
      case d12a => k_is
      case d12b => k_is
      case d12c => k_is
      case d12d => decide +kernel
      refine' .cons (.mk ?d13a ?d13b ?d13c ?d13d) ?d13m
      case d13a => k_is
      case d13b => k_is
      case d13c => k_is
      case d13d => decide +kernel
      refine' .cons (.mk ?d14a ?d14b ?d14c ?d14d) ?d14m
      case d14a => k_is
      case d14b => k_is
      case d14c => k_is
      case d14d => decide +kernel
      refine' .cons (.mk ?d15a ?d15b ?d15c ?d15d) ?d15m
      case d15a => k_is
      case d15b => k_is
      case d15c => k_is
      case d15d => decide +kernel
      refine' .cons (.mk ?d16a ?d16b ?d16c ?d16d) ?d16m
      case d16a => k_is
      case d16b => k_is
      case d16c => k_is
      case d16d => decide +kernel
      refine' .cons (.mk ?d17a ?d17b ?d17c ?d17d) ?d17m
      case d17a => k_is
      case d17b => k_is
      case d17c => k_is
      case d17d => decide +kernel
      refine' .cons (.mk ?d18a ?d18b ?d18c ?d18d) ?d18m
      case d18a => k_is
      case d18b => k_is
      case d18c => k_is
      case d18d => decide +kernel
      refine' .cons (.mk ?d19a ?d19b ?d19c ?d19d) ?d19m
      case d19a => k_is
      case d19b => k_is
      case d19c => k_is
      case d19d => decide +kernel
      refine' .cons (.mk ?d20a ?d20b ?d20c ?d20d) ?d20m
      case d20a => k_is
      case d20b => k_is
      case d20c => k_is
      case d20d => decide +kernel
      refine' .cons (.mk ?d21a ?d21b ?d21c ?d21d) ?d21m
      case d21a => k_is
      case d21b => k_is
      case d21c => k_is
      case d21d => decide +kernel
      refine' .cons (.mk ?d22a ?d22b ?d22c ?d22d) ?d22m
      case d22a => k_is
      case d22b => k_is
      case d22c => k_is
      case d22d => decide +kernel
      refine' .cons (.mk ?d23a ?d23b ?d23c ?d23d) ?d23m
      case d23a => k_is
      case d23b => k_is
      case d23c => k_is
      case d23d => decide +kernel
      refine' .cons (.mk ?d24a ?d24b ?d24c ?d24d) ?d24m
      case d24a => k_is
      case d24b => k_is
      case d24c => k_is
      case d24d => decide +kernel
      refine' .cons (.mk ?d25a ?d25b ?d25c ?d25d) ?d25m
      case d25a => k_is
      case d25b => k_is
      case d25c => k_is
      case d25d => decide +kernel
      refine' .cons (.mk ?d26a ?d26b ?d26c ?d26d) ?d26m
      case d26a => k_is
      case d26b => k_is
      case d26c => k_is
      case d26d => decide +kernel
      refine' .cons (.mk ?d27a ?d27b ?d27c ?d27d) ?d27m
      case d27a => k_is
      case d27b => k_is
      case d27c => k_is
      case d27d => decide +kernel
      refine' .cons (.mk ?d28a ?d28b ?d28c ?d28d) ?d28m
      case d28a => k_is
      case d28b => k_is
      case d28c => k_is
      case d28d => decide +kernel
      refine' .cons (.mk ?d29a ?d29b ?d29c ?d29d) ?d29m
      case d29a => k_is
      case d29b => k_is
      case d29c => k_is
      case d29d => decide +kernel
      refine' .cons (.mk ?d30a ?d30b ?d30c ?d30d) ?d30m
      case d30a => k_is
      case d30b => k_is
      case d30c => k_is
      case d30d => decide +kernel
      refine' .cons (.mk ?d31a ?d31b ?d31c ?d31d) ?d31m
      case d31a => k_is
      case d31b => k_is
      case d31c => k_is
      case d31d => decide +kernel
      refine' .cons (.mk ?d32a ?d32b ?d32c ?d32d) ?d32m
      case d32a => k_is
      case d32b => k_is
      case d32c => k_is
      case d32d => decide +kernel
      refine' .cons (.mk ?d33a ?d33b ?d33c ?d33d) ?d33m
      case d33a => k_is
      case d33b => k_is
      case d33c => k_is
      case d33d => decide +kernel
      refine' .cons (.mk ?d34a ?d34b ?d34c ?d34d) ?d34m
      case d34a => k_is
      case d34b => k_is
      case d34c => k_is
      case d34d => decide +kernel
      refine' .cons (.mk ?d35a ?d35b ?d35c ?d35d) ?d35m
      case d35a => k_is
      case d35b => k_is
      case d35c => k_is
      case d35d => decide +kernel
      refine' .cons (.mk ?d36a ?d36b ?d36c ?d36d) ?d36m
      case d36a => k_is
      case d36b => k_is
      case d36c => k_is
      case d36d => decide +kernel
      refine' .cons (.mk ?d37a ?d37b ?d37c ?d37d) ?d37m
      case d37a => k_is
      case d37b => k_is
      case d37c => k_is
      case d37d => decide +kernel
      exact .nil
    case con =>
      refine' .cons ?c38a ?c38b ?c38m
      case c38a => k_is
      case c38b => exact .flat (by decide +kernel)
      refine' .cons ?c39a ?c39b ?c39m
      case c39a => k_is
      case' c39b => refine' .tup ?t40a ?t40b ?t40c
      case t40a => k_is
      case t40b => decide +kernel
      case t40c => exact Y.RepCs.flats (by decide +kernel)
      refine' .cons ?c41a ?c41b ?c41m
      case c41a => k_is
      case c41b => exact .flat (by decide +kernel)
      refine' .cons ?c42a ?c42b ?c42m
      case c42a => k_is
      case c42b => exact .flat (by decide +kernel)
      refine' .cons ?c43a ?c43b ?c43m
      case c43a => k_is
      case c43b => exact .flat (by decide +kernel)
      refine' .cons ?c44a ?c44b ?c44m
      case c44a => k_is
      case c44b => exact .flat (by decide +kernel)
      refine' .cons ?c45a ?c45b ?c45m
      case c45a => k_is
      case c45b => exact .flat (by decide +kernel)
      exact .nil
    case blt =>
      refine' .cons ?b46a ?b46m
      case b46a => k_is
      refine' .cons ?b47a ?b47m
      case b47a => k_is
      refine' .cons ?b48a ?b48m
      case b48a => k_is
      refine' .cons ?b49a ?b49m
      case b49a => k_is
      refine' .cons ?b50a ?b50m
      case b50a => k_is
      refine' .cons ?b51a ?b51m
      case b51a => k_is
      refine' .cons ?b52a ?b52m
      case b52a => k_is
      refine' .cons ?b53a ?b53m
      case b53a => k_is
      refine' .cons ?b54a ?b54m
      case b54a => k_is
      refine' .cons ?b55a ?b55m
      case b55a => k_is
      refine' .cons ?b56a ?b56m
      case b56a => k_is
      refine' .cons ?b57a ?b57m
      case b57a => k_is
      refine' .cons ?b58a ?b58m
      case b58a => k_is
      exact .nil
