import PyProof.Rows.All
import Wide.All
import OpenK.AllK
import Wide.FinOn
import HandS.ForMost
import HandS.ForExc
import HandS.Style
import HandS.TupAny
import HandS.TupMul
import HandS.IsInst
import HandS.Deep
import HandS.Zip
import HandS.More
import HandS.Words
import HandS.WordsExc
import HandS.Defaults
import HandS.Head0
import HandS.Head1
import HandS.Head2
import HandS.HeadEnd
import HandS.HeadHook1
import HandS.HeadHook2
import HandS.EndBits
import PySem.Challenge.RW_documenthall_k69_whole_things_there_and
import PyProof.ReprLen
set_option Elab.async false
set_option linter.all false
set_option maxRecDepth 100000
set_option maxHeartbeats 0
/-! EvA: values, a small language, its evaluator. -/
namespace EV
open PySem

/-- a value: data; a list that nobody changes any more; an object of the store; the law's script -/
inductive PV where
  | non | bl (b : Bool) | int (i : Int) | str (x : Str) | tup (xs : List PV) | lst (xs : List PV) | ref (n : Nat) | scr (ns : List Int)
instance : Inhabited PV := ⟨.non⟩
/-- an object with an identity -/
inductive SO where
  | lst (xs : List PV)
abbrev Sto := List SO
structure Exc where
  cls : Nat
  fs : List (Str × PV)
inductive Res (α : Type) where
  | ok (a : α) (s : Sto)
  | exc (e : Exc) (s : Sto)
  | stuck
abbrev M (α : Type) := Sto → Res α
def Res.bind {α β : Type} (r : Res α) (f : α → M β) : Res β := match r with
  | .ok a s => f a s
  | .exc e s => .exc e s
  | .stuck => .stuck
def M.bind {α β : Type} (m : M α) (f : α → M β) : M β := fun s => (m s).bind f
def M.pure {α : Type} (a : α) : M α := fun s => .ok a s
def stuck {α : Type} : M α := fun _ => .stuck
instance : Monad M where
  pure := M.pure
  bind := M.bind
def ofO {α : Type} (o : Option α) : M α := match o with
  | some a => M.pure a
  | none => stuck
def getS : M Sto := fun s => .ok s s
theorem pure_ap {α : Type} (a : α) (s : Sto) : (pure a : M α) s = .ok a s := rfl
theorem bind_ap {α β : Type} (m : M α) (f : α → M β) (s : Sto) : (m >>= f) s = (m s).bind f := rfl
theorem Res.bind_ok {α β : Type} (a : α) (s : Sto) (f : α → M β) : (Res.ok a s).bind f = f a s := rfl
theorem bind_inv {α β : Type} {m : M α} {f : α → M β} {s s' : Sto} {b : β} (h : (m >>= f) s = .ok b s') : ∃ a s1, m s = .ok a s1 ∧ f a s1 = .ok b s' := by
  have h' : (m s).bind f = .ok b s' := h
  cases e : m s with
  | ok a s1 => rw [e] at h'; exact ⟨a, s1, rfl, h'⟩
  | exc x s1 => rw [e] at h'; cases h'
  | stuck => rw [e] at h'; cases h'
theorem ofO_inv {α : Type} {o : Option α} {s s' : Sto} {a : α} (h : ofO o s = .ok a s') : o = some a ∧ s' = s := by
  cases o with
  | none => cases h
  | some x => cases h; exact ⟨rfl, rfl⟩
theorem pure_inv {α : Type} {a b : α} {s s' : Sto} (h : (pure a : M α) s = .ok b s') : b = a ∧ s' = s := by
  have h' : Res.ok a s = .ok b s' := h
  cases h'; exact ⟨rfl, rfl⟩

def Res.wp {α : Type} (r : Res α) (N : α → Sto → Prop) (E : Exc → Sto → Prop) : Prop := match r with
  | .ok a s => N a s
  | .exc e s => E e s
  | .stuck => False
/-- nothing may be raised here -/
def noX {α : Type} (m : M α) : M α := fun s => match m s with
  | .ok a s => .ok a s
  | _ => .stuck
theorem wp_bind {α β : Type} (m : M α) (f : α → M β) (s : Sto) (N : β → Sto → Prop) (E : Exc → Sto → Prop) : ((m >>= f) s).wp N E = (m s).wp (fun a s' => (f a s').wp N E) E := by
  show ((m s).bind f).wp N E = _
  cases m s <;> rfl
theorem wp_pure {α : Type} (a : α) (s : Sto) (N : α → Sto → Prop) (E : Exc → Sto → Prop) : ((pure a : M α) s).wp N E = N a s := rfl
theorem wp_getS (s : Sto) (N : Sto → Sto → Prop) (E : Exc → Sto → Prop) : (getS s).wp N E = N s s := rfl
theorem wp_stuck {α : Type} (s : Sto) (N : α → Sto → Prop) (E : Exc → Sto → Prop) : ((stuck : M α) s).wp N E = False := rfl
theorem wp_ofO {α : Type} (o : Option α) (s : Sto) (N : α → Sto → Prop) (E : Exc → Sto → Prop) : (ofO o s).wp N E = ∃ a, o = some a ∧ N a s := by
  cases o with
  | none =>
    refine propext ⟨fun h => h.elim, fun ⟨a, h, _⟩ => ?_⟩
    cases h
  | some a =>
    refine propext ⟨fun h => ⟨a, rfl, h⟩, fun ⟨b, h, g⟩ => ?_⟩
    cases h
    exact g
theorem wp_ite {α : Type} {c : Prop} [Decidable c] (m m' : M α) (s : Sto) (N : α → Sto → Prop) (E : Exc → Sto → Prop) : ((if c then m else m') s).wp N E = if c then (m s).wp N E else (m' s).wp N E := by
  by_cases h : c
  · rw [if_pos h, if_pos h]
  · rw [if_neg h, if_neg h]
theorem wp_noX {α : Type} (m : M α) (s : Sto) (N : α → Sto → Prop) (E : Exc → Sto → Prop) : (noX m s).wp N E = (m s).wp N (fun _ _ => False) := by
  unfold noX
  cases m s <;> rfl
theorem Res.wp.mono {α : Type} {r : Res α} {N N' : α → Sto → Prop} {E E' : Exc → Sto → Prop} (h : r.wp N E) (n : ∀ a s, N a s → N' a s) (e : ∀ x s, E x s → E' x s) : r.wp N' E' := by
  cases r with
  | ok a s => exact n a s h
  | exc x s => exact e x s h
  | stuck => exact h

/-! ### data -/
mutual
def toD : PV → Option PyData
  | .non => some .none
  | .bl b => some (.bool b)
  | .int i => some (.int i)
  | .str x => some (.str x)
  | .tup xs => (toDs xs).map .tuple
  | .lst xs => (toDs xs).map .list
  | .ref _ => none
  | .scr _ => none
def toDs : List PV → Option (List PyData)
  | [] => some []
  | x :: r => (toD x).bind fun d => (toDs r).map (d :: ·)
end
/-- the items of a sequence -/
def seqOf (S : Sto) : PV → Option (List PV)
  | .tup xs => some xs
  | .lst xs => some xs
  | .ref n => (match S[n]? with
    | some (.lst xs) => some xs
    | none => none)
  | _ => none
/-- a list, by its items -/
def lstOf (S : Sto) : PV → Option (List PV)
  | .lst xs => some xs
  | .ref n => (match S[n]? with
    | some (.lst xs) => some xs
    | none => none)
  | _ => none

inductive BOp where
  | add | sub | mul | fdiv | mod | pow
  deriving DecidableEq
inductive COp where
  | eq | ne | lt | le | gt | ge | is | isn | isin | nin
  deriving DecidableEq
/-- a op b -/
def binOp (S : Sto) (o : BOp) (a b : PV) : Option PV := match o, a, b with
  | .add, .int i, .int j => some (.int (i + j))
  | .add, .str x, .str y => if x.length + y.length ≤ sizeLine then some (.str (x ++ y)) else none
  | .add, .tup x, .tup y => if x.length + y.length ≤ sizeLine then some (.tup (x ++ y)) else none
  | .sub, .int i, .int j => some (.int (i - j))
  | .mul, .int i, .int j => if (i.natAbs < 2 ^ 64) ∨ (j.natAbs < 2 ^ 64) then some (.int (i * j)) else none
  | .mul, .tup x, .int k => if x ≠ [] ∧ 2 ≤ k ∧ k ≤ 1000 ∧ x.length ≤ 1000 then some (.tup (List.replicate k.toNat x).flatten) else none
  | .mul, .str x, .int k => if x.length ≤ 1000 ∧ 1 ≤ k ∧ k ≤ 1000 then some (.str (Txt.mul x k)) else none
  | .fdiv, .int i, .int j => if 0 < j ∧ j < 1073741824 then some (.int (i / j)) else none
  | .mod, .int i, .int j => if 0 < j then some (.int (i % j)) else none
  | .pow, .int i, .int j => if 0 ≤ j ∧ j ≤ 1000000 ∧ i.natAbs < 2 ^ 64 then some (.int (i ^ j.toNat)) else none
  | .add, x, y => (match lstOf S x, lstOf S y with
    | some xs, some ys => if xs.length + ys.length ≤ sizeLine then some (.lst (xs ++ ys)) else none
    | _, _ => none)
  | _, _, _ => none
/-- data that == compares -/
def shD (d : PyData) : Bool := SeqAt.shaped d
def eqP (a b : PV) : Option Bool := match toD a, toD b with
  | some d, some e => if shD d = true ∧ shD e = true then some (PyData.eqv d e) else none
  | _, _ => none
def inP (x : PV) (ys : List PV) : Option Bool := match toD x, toDs ys with
  | some d, some es => if shD d = true ∧ shD (.list es) = true then some (es.any fun z => PyData.eqv z d) else none
  | _, _ => none
def flV : PV → Option L2.V
  | .non => some .non
  | .bl b => some (.bl b)
  | .int i => some (.int i)
  | .str x => some (.str x)
  | _ => none
def flVs : List PV → Option (List L2.V)
  | [] => some []
  | x :: r => (flV x).bind fun v => (flVs r).map (v :: ·)
def inT (x : PV) (ys : List PV) : Option Bool := (flV x).bind fun v => (flVs ys).map fun vs => L2.inV v vs
/-- one sign -/
def sign1 (c : Str) : Option Nat := match c.cps.toList with
  | [n] => some n
  | _ => none
/-- a list of the store as data -/
def look (S : Sto) (a : PV) : PV := match a with
  | .ref n => (match S[n]? with
    | some (.lst xs) => .lst xs
    | none => .non)
  | x => x
def isNon : PV → Bool
  | .non => true
  | _ => false
def cmpOp (S : Sto) (o : COp) (a b : PV) : Option Bool := match o, a, b with
  | .lt, .int i, .int j => some (decide (i < j))
  | .le, .int i, .int j => some (decide (i ≤ j))
  | .gt, .int i, .int j => some (decide (j < i))
  | .ge, .int i, .int j => some (decide (j ≤ i))
  | .lt, .str i, .str j => some (decide (i.cps.toList < j.cps.toList))
  | .le, .str i, .str j => some (!decide (j.cps.toList < i.cps.toList))
  | .is, x, .non => some (isNon x)
  | .isn, x, .non => some (!isNon x)
  | .is, .bl x, .bl y => some (decide (x = y))
  | .isn, .bl x, .bl y => some (!decide (x = y))
  | .eq, .str x, .str y => some (decide (x = y))
  | .ne, .str x, .str y => some (!decide (x = y))
  | .eq, x, y => eqP (look S x) (look S y)
  | .ne, x, y => (eqP (look S x) (look S y)).map (!·)
  | .isin, .str c, .str z => (sign1 c).map fun n => decide (n ∈ z.cps.toList)
  | .nin, .str c, .str z => (sign1 c).map fun n => !decide (n ∈ z.cps.toList)
  | .isin, x, .tup ys => inT x ys
  | .nin, x, .tup ys => (inT x ys).map (!·)
  | .isin, x, y => (lstOf S y).bind fun ys => inP x ys
  | .nin, x, y => ((lstOf S y).bind fun ys => inP x ys).map (!·)
  | _, _, _ => none
/-- xs[i] -/
def idxP (S : Sto) (a i : PV) : Option PV := match a, i with
  | .str z, .int k => if z.length ≤ sizeLine then (L2.atI z.cps.toList k).map fun c => .str ⟨#[c]⟩ else none
  | x, .int k => (seqOf S x).bind fun xs => L2.atI xs k
  | _, _ => none
/-- xs[lo:hi] -/
def cutP (xs : List PV) (lo hi : Option Int) : List PV := (xs.drop (HT.sIx xs.length 0 lo)).take (HT.sIx xs.length xs.length hi - HT.sIx xs.length 0 lo)
def sliP (S : Sto) (a : PV) (lo hi : Option Int) : Option PV := match a with
  | .tup xs => some (.tup (cutP xs lo hi))
  | x => (lstOf S x).map fun xs => .lst (cutP xs lo hi)
def truP (S : Sto) (a : PV) : Option Bool := match a with
  | .non => some false
  | .bl b => some b
  | .int i => some (i != 0)
  | .str y => if y.length ≤ sizeLine then some ((y.length : Int) != 0) else none
  | x => (seqOf S x).map fun xs => !xs.isEmpty
/-- a value's type, by its name -/
def tyP (S : Sto) (a : PV) : Option String := match a with
  | .non => some "NoneType"
  | .bl _ => some "bool"
  | .int _ => some "int"
  | .str _ => some "str"
  | .tup _ => some "tuple"
  | .lst _ => some "list"
  | .ref n => (match S[n]? with
    | some (.lst _) => some "list"
    | none => none)
  | .scr _ => none
def isSub (t c : String) : Bool := decide (t = c) || (decide (t = "bool") && decide (c = "int"))
inductive BI where
  | len | abs | int | tuple | list | ord | repr | any | all | sum
  deriving DecidableEq
def blsOf : List PV → Option (List Bool)
  | [] => some []
  | .bl b :: r => (blsOf r).map (b :: ·)
  | _ :: _ => none
def intsOf : List PV → Option (List Int)
  | [] => some []
  | .int b :: r => (intsOf r).map (b :: ·)
  | _ :: _ => none
def strsOf : List PV → Option (List Str)
  | [] => some []
  | .str b :: r => (strsOf r).map (b :: ·)
  | _ :: _ => none
/-- the text that repr gives -/
def reprP (a : PV) : Option Str := match toD a with
  | some d => if d.showable = true ∧ d.hasDict = false ∧ d.depth ≤ 64 ∧ d.shown.length ≤ sizeLine then some d.shown else none
  | none => none
def bltOp (S : Sto) (f : BI) (xs : List PV) : Option PV := match f, xs with
  | .len, [.str y] => if y.length ≤ sizeLine then some (.int y.length) else none
  | .len, [x] => (seqOf S x).map fun xs => .int xs.length
  | .abs, [.int i] => some (.int (if i < 0 then -i else i))
  | .int, [.int i] => some (.int i)
  | .int, [.bl k] => some (.int (if k then 1 else 0))
  | .tuple, [x] => (seqOf S x).map .tup
  | .list, [.scr ns] => some (.lst (ns.map .int))
  | .list, [x] => (seqOf S x).map .lst
  | .ord, [.str x] => if x.length = 1 then some (.int (x.cps.getD 0 0 : Nat)) else none
  | .repr, [x] => (reprP x).map .str
  | .any, [x] => ((lstOf S x).bind blsOf).map fun bs => .bl (bs.any id)
  | .all, [x] => ((lstOf S x).bind blsOf).map fun bs => .bl (bs.all id)
  | .sum, [x] => ((lstOf S x).bind intsOf).map fun ns => .int ns.sum
  | _, _ => none

/-! ### the language -/
inductive TG where
  | nm (i : Nat)
  | two (a b : Nat)
mutual
inductive E where
  | var (i : Nat)
  | cst (v : PV)
  | bin (o : BOp) (a b : E)
  | neg (a : E)
  | cmp (o : COp) (a b : E)
  | chn (o1 o2 : COp) (a b c : E)
  | and (a b : E)
  | or (a b : E)
  | not (t : E)
  | ite (t : T) (a b : E)
  | tup (es : Es)
  | lst (es : Es)
  | newl (es : Es)
  | idx (a b : E)
  | sli (a : E) (lo hi : Eo)
  | rev (a : E)
  | call (f : Nat) (es : Es)
  | blt (f : BI) (es : Es)
  | isi (a : E) (ts : List String)
  | join (a b : E)
  | lc (tg : TG) (it : IT) (c : To) (elt : E) (own : List Nat)
inductive Es where
  | nil
  | cons (e : E) (r : Es)
inductive Eo where
  | no
  | so (e : E)
inductive T where
  | val (e : E)
  | and (a b : T)
  | or (a b : T)
  | not (a : T)
inductive To where
  | no
  | so (t : T)
inductive IT where
  | seq (e : E)
  | rng (e : E)
end
inductive SV where
  | val (v : PV)
  | own (xs : List PV)
abbrev Env := List (Option SV)
/-- what a loop leans on -/
inductive Gd where
  | no
  | sto (n : Nat) (xs : List PV)
def Gd.ok (g : Gd) (S : Sto) : Prop := match g with
  | .no => True
  | .sto n xs => S[n]? = some (.lst xs)
def wipe (ρ : Env) : List Nat → Env
  | [] => ρ
  | v :: vs => (wipe ρ vs).set v none
def assG (g : TG) (v : PV) (ρ : Env) : Option Env := match g, v with
  | .nm i, v => some (ρ.set i (some (.val v)))
  | .two a b, .tup [x, y] => some ((ρ.set a (some (.val x))).set b (some (.val y)))
  | .two _ _, _ => none
open Classical in
/-- a comprehension's turns -/
noncomputable def lcGo (g : TG) (t : Env → M Bool) (e : Env → M PV) (gd : Gd) (ρ : Env) : List PV → List PV → M (List PV)
  | [], acc => fun S => if gd.ok S then .ok acc S else .stuck
  | x :: r, acc => do
    let S ← getS
    if gd.ok S then
      let ρ1 ← ofO (assG g x ρ)
      let b ← noX (t ρ1)
      if b = true then
        let y ← noX (e ρ1)
        lcGo g t e gd ρ r (acc ++ [y])
      else lcGo g t e gd ρ r acc
    else stuck
def joinP (sep : Str) (ys : List Str) : Option Str :=
  if (ys.map fun y => y.length).sum + ys.length * sep.length ≤ 16777216 then some (Txt.join sep ys) else none
/-! ### the evaluator -/
section
variable (cal : Nat → List PV → M PV)
def chars (x : Str) : List PV := x.cps.toList.map fun c => .str ⟨#[c]⟩
/-- what a loop walks, and what it leans on -/
def itemsOf (S : Sto) : PV → Option (List PV × Gd)
  | .tup xs => some (xs, .no)
  | .lst xs => some (xs, .no)
  | .str x => some (chars x, .no)
  | .ref n => (match S[n]? with
    | some (.lst xs) => some (xs, .sto n xs)
    | none => none)
  | _ => none
/-- a number that range takes -/
structure rngOk (n : Int) : Prop where
  le : -(2 ^ 62) ≤ n
  lt : n < 2 ^ 62
noncomputable instance (n : Int) : Decidable (rngOk n) := Classical.propDecidable _
def rangeL (n : Int) : List PV := (List.range n.toNat).map fun (i : Nat) => .int (i : Int)
def getV (q : Bool) (i : Nat) (ρ : Env) : M PV := match ρ[i]? with
  | some (some (.val v)) => pure v
  | some (some (.own xs)) => if q = true then pure (.lst xs) else stuck
  | _ => stuck
def asBl (v : PV) : M Bool := match v with
  | .bl b => pure b
  | _ => stuck
def asInt (v : PV) : M Int := match v with
  | .int b => pure b
  | _ => stuck
def asStr (v : PV) : M Str := match v with
  | .str b => pure b
  | _ => stuck
mutual
/-- an expression; q: the value is only looked at -/
noncomputable def evE (q : Bool) : E → Env → M PV
  | .var i, ρ => getV q i ρ
  | .cst v, _ => pure v
  | .bin o a b, ρ => do
    let x ← evE true a ρ
    let y ← evE true b ρ
    let S ← getS
    ofO (binOp S o x y)
  | .neg a, ρ => do
    let x ← evE false a ρ
    let i ← asInt x
    pure (.int (-i))
  | .cmp o a b, ρ => do
    let x ← evE true a ρ
    let y ← evE true b ρ
    let S ← getS
    let c ← ofO (cmpOp S o x y)
    pure (.bl c)
  | .chn o1 o2 a b c, ρ => do
    let x ← evE true a ρ
    let y ← evE true b ρ
    let S ← getS
    let k ← ofO (cmpOp S o1 x y)
    if k = true then
      let z ← evE true c ρ
      let S ← getS
      let k2 ← ofO (cmpOp S o2 y z)
      pure (.bl k2)
    else pure (.bl false)
  | .and a b, ρ => do
    let x ← evE false a ρ
    let k ← asBl x
    if k = true then evE false b ρ else pure (.bl false)
  | .or a b, ρ => do
    let x ← evE false a ρ
    let k ← asBl x
    if k = true then pure (.bl true) else evE false b ρ
  | .not a, ρ => do
    let x ← evE false a ρ
    let k ← asBl x
    pure (.bl (!k))
  | .ite t a b, ρ => do
    let k ← evT t ρ
    if k = true then evE q a ρ else evE q b ρ
  | .tup es, ρ => do
    let xs ← evEs es ρ
    if xs.length ≤ sizeLine then pure (.tup xs) else stuck
  | .lst es, ρ => do
    let xs ← evEs es ρ
    if xs.length ≤ sizeLine then pure (.lst xs) else stuck
  | .newl es, ρ => do
    let xs ← evEs es ρ
    if xs.length ≤ sizeLine then fun S => .ok (.ref S.length) (S ++ [.lst xs]) else stuck
  | .idx a b, ρ => do
    let x ← evE true a ρ
    let y ← evE false b ρ
    let S ← getS
    ofO (idxP S x y)
  | .sli a lo hi, ρ => do
    let x ← evE true a ρ
    let l ← evEo lo ρ
    let h ← evEo hi ρ
    let S ← getS
    ofO (sliP S x l h)
  | .rev a, ρ => do
    let x ← evE true a ρ
    let S ← getS
    let xs ← ofO (lstOf S x)
    pure (.lst xs.reverse)
  | .call f es, ρ => do
    let xs ← evEs es ρ
    cal f xs
  | .blt f es, ρ => do
    let xs ← evEq es ρ
    let S ← getS
    ofO (bltOp S f xs)
  | .isi a ts, ρ => do
    let x ← evE true a ρ
    let S ← getS
    let t ← ofO (tyP S x)
    pure (.bl (ts.any (isSub t)))
  | .join a b, ρ => do
    let x ← evE false a ρ
    let sep ← asStr x
    let y ← evE true b ρ
    let S ← getS
    let ys ← ofO ((lstOf S y).bind strsOf)
    let z ← ofO (joinP sep ys)
    pure (.str z)
  | .lc tg it c elt own, ρ => do
    let r ← evI true it ρ
    if r.1.length ≤ sizeLine then
      let ys ← lcGo tg (evTo c) (evE false elt) r.2 (wipe ρ own) r.1 []
      pure (.lst ys)
    else stuck
noncomputable def evEs : Es → Env → M (List PV)
  | .nil, _ => pure []
  | .cons e r, ρ => do
    let x ← evE false e ρ
    let xs ← evEs r ρ
    pure (x :: xs)
/-- arguments that are only looked at -/
noncomputable def evEq : Es → Env → M (List PV)
  | .nil, _ => pure []
  | .cons e r, ρ => do
    let x ← evE true e ρ
    let xs ← evEq r ρ
    pure (x :: xs)
noncomputable def evEo : Eo → Env → M (Option Int)
  | .no, _ => pure none
  | .so e, ρ => do
    let x ← evE false e ρ
    let i ← asInt x
    pure (some i)
noncomputable def evT : T → Env → M Bool
  | .val e, ρ => do
    let x ← evE true e ρ
    let S ← getS
    ofO (truP S x)
  | .and a b, ρ => do
    let k ← evT a ρ
    if k = true then evT b ρ else pure false
  | .or a b, ρ => do
    let k ← evT a ρ
    if k = true then pure true else evT b ρ
  | .not a, ρ => do
    let k ← evT a ρ
    pure (!k)
noncomputable def evTo : To → Env → M Bool
  | .no, _ => pure true
  | .so t, ρ => evT t ρ
noncomputable def evI (q : Bool) : IT → Env → M (List PV × Gd)
  | .seq e, ρ => do
    let x ← evE q e ρ
    let S ← getS
    ofO (itemsOf S x)
  | .rng e, ρ => do
    let x ← evE false e ρ
    let n ← asInt x
    if rngOk n then pure (rangeL n, .no) else stuck
end
end
/-! ### statements -/
mutual
inductive S where
  | set (g : TG) (e : E)
  | own (i : Nat) (e : E)
  | par (i j : Nat) (oi oj : Bool) (a b : E)
  | aug (i : Nat) (o : BOp) (e : E)
  | app (i : Nat) (e : E)
  | pop (g : TG) (i : Nat)
  | put (a b e : E)
  | exp (e : E)
  | ret (e : E)
  | cnd (t : T) (a b : Ss)
  | whl (t : T) (b : Ss)
  | for (g : TG) (it : IT) (b : Ss)
  | frz (i : Nat)
  | bad
inductive Ss where
  | nil
  | cons (a : S) (b : Ss)
end
inductive Out where
  | next (ρ : Env)
  | ret (v : PV)
def Out.andThen (o : Out) (f : Env → M Out) : M Out := match o with
  | .next ρ => f ρ
  | .ret v => pure (.ret v)
noncomputable def whileN (t : Env → M Bool) (b : Env → M Out) : Nat → Env → M Out
  | 0, _ => stuck
  | n + 1, ρ => do
    let k ← t ρ
    if k = true then
      let o ← b ρ
      o.andThen (whileN t b n)
    else pure (.next ρ)
open Classical in
noncomputable def whileM (t : Env → M Bool) (b : Env → M Out) (ρ : Env) : M Out := fun S =>
  if h : ∃ n o S', whileN t b n ρ S = .ok o S' then whileN t b (choose h) ρ S else .stuck
open Classical in
noncomputable def forGo (g : TG) (b : Env → M Out) (gd : Gd) : List PV → Env → M Out
  | [], ρ => fun S => if gd.ok S then .ok (.next ρ) S else .stuck
  | x :: r, ρ => do
    let S ← getS
    if gd.ok S then
      let ρ1 ← ofO (assG g x ρ)
      let o ← b ρ1
      o.andThen (forGo g b gd r)
    else stuck
section
variable (cal : Nat → List PV → M PV)
def ownOf (ρ : Env) (i : Nat) : Option (List PV) := match ρ[i]? with
  | some (some (.own xs)) => some xs
  | _ => none
def setL (S : Sto) (a i v : PV) : Option Sto := match a, i with
  | .ref n, .int k => (match S[n]? with
    | some (.lst xs) => (L2.ixN xs.length k).map fun j => S.set n (.lst (xs.set j v))
    | none => none)
  | _, _ => none
def svOf (o : Bool) (v : PV) : Option SV := match o, v with
  | true, .lst xs => some (.own xs)
  | true, _ => none
  | false, v => some (.val v)
mutual
noncomputable def exS : S → Env → M Out
  | .set g e, ρ => do
    let x ← evE cal false e ρ
    let ρ1 ← ofO (assG g x ρ)
    pure (.next ρ1)
  | .own i e, ρ => do
    let x ← evE cal false e ρ
    let v ← ofO (svOf true x)
    pure (.next (ρ.set i (some v)))
  | .par i j oi oj a b, ρ => do
    let x ← evE cal false a ρ
    let x ← ofO (svOf oi x)
    let y ← evE cal false b ρ
    let y ← ofO (svOf oj y)
    pure (.next ((ρ.set i (some x)).set j (some y)))
  | .aug i o e, ρ => match ρ[i]? with
    | some (some (.val (.int x))) => do
      let y ← evE cal true e ρ
      let y ← asInt y
      let S ← getS
      let z ← ofO (binOp S o (.int x) (.int y))
      pure (.next (ρ.set i (some (.val z))))
    | some (some (.own xs)) => do
      let y ← evE cal true e ρ
      let S ← getS
      let ys ← ofO (lstOf S y)
      if o = .add ∧ xs.length + ys.length ≤ sizeLine then pure (.next (ρ.set i (some (.own (xs ++ ys))))) else stuck
    | _ => stuck
  | .app i e, ρ => do
    let xs ← ofO (ownOf ρ i)
    let y ← evE cal false e ρ
    if xs.length < sizeLine then pure (.next (ρ.set i (some (.own (xs ++ [y]))))) else stuck
  | .pop g i, ρ => do
    let xs ← ofO (ownOf ρ i)
    let y ← ofO xs.getLast?
    let ρ1 ← ofO (assG g y (ρ.set i (some (.own xs.dropLast))))
    pure (.next ρ1)
  | .put a b e, ρ => do
    let v ← evE cal false e ρ
    let x ← evE cal false a ρ
    let i ← evE cal false b ρ
    let S ← getS
    let S' ← ofO (setL S x i v)
    fun _ => .ok (.next ρ) S'
  | .exp e, ρ => do
    let _ ← evE cal false e ρ
    pure (.next ρ)
  | .ret e, ρ => do
    let x ← evE cal false e ρ
    pure (.ret x)
  | .cnd t a b, ρ => do
    let k ← evT cal t ρ
    if k = true then exSs a ρ else exSs b ρ
  | .whl t b, ρ => whileM (evT cal t) (exSs b) ρ
  | .for g it b, ρ => do
    let r ← evI cal false it ρ
    forGo g (exSs b) r.2 r.1 ρ
  | .frz i, ρ => (match ρ[i]? with
    | some (some (.own xs)) => pure (.next (ρ.set i (some (.val (.lst xs)))))
    | _ => pure (.next ρ))
  | .bad, _ => stuck
noncomputable def exSs : Ss → Env → M Out
  | .nil, ρ => pure (.next ρ)
  | .cons a b, ρ => do
    let o ← exS a ρ
    o.andThen (exSs b)
end
end
structure Fn where
  np : Nat
  ns : Nat
  body : Ss
def envOf (f : Fn) (xs : List PV) : Env := xs.map (fun v => some (.val v)) ++ List.replicate (f.ns - xs.length) none
/-- the defs, down to a depth of calls -/
noncomputable def sem (fns : List Fn) : Nat → Nat → List PV → M PV
  | 0, _, _ => stuck
  | k + 1, i, xs => match fns[i]? with
    | some f => if xs.length = f.np then do
        let o ← exSs (sem fns k) f.body (envOf f xs)
        match o with
        | .ret v => pure v
        | .next _ => pure .non
      else stuck
    | none => stuck
end EV

/-! EvB: from the text to the small language. -/
namespace EV
open PySem
structure Cfg where
  fns : List Str
  con : List (Str × PV)
/-- where one compiles: slots, scope, the comprehension's own scope, slots that are changed in place, list displays that are objects of the store -/
structure CC where
  N : List Str
  sc : Scope
  inb : Option Scope
  mu : List Nat
  sto : List (Nat × Nat)
def isVis (sc : Scope) (x : Str) : Bool := match sc.names.lookup x with
  | some .local => true
  | some .cell => true
  | some .free => true
  | _ => false
def isGl (sc : Scope) (x : Str) : Bool := sc.names.lookup x == some .globalImplicit
def isLoc (sc : Scope) (x : Str) : Bool := match sc.names.lookup x with
  | some .local => true
  | some .cell => true
  | _ => false
def slotIn : List Str → Str → Option Nat
  | [], _ => none
  | y :: r, x => if x = y then some 0 else (slotIn r x).map (· + 1)
def okNm (x : Str) : Bool := !(x == ("__debug__" : Str)) && !(x == ("__classdict__" : Str)) && !(x == ("__name__" : Str))
def CC.slot (c : CC) (x : Str) : Option Nat := if isVis c.sc x && okNm x then slotIn c.N x else none
def CC.asgB (c : CC) (x : Str) : Bool := match c.inb with
  | none => isLoc c.sc x
  | some s => (s.names.lookup x == some .local && c.sc.names.lookup x == some .local) || (s.names.lookup x == some .cell && c.sc.names.lookup x == some .cell)
def CC.asg (c : CC) (x : Str) : Option Nat := if (okNm x && c.asgB x) = true then slotIn c.N x else none
def bopOf : Operator → Option BOp
  | .Add => some .add
  | .Sub => some .sub
  | .Mult => some .mul
  | .FloorDiv => some .fdiv
  | .Mod => some .mod
  | .Pow => some .pow
  | _ => none
def copOf : CmpOp → Option COp
  | .Eq => some .eq
  | .NotEq => some .ne
  | .Lt => some .lt
  | .LtE => some .le
  | .Gt => some .gt
  | .GtE => some .ge
  | .Is => some .is
  | .IsNot => some .isn
  | .In => some .isin
  | .NotIn => some .nin
def biOf (x : Str) : Option BI :=
  if x = "len" then some .len else if x = "abs" then some .abs else if x = "int" then some .int else if x = "tuple" then some .tuple else if x = "list" then some .list
  else if x = "ord" then some .ord else if x = "repr" then some .repr else if x = "any" then some .any else if x = "all" then some .all else if x = "sum" then some .sum else none
def tyOf (x : Str) : Option String :=
  if x = "int" then some "int" else if x = "bool" then some "bool" else if x = "str" then some "str" else if x = "tuple" then some "tuple" else if x = "list" then some "list" else none
/-- a built-in's name: not a def's, not a constant's -/
def Cfg.free (g : Cfg) (x : Str) : Bool := !(g.fns.contains x) && !((g.con.map (·.1)).contains x)
def baseOk : Expr → Bool
  | .Call (.Name id _) [] [] _ => !(id == ("super" : Str))
  | _ => true
def dstOf (c : CC) : Expr → Option TG
  | .Name x _ => (c.asg x).map .nm
  | .Tuple [.Name x _, .Name y _] _ _ => (c.asg x).bind fun i => (c.asg y).bind fun j => if i ≠ j then some (.two i j) else none
  | _ => none
def tgIn (l : List Nat) : TG → Bool
  | .nm i => l.contains i
  | .two i j => l.contains i && l.contains j
def ownOfB (N : List Str) (s : Scope) : List (Str × Nat) := s.names.filterMap fun p => if p.2 = .local ∨ p.2 = .cell then (slotIn N p.1).map fun i => (p.1, i) else none
/-- [::-1] -/
def revB : Expr → Bool
  | .Slice none none (some (.UnaryOp .USub (.Constant (.int k) _ _) _)) _ => decide (k = 1)
  | _ => false
mutual
def cE (g : Cfg) : Nat → CC → Expr → Option E
  | 0, _, _ => none
  | n + 1, c, e => match e with
    | .Constant (.int i) _ _ => some (.cst (.int i))
    | .Constant (.bool b) _ _ => some (.cst (.bl b))
    | .Constant .none _ _ => some (.cst .non)
    | .Constant (.str x) _ _ => some (.cst (.str x))
    | .Name x _ => if isGl c.sc x = true then (if okNm x = true then (g.con.lookup x).map .cst else none) else (c.slot x).map .var
    | .BinOp a o b _ => (bopOf o).bind fun o => (cE g n c a).bind fun a => (cE g n c b).map fun b => .bin o a b
    | .UnaryOp .USub a _ => (cE g n c a).map .neg
    | .UnaryOp .Not a _ => (cE g n c a).map .not
    | .BoolOp .And es _ => if 2 ≤ es.length then cAnd g n c es else none
    | .BoolOp .Or es _ => if 2 ≤ es.length then cOr g n c es else none
    | .IfExp t a b _ => (cT g n c t).bind fun t => (cE g n c a).bind fun a => (cE g n c b).map fun b => .ite t a b
    | .Compare a os bs _ => (match os, bs with
      | [o], [b] => if behindInMarks o b = true then none else (copOf o).bind fun o => (cE g n c a).bind fun a => (cE g n c b).map fun b => .cmp o a b
      | [o1, o2], [b, d] => if lastMarks [o1, o2] [b, d] = true then none else (copOf o1).bind fun o1 => (copOf o2).bind fun o2 => (cE g n c a).bind fun a => (cE g n c b).bind fun b => (cE g n c d).map fun d => .chn o1 o2 a b d
      | _, _ => none)
    | .Tuple es _ _ => (cEs g n c es).map .tup
    | .List es p => (cEs g n c es).map fun es => if c.sto.contains (p.line, p.col) = true then .newl es else .lst es
    | .Subscript a b _ => if revB b = true then (cE g n c a).map .rev else (match b with
      | .Slice lo hi none _ => (cE g n c a).bind fun a => (cEo g n c lo).bind fun lo => (cEo g n c hi).map fun hi => .sli a lo hi
      | b => (cE g n c a).bind fun a => (cE g n c b).map fun b => .idx a b)
    | .Call f es [] p => (match f with
      | .Name f _ => if (isGl c.sc f && okNm f) = true then
          (match slotIn g.fns f with
          | some i => (cEs g n c es).map fun es => .call i es
          | none => if g.free f = true then
              (match es with
              | [a, b] => if f = "isinstance" then (cTy g c b).bind fun ts => (cE g n c a).map fun a => .isi a ts else none
              | [a] => (biOf f).bind fun f => (cE g n c a).map fun a => .blt f (.cons a .nil)
              | _ => none) else none) else none
      | .Attribute o m ap => (match es with
        | [a] => if (decide (m = "join") && baseOk o && (ap.endLine == p.line)) = true then (cE g n c o).bind fun o => (cE g n c a).map fun a => .join o a else none
        | _ => none)
      | _ => none)
    | .ListComp elt gs s _ => (match gs with
      | [⟨tg, it, ifs, k⟩] => if k = 0 ∧ L2.blkC c.N c.sc s (ownOfB c.N s) = true then
          (cI g n c it).bind fun it => (dstOf { c with sc := L2.relS s c.sc, inb := some s } tg).bind fun tg => (cTo g n { c with sc := L2.relS s c.sc, inb := some s } ifs).bind fun t => (cE g n { c with sc := L2.relS s c.sc, inb := some s } elt).bind fun elt =>
            if tgIn ((ownOfB c.N s).map fun p => p.2) tg = true then some (.lc tg it t elt ((ownOfB c.N s).map fun p => p.2)) else none
        else none
      | _ => none)
    | _ => none
def cTy (g : Cfg) (c : CC) : Expr → Option (List String)
  | .Name x _ => if (isGl c.sc x && okNm x && g.free x) = true then (tyOf x).map fun t => [t] else none
  | _ => none
def cEs (g : Cfg) : Nat → CC → List Expr → Option Es
  | 0, _, _ => none
  | _ + 1, _, [] => some .nil
  | n + 1, c, e :: r => (cE g n c e).bind fun e => (cEs g n c r).map fun r => .cons e r
def cEo (g : Cfg) : Nat → CC → Option Expr → Option Eo
  | 0, _, _ => none
  | _ + 1, _, none => some .no
  | n + 1, c, some e => (cE g n c e).map .so
def cAnd (g : Cfg) : Nat → CC → List Expr → Option E
  | 0, _, _ => none
  | n + 1, c, [e] => cE g n c e
  | n + 1, c, a :: b :: r => (cE g n c a).bind fun a => (cAnd g n c (b :: r)).map fun b => .and a b
  | _ + 1, _, [] => none
def cOr (g : Cfg) : Nat → CC → List Expr → Option E
  | 0, _, _ => none
  | n + 1, c, [e] => cE g n c e
  | n + 1, c, a :: b :: r => (cE g n c a).bind fun a => (cOr g n c (b :: r)).map fun b => .or a b
  | _ + 1, _, [] => none
def cT (g : Cfg) : Nat → CC → Expr → Option T
  | 0, _, _ => none
  | n + 1, c, e => match e with
    | .BoolOp .And es _ => cAndT g n c es
    | .BoolOp .Or es _ => cOrT g n c es
    | .UnaryOp .Not a _ => (cT g n c a).map .not
    | .IfExp .. => none
    | .Constant .. => none
    | e => (cE g n c e).map .val
def cAndT (g : Cfg) : Nat → CC → List Expr → Option T
  | 0, _, _ => none
  | n + 1, c, [e] => cT g n c e
  | n + 1, c, a :: b :: r => (cT g n c a).bind fun a => (cAndT g n c (b :: r)).map fun b => .and a b
  | _ + 1, _, [] => none
def cOrT (g : Cfg) : Nat → CC → List Expr → Option T
  | 0, _, _ => none
  | n + 1, c, [e] => cT g n c e
  | n + 1, c, a :: b :: r => (cT g n c a).bind fun a => (cOrT g n c (b :: r)).map fun b => .or a b
  | _ + 1, _, [] => none
def cTo (g : Cfg) : Nat → CC → List Expr → Option To
  | 0, _, _ => none
  | _ + 1, _, [] => some .no
  | n + 1, c, [e] => (cT g n c e).map .so
  | _ + 1, _, _ => none
def cI (g : Cfg) : Nat → CC → Expr → Option IT
  | 0, _, _ => none
  | n + 1, c, e => match e with
    | .Call f es [] p => (match f, es with
      | .Name f _, [a] => if f = "range" ∧ (isGl c.sc f && g.free f) = true then (cE g n c a).map .rng else (cE g n c e).map .seq
      | _, _ => (cE g n c e).map .seq)
    | .Set .. => none
    | e => (cE g n c e).map .seq
end
/-! ### what is handed on -/
mutual
def esE (q : Bool) : E → List Nat
  | .var i => if q then [] else [i]
  | .cst _ => []
  | .bin _ a b => esE true a ++ esE true b
  | .neg a => esE false a
  | .cmp _ a b => esE true a ++ esE true b
  | .chn _ _ a b c => esE true a ++ esE true b ++ esE true c
  | .and a b => esE false a ++ esE false b
  | .or a b => esE false a ++ esE false b
  | .not a => esE false a
  | .ite t a b => esT t ++ esE q a ++ esE q b
  | .tup es => esEs es
  | .lst es => esEs es
  | .newl es => esEs es
  | .idx a b => esE true a ++ esE false b
  | .sli a lo hi => esE true a ++ esEo lo ++ esEo hi
  | .rev a => esE true a
  | .call _ es => esEs es
  | .blt _ es => esEq es
  | .isi a _ => esE true a
  | .join a b => esE false a ++ esE true b
  | .lc _ it c elt _ => esI true it ++ esTo c ++ esE false elt
def esEs : Es → List Nat
  | .nil => []
  | .cons e r => esE false e ++ esEs r
def esEq : Es → List Nat
  | .nil => []
  | .cons e r => esE true e ++ esEq r
def esEo : Eo → List Nat
  | .no => []
  | .so e => esE false e
def esT : T → List Nat
  | .val e => esE true e
  | .and a b => esT a ++ esT b
  | .or a b => esT a ++ esT b
  | .not a => esT a
def esTo : To → List Nat
  | .no => []
  | .so t => esT t
def esI (q : Bool) : IT → List Nat
  | .seq e => esE q e
  | .rng e => esE false e
end
def isFresh : E → Bool
  | .lst _ => true
  | .lc .. => true
  | .blt .list _ => true
  | _ => false
/-- first freeze, then do -/
def frzAll (is : List Nat) (b : Ss) : Ss := is.foldr (fun i b => .cons (.frz i) b) b
def withF (c : CC) (is : List Nat) (s : S) (b : Ss) : Ss := frzAll ((is.eraseDups).filter fun i => c.mu.contains i) (.cons s b)
def sole (c : CC) (is : List Nat) : Bool := is.all fun i => !(c.mu.contains i)
/-- a, b = x, y is done by exchanged stores -/
def parOk (c : CC) (x y : Str) (px py : Pos) (a b : Expr) : Bool := c.inb.isNone && (c.sc.names.lookup x == some .local) && (c.sc.names.lookup y == some .local) && (py.line == px.line) && !(x == y) &&
  !([a, b].all (foldedForSure 8)) && !([a, b].all (constantsAlone 8)) && !([a, b].any fun | .Starred .. => true | _ => false)
def isTupE : Expr → Bool
  | .Tuple .. => true
  | _ => false
def isLcE : Expr → Bool
  | .ListComp .. => true
  | _ => false
mutual
def cS (g : Cfg) : Nat → CC → Stmt → Ss → Option Ss
  | 0, _, _, _ => none
  | n + 1, c, st, k => match st with
    | .Assign [.Name x _] (.Call (.Attribute (.Name y py) m ap) [] [] p) _ => if m = "pop" then
        (if ap.endLine == p.line then (c.asg x).bind fun i => (c.slot y).bind fun j => if c.mu.contains j && i ≠ j then some (.cons (.pop (.nm i) j) k) else none else none) else none
    | .Assign [.Tuple [.Name x px, .Name z pz] kk pp] (.Call (.Attribute (.Name y py) m ap) [] [] p) _ => if m = "pop" then
        (if ap.endLine == p.line then (c.asg x).bind fun i => (c.asg z).bind fun i2 => (c.slot y).bind fun j => if c.mu.contains j && i ≠ j && i2 ≠ j && i ≠ i2 then some (.cons (.pop (.two i i2) j) k) else none else none) else none
    | .Assign [.Name x _] e _ => (c.asg x).bind fun i => (cE g n c e).map fun e => withF c (esE false e) (if c.mu.contains i && isFresh e then .own i e else .set (.nm i) e) k
    | .Assign [.Tuple [.Name x px, .Name y py] _ _] (.Tuple [a, b] _ _) _ => if parOk c x y px py a b then
        (c.asg x).bind fun i => (c.asg y).bind fun j => (cE g n c a).bind fun a => (cE g n c b).map fun b =>
          withF c (esE false a ++ esE false b) (.par i j (c.mu.contains i && isFresh a) (c.mu.contains j && isFresh b) a b) k
      else none
    | .Assign [.Tuple [.Name x px, .Name y py] _ _] e _ => (c.asg x).bind fun i => (c.asg y).bind fun j => if i = j ∨ isTupE e = true then none else (cE g n c e).map fun e => withF c (esE false e) (.set (.two i j) e) k
    | .Assign [.Subscript a b _] e _ => (cE g n c a).bind fun a => (cE g n c b).bind fun b => (cE g n c e).map fun e => withF c (esE false e ++ esE false a ++ esE false b) (.put a b e) k
    | .AugAssign (.Name x _) o e _ => if o = .Pow then none else (c.asg x).bind fun i => (bopOf o).bind fun o => (cE g n c e).map fun e => withF c (esE true e) (.aug i o e) k
    | .Expr (.Call (.Attribute (.Name y _) m ap) [e] [] p) _ => if m = "append" && (ap.endLine == p.line) then
        (c.slot y).bind fun j => (cE g n c e).bind fun e => if c.mu.contains j then some (withF c (esE false e) (.app j e) k) else none else none
    | .Expr e _ => if isLcE e = true then none else (cE g n c e).map fun e => withF c (esE false e) (.exp e) k
    | .Return (some e) _ => (cE g n c e).map fun e => withF c (esE false e) (.ret e) .nil
    | .If t a b _ => (cT g n c t).bind fun t => (cSs g n c a).bind fun a => (cSs g n c b).map fun b => withF c (esT t) (.cnd t a b) k
    | .While t b [] _ => (cT g n c t).bind fun t => (cSs g n c b).bind fun b => if sole c (esT t) then some (.cons (.whl t b) k) else none
    | .For tg it b [] _ => (dstOf c tg).bind fun tg => (cI g n c it).bind fun it => (cSs g n c b).map fun b => withF c (esI false it) (.for tg it b) k
    | .Pass _ => some k
    | .Raise .. => some (.cons .bad k)
    | _ => none
def cSs (g : Cfg) : Nat → CC → List Stmt → Option Ss
  | 0, _, _ => none
  | _ + 1, _, [] => some .nil
  | n + 1, c, s :: r => (cSs g n c r).bind fun k => cS g n c s k
end
/-! ### a def -/
mutual
def mutS (N : List Str) : Nat → Stmt → List Nat
  | 0, _ => []
  | n + 1, st => match st with
    | .AugAssign (.Name x _) _ _ _ => (slotIn N x).toList
    | .Expr (.Call (.Attribute (.Name x _) m _) _ _ _) _ => if m = "append" then (slotIn N x).toList else []
    | .Assign _ (.Call (.Attribute (.Name x _) m _) [] _ _) _ => if m = "pop" then (slotIn N x).toList else []
    | .If _ a b _ => mutSs N n a ++ mutSs N n b
    | .While _ a b _ => mutSs N n a ++ mutSs N n b
    | .For _ _ a b _ => mutSs N n a ++ mutSs N n b
    | _ => []
def mutSs (N : List Str) : Nat → List Stmt → List Nat
  | 0, _ => []
  | _ + 1, [] => []
  | n + 1, s :: r => mutS N n s ++ mutSs N n r
end
structure FnI where
  N : List Str
  ps : List Str
  st : Stmt
  sto : List (Nat × Nat) := []
def fuel : Nat := 80
def FnI.cc (f : FnI) : CC := ⟨f.N, L2.defScope f.st, none, (mutSs f.N fuel (L2.defBody f.st)).eraseDups, f.sto⟩
def cFn (g : Cfg) (f : FnI) : Option Fn := (cSs g fuel f.cc (L2.defBody f.st)).map fun b => ⟨f.ps.length, f.N.length, b⟩
/-- the shape of a def's scope -/
def scB (f : FnI) : Bool := let sc := L2.defScope f.st
  (sc.kind == .function) && !sc.isCoroutine && !sc.isGenerator && decide f.N.Nodup && decide (f.N.take f.ps.length = f.ps) && (f.ps.all fun x => isLoc sc x) && (sc.names.all fun y => !(y.2 == .free))
end EV

/-! EvC: what stands in the heap for a value, an object of the store, a frame; how the heap may change. -/
namespace EV
open PySem L2
mutual
inductive Rp (K : PySem.W.Frag) (F : Hp) (α : List Addr) : PV → V → Prop
  | non : Rp K F α .non .non
  | bl (b : Bool) : Rp K F α (.bl b) (.bl b)
  | int (i : Int) : Rp K F α (.int i) (.int i)
  | str (x : Str) : Rp K F α (.str x) (.str x)
  | tup {xs : List PV} {vs : List V} {a : Addr} (h : SqT K F a vs) (r : RpL K F α xs vs) : Rp K F α (.tup xs) (.ref a)
  | lst {xs : List PV} {vs : List V} {a : Addr} (h : F a = some (.lst vs)) (r : RpL K F α xs vs) : Rp K F α (.lst xs) (.ref a)
  | ref {n : Nat} {a : Addr} (h : α[n]? = some a) : Rp K F α (.ref n) (.ref a)
  | scr {ns : List Int} {a : Addr} (h : SqL K F a (ns.map V.int)) : Rp K F α (.scr ns) (.ref a)
inductive RpL (K : PySem.W.Frag) (F : Hp) (α : List Addr) : List PV → List V → Prop
  | nil : RpL K F α [] []
  | cons {x : PV} {v : V} {xs : List PV} {vs : List V} (h : Rp K F α x v) (r : RpL K F α xs vs) : RpL K F α (x :: xs) (v :: vs)
end
theorem Same.seqT {K : PySem.W.Frag} {H H' : Hp} {a : Addr} {xs : List V} (e : Same H H') (h : SqT K H a xs) : SqT K H' a xs := by
  rcases h with (h | ⟨o, h⟩) | h
  · exact .inl (.inl (e _ _ h))
  · exact .inl (.inr ⟨o, e _ _ h⟩)
  · exact .inr h
def Pre (α α' : List Addr) : Prop := ∃ m, α' = α ++ m
theorem Pre.get {α α' : List Addr} (p : Pre α α') {n : Nat} {a : Addr} (h : α[n]? = some a) : α'[n]? = some a := by
  obtain ⟨m, rfl⟩ := p
  rw [List.getElem?_append_left (List.getElem?_eq_some_iff.mp h).1]
  exact h
theorem Pre.refl (α : List Addr) : Pre α α := ⟨[], by simp⟩
theorem Pre.trans {a b c : List Addr} (h : Pre a b) (g : Pre b c) : Pre a c := by
  obtain ⟨m, rfl⟩ := h
  obtain ⟨n, rfl⟩ := g
  exact ⟨m ++ n, by simp⟩
section
variable {K : PySem.W.Frag} {F F' : Hp} {α α' : List Addr}
mutual
theorem Rp.mono (s : Same F F') (p : Pre α α') : ∀ {x : PV} {v : V}, Rp K F α x v → Rp K F' α' x v
  | _, _, .non => .non
  | _, _, .bl b => .bl b
  | _, _, .int i => .int i
  | _, _, .str x => .str x
  | _, _, .tup h r => .tup (Same.seqT s h) (RpL.mono s p r)
  | _, _, .lst h r => .lst (s _ _ h) (RpL.mono s p r)
  | _, _, .ref h => .ref (p.get h)
  | _, _, .scr h => .scr (s.seq h)
theorem RpL.mono (s : Same F F') (p : Pre α α') : ∀ {x : List PV} {v : List V}, RpL K F α x v → RpL K F' α' x v
  | _, _, .nil => .nil
  | _, _, .cons h r => .cons (Rp.mono s p h) (RpL.mono s p r)
end
theorem RpL.length : ∀ {xs : List PV} {vs : List V}, RpL K F α xs vs → xs.length = vs.length
  | _, _, .nil => rfl
  | _, _, .cons _ r => by rw [List.length_cons, List.length_cons, RpL.length r]
theorem RpL.get : ∀ {xs : List PV} {vs : List V} {i : Nat} {x : PV}, RpL K F α xs vs → xs[i]? = some x → ∃ v, vs[i]? = some v ∧ Rp K F α x v
  | _, _, _, _, .nil, e => by simp at e
  | _, _, 0, _, .cons h _, e => by simp at e; subst e; exact ⟨_, rfl, h⟩
  | _, _, i + 1, x, .cons _ r, e => by
    obtain ⟨v, h1, h2⟩ := RpL.get (i := i) (x := x) r (by simpa using e)
    exact ⟨v, by simpa using h1, h2⟩
theorem RpL.getV : ∀ {xs : List PV} {vs : List V} {i : Nat} {v : V}, RpL K F α xs vs → vs[i]? = some v → ∃ x, xs[i]? = some x ∧ Rp K F α x v
  | _, _, _, _, .nil, e => by simp at e
  | _, _, 0, _, .cons h _, e => by simp at e; subst e; exact ⟨_, rfl, h⟩
  | _, _, i + 1, x, .cons _ r, e => by
    obtain ⟨v, h1, h2⟩ := RpL.getV (i := i) (v := x) r (by simpa using e)
    exact ⟨v, by simpa using h1, h2⟩
theorem RpL.append : ∀ {xs ys : List PV} {vs ws : List V}, RpL K F α xs vs → RpL K F α ys ws → RpL K F α (xs ++ ys) (vs ++ ws)
  | _, _, _, _, .nil, s => s
  | _, _, _, _, .cons h r, s => .cons h (RpL.append r s)
theorem RpL.one {x : PV} {v : V} (h : Rp K F α x v) : RpL K F α [x] [v] := .cons h .nil
theorem RpL.take : ∀ {xs : List PV} {vs : List V} (n : Nat), RpL K F α xs vs → RpL K F α (xs.take n) (vs.take n)
  | _, _, 0, _ => .nil
  | _, _, _ + 1, .nil => .nil
  | _, _, n + 1, .cons h r => .cons h (RpL.take n r)
theorem RpL.drop : ∀ {xs : List PV} {vs : List V} (n : Nat), RpL K F α xs vs → RpL K F α (xs.drop n) (vs.drop n)
  | _, _, 0, r => r
  | _, _, _ + 1, .nil => .nil
  | _, _, n + 1, .cons _ r => RpL.drop n r
theorem RpL.reverse : ∀ {xs : List PV} {vs : List V}, RpL K F α xs vs → RpL K F α xs.reverse vs.reverse
  | _, _, .nil => .nil
  | _, _, .cons h r => by
    rw [List.reverse_cons, List.reverse_cons]
    exact (RpL.reverse r).append (.one h)
theorem RpL.set {x : PV} {v : V} (h : Rp K F α x v) : ∀ {xs : List PV} {vs : List V} (i : Nat), RpL K F α xs vs → RpL K F α (xs.set i x) (vs.set i v)
  | _, _, _, .nil => .nil
  | _, _, 0, .cons _ r => .cons h r
  | _, _, i + 1, .cons g r => .cons g (RpL.set h i r)
theorem RpL.dropLast {xs : List PV} {vs : List V} (r : RpL K F α xs vs) : RpL K F α xs.dropLast vs.dropLast := by
  rw [List.dropLast_eq_take, List.dropLast_eq_take, r.length]
  exact r.take _
theorem RpL.rep {xs : List PV} {vs : List V} (r : RpL K F α xs vs) : ∀ k : Nat, RpL K F α (List.replicate k xs).flatten (List.replicate k vs).flatten
  | 0 => .nil
  | k + 1 => by
    rw [List.replicate_succ, List.replicate_succ, List.flatten_cons, List.flatten_cons]
    exact r.append (RpL.rep r k)
theorem RpL.ints : ∀ {ns : List Int}, RpL K F α (ns.map PV.int) (ns.map V.int)
  | [] => .nil
  | i :: r => .cons (.int i) (RpL.ints (ns := r))
theorem RpL.bls : ∀ {xs : List PV} {vs : List V} {bs : List Bool}, RpL K F α xs vs → blsOf xs = some bs → vs = bs.map V.bl
  | _, _, _, .nil, e => by cases e; rfl
  | x :: xs, _, bs, .cons h r, e => by
    cases x with
    | bl b =>
      have e' : (blsOf xs).map (b :: ·) = some bs := e
      cases q : blsOf xs with
      | none => rw [q] at e'; cases e'
      | some cs =>
        rw [q] at e'
        cases e'
        cases h
        rw [List.map_cons, RpL.bls r q]
    | _ => cases e
theorem RpL.intsOf : ∀ {xs : List PV} {vs : List V} {bs : List Int}, RpL K F α xs vs → EV.intsOf xs = some bs → vs = bs.map V.int
  | _, _, _, .nil, e => by cases e; rfl
  | x :: xs, _, bs, .cons h r, e => by
    cases x with
    | int b =>
      have e' : (EV.intsOf xs).map (b :: ·) = some bs := e
      cases q : EV.intsOf xs with
      | none => rw [q] at e'; cases e'
      | some cs =>
        rw [q] at e'
        cases e'
        cases h
        rw [List.map_cons, RpL.intsOf r q]
    | _ => cases e
theorem RpL.strsOf : ∀ {xs : List PV} {vs : List V} {bs : List Str}, RpL K F α xs vs → EV.strsOf xs = some bs → vs = bs.map V.str
  | _, _, _, .nil, e => by cases e; rfl
  | x :: xs, _, bs, .cons h r, e => by
    cases x with
    | str b =>
      have e' : (EV.strsOf xs).map (b :: ·) = some bs := e
      cases q : EV.strsOf xs with
      | none => rw [q] at e'; cases e'
      | some cs =>
        rw [q] at e'
        cases e'
        cases h
        rw [List.map_cons, RpL.strsOf r q]
    | _ => cases e
theorem Rp.flV {x : PV} {v w : V} (h : Rp K F α x v) (e : EV.flV x = some w) : v = w ∧ flatV v = true := by
  cases h <;> first
    | (cases e; exact ⟨rfl, rfl⟩)
    | cases e
theorem RpL.flVs : ∀ {xs : List PV} {vs ws : List V}, RpL K F α xs vs → EV.flVs xs = some ws → vs = ws ∧ vs.all flatV = true
  | _, _, _, .nil, e => by cases e; exact ⟨rfl, rfl⟩
  | x :: xs, _, ws, .cons h r, e => by
    have e' : (EV.flV x).bind (fun v => (EV.flVs xs).map (v :: ·)) = some ws := e
    cases q : EV.flV x with
    | none => rw [q] at e'; cases e'
    | some w =>
      rw [q] at e'
      cases q2 : EV.flVs xs with
      | none => rw [q2] at e'; cases e'
      | some wr =>
        rw [q2] at e'
        cases e'
        obtain ⟨e1, f1⟩ := h.flV q
        obtain ⟨e2, f2⟩ := RpL.flVs r q2
        refine ⟨by rw [e1, e2], ?_⟩
        rw [List.all_cons, f1, f2]
        rfl
mutual
theorem Rp.dp (s : Same F F') : ∀ {x : PV} {v : V} {d : PyData}, Rp K F α x v → toD x = some d → Dp K F' v d
  | _, _, _, .non, e => by simp only [toD] at e; cases e; exact .non
  | _, _, _, .bl b, e => by simp only [toD] at e; cases e; exact .bl b
  | _, _, _, .int i, e => by simp only [toD] at e; cases e; exact .int i
  | _, _, _, .str x, e => by simp only [toD] at e; cases e; exact .str x
  | .tup xs, _, d, .tup h r, e => by
    simp only [toD] at e
    cases q : toDs xs with
    | none => rw [q] at e; cases e
    | some ds =>
      rw [q] at e
      cases e
      exact .tup (Same.seqT s h) (RpL.dp s r q)
  | .lst xs, _, d, .lst h r, e => by
    simp only [toD] at e
    cases q : toDs xs with
    | none => rw [q] at e; cases e
    | some ds =>
      rw [q] at e
      cases e
      exact .lst (SqL.of (s _ _ h)) (RpL.dp s r q)
  | _, _, _, .ref _, e => by simp only [toD] at e; cases e
  | _, _, _, .scr _, e => by simp only [toD] at e; cases e
theorem RpL.dp (s : Same F F') : ∀ {xs : List PV} {vs : List V} {ds : List PyData}, RpL K F α xs vs → toDs xs = some ds → DpAll K F' vs ds
  | _, _, _, .nil, e => by simp only [toDs] at e; cases e; exact .nil
  | x :: xs, _, ds, .cons h r, e => by
    simp only [toDs] at e
    cases q : toD x with
    | none => rw [q] at e; cases e
    | some d =>
      rw [q] at e
      cases q2 : toDs xs with
      | none => rw [q2] at e; cases e
      | some dr =>
        rw [q2] at e
        cases e
        exact .cons (Rp.dp s h q) (RpL.dp s r q2)
end
end

/-! ### the store, the frame -/
def SoR (K : PySem.W.Frag) (F : Hp) (α : List Addr) (o : Option HO) : SO → Prop
  | .lst xs => ∃ vs, o = some (.lst vs) ∧ RpL K F α xs vs
structure StR (K : PySem.W.Frag) (F : Hp) (α : List Addr) (S : Sto) (H : Hp) : Prop where
  sub : Same F H
  len : α.length = S.length
  nd : α.Nodup
  ob : ∀ (n : Nat) (so : SO) (a : Addr), S[n]? = some so → α[n]? = some a → SoR K F α (H a) so
  fr : ∀ a ∈ α, F a = none
def SvR (K : PySem.W.Frag) (F : Hp) (α : List Addr) (H : Hp) : SV → V → Prop
  | .val x, v => Rp K F α x v
  | .own xs, v => ∃ a vs, v = .ref a ∧ H a = some (.lst vs) ∧ RpL K F α xs vs ∧ F a = none ∧ a ∉ α
structure EnR (K : PySem.W.Frag) (F : Hp) (α : List Addr) (ρ : Env) (σ : L2.St) (H : Hp) : Prop where
  ln : ρ.length = σ.length
  sl : ∀ (i : Nat) (sv : SV), ρ[i]? = some (some sv) → ∃ v, σ[i]? = some (some v) ∧ SvR K F α H sv v
  ap : ∀ (i j : Nat) (xs ys : List PV) (a : Addr), ρ[i]? = some (some (.own xs)) → ρ[j]? = some (some (.own ys)) → σ[i]? = some (some (.ref a)) → σ[j]? = some (some (.ref a)) → i = j
/-- how things may change behind an expression -/
structure Ext (F : Hp) (α : List Addr) (H F' : Hp) (α' : List Addr) (H' : Hp) : Prop where
  f : Same F F'
  fn : ∀ a o, F' a = some o → F a = some o ∨ H a = none
  al : ∃ m, α' = α ++ m ∧ ∀ a ∈ m, H a = none
  keep : ∀ a o, H a = some o → a ∉ α → H' a = some o
  som : ∀ a, H' a = none → H a = none
theorem Ext.refl (F : Hp) (α : List Addr) (H : Hp) : Ext F α H F α H := ⟨Same.refl F, fun _ _ h => .inl h, ⟨[], by simp, fun _ h => nomatch h⟩, fun _ _ h _ => h, fun _ h => h⟩
theorem Ext.pre {F : Hp} {α : List Addr} {H F' : Hp} {α' : List Addr} {H' : Hp} (e : Ext F α H F' α' H') : Pre α α' := let ⟨m, h, _⟩ := e.al; ⟨m, h⟩
theorem none_or {H : Hp} (a : Addr) : H a = none ∨ ∃ o, H a = some o := by
  cases H a with
  | none => exact .inl rfl
  | some o => exact .inr ⟨o, rfl⟩
theorem Ext.trans {F : Hp} {α : List Addr} {H F1 : Hp} {α1 : List Addr} {H1 F2 : Hp} {α2 : List Addr} {H2 : Hp} (e : Ext F α H F1 α1 H1) (g : Ext F1 α1 H1 F2 α2 H2) : Ext F α H F2 α2 H2 := by
  refine ⟨e.f.trans g.f, fun a o h => ?_, ?_, fun a o h n => ?_, fun a h => e.som a (g.som a h)⟩
  · rcases g.fn a o h with h | h
    · exact e.fn a o h
    · exact .inr (e.som a h)
  · obtain ⟨m, h1, h2⟩ := e.al
    obtain ⟨m', h3, h4⟩ := g.al
    refine ⟨m ++ m', by rw [h3, h1]; simp, fun a h => ?_⟩
    rcases List.mem_append.mp h with h | h
    · exact h2 a h
    · exact e.som a (h4 a h)
  · refine g.keep a o (e.keep a o h n) fun z => ?_
    obtain ⟨m, h1, h2⟩ := e.al
    rw [h1] at z
    rcases List.mem_append.mp z with z | z
    · exact n z
    · rw [h2 a z] at h; cases h
section
variable {K : PySem.W.Frag} {F F' : Hp} {α α' : List Addr} {H H' : Hp} {S : Sto} {ρ : Env} {σ : L2.St}
theorem Ext.rp (e : Ext F α H F' α' H') {x : PV} {v : V} (h : Rp K F α x v) : Rp K F' α' x v := h.mono e.f e.pre
theorem Ext.rpl (e : Ext F α H F' α' H') {x : List PV} {v : List V} (h : RpL K F α x v) : RpL K F' α' x v := h.mono e.f e.pre
/-- an address that nobody else knows stays so -/
theorem Ext.free (e : Ext F α H F' α' H') {a : Addr} {o : HO} (h : H a = some o) (f : F a = none) (n : a ∉ α) : H' a = some o ∧ F' a = none ∧ a ∉ α' := by
  refine ⟨e.keep a o h n, ?_, fun z => ?_⟩
  · rcases none_or (H := F') a with q | ⟨o', q⟩
    · exact q
    · rcases e.fn a o' q with r | r
      · rw [f] at r; cases r
      · rw [h] at r; cases r
  · obtain ⟨m, h1, h2⟩ := e.al
    rw [h1] at z
    rcases List.mem_append.mp z with z | z
    · exact n z
    · rw [h2 a z] at h; cases h
theorem Ext.sv (e : Ext F α H F' α' H') {x : SV} {v : V} (h : SvR K F α H x v) : SvR K F' α' H' x v := by
  cases x with
  | val x => exact e.rp h
  | own xs =>
    obtain ⟨a, vs, rfl, h1, h2, h3, h4⟩ := h
    obtain ⟨g1, g2, g3⟩ := e.free h1 h3 h4
    exact ⟨a, vs, rfl, g1, e.rpl h2, g2, g3⟩
theorem EnR.ext (r : EnR K F α ρ σ H) (e : Ext F α H F' α' H') : EnR K F' α' ρ σ H' :=
  ⟨r.ln, fun i sv h => let ⟨v, h1, h2⟩ := r.sl i sv h; ⟨v, h1, e.sv h2⟩, r.ap⟩
theorem StR.none_mem (r : StR K F α S H) {p : Addr} (hp : H p = none) : p ∉ α := fun z => by
  obtain ⟨n, h1, h2⟩ := List.getElem_of_mem z
  have hn : α[n]? = some p := by rw [List.getElem?_eq_getElem h1, h2]
  have hs : n < S.length := by rw [← r.len]; exact h1
  have q := r.ob n S[n] p (List.getElem?_eq_getElem hs) hn
  cases e : S[n] with
  | lst xs =>
    rw [e] at q
    obtain ⟨vs, q1, _⟩ := q
    rw [hp] at q1; cases q1
theorem StR.none_F (r : StR K F α S H) {p : Addr} (hp : H p = none) : F p = none := by
  rcases none_or (H := F) p with q | ⟨o, q⟩
  · exact q
  · rw [r.sub p o q] at hp; cases hp
theorem same_upd {p : Addr} {o : HO} (hp : F p = none) : Same F (upd F p o) := fun b u h => by
  rw [upd_ne (ne_of_none h hp)]
  exact h
theorem SoR.mono {o : Option HO} (s : Same F F') (p : Pre α α') {so : SO} (h : SoR K F α o so) : SoR K F' α' o so := by
  cases so with
  | lst xs =>
    obtain ⟨vs, e, r⟩ := h
    exact ⟨vs, e, r.mono s p⟩
theorem mem_get {α : List Addr} {n : Nat} {a : Addr} (h : α[n]? = some a) : a ∈ α := List.mem_of_getElem? h
/-- a new object that nobody will change -/
theorem alloc {p : Addr} {o : HO} (r : StR K F α S H) (hp : H p = none) : Ext F α H (upd F p o) α (upd H p o) ∧ StR K (upd F p o) α S (upd H p o) := by
  have fp := r.none_F hp
  have np := r.none_mem hp
  refine ⟨⟨same_upd fp, fun a u h => ?_, ⟨[], by simp, fun _ h => nomatch h⟩, fun a u h _ => ?_, fun a h => ?_⟩, ⟨fun b u h => ?_, r.len, r.nd, fun n so a h1 h2 => ?_, fun a h => ?_⟩⟩
  · by_cases e : a = p
    · subst e; exact .inr hp
    · rw [upd_ne e] at h; exact .inl h
  · rw [upd_ne (ne_of_none h hp)]; exact h
  · by_cases e : a = p
    · subst e; exact hp
    · rw [upd_ne e] at h; exact h
  · by_cases e : b = p
    · subst e; rw [upd_same] at h ⊢; exact h
    · rw [upd_ne e] at h ⊢; exact r.sub b u h
  · have na : a ≠ p := fun e => np (e ▸ mem_get h2)
    rw [upd_ne na]
    exact (r.ob n so a h1 h2).mono (same_upd fp) (Pre.refl α)
  · have na : a ≠ p := fun e => np (e ▸ h)
    rw [upd_ne na]
    exact r.fr a h
/-- a new list that only one knows -/
theorem allocU {p : Addr} {o : HO} (r : StR K F α S H) (hp : H p = none) : Ext F α H F α (upd H p o) ∧ StR K F α S (upd H p o) := by
  have fp := r.none_F hp
  have np := r.none_mem hp
  refine ⟨⟨Same.refl F, fun a u h => .inl h, ⟨[], by simp, fun _ h => nomatch h⟩, fun a u h _ => ?_, fun a h => ?_⟩, ⟨fun b u h => ?_, r.len, r.nd, fun n so a h1 h2 => ?_, r.fr⟩⟩
  · rw [upd_ne (ne_of_none h hp)]; exact h
  · by_cases e : a = p
    · subst e; exact hp
    · rw [upd_ne e] at h; exact h
  · rw [upd_ne (ne_of_none h fp)]; exact r.sub b u h
  · have na : a ≠ p := fun e => np (e ▸ mem_get h2)
    rw [upd_ne na]
    exact r.ob n so a h1 h2
/-- it is frozen -/
theorem freeze {p : Addr} {vs : List V} (r : StR K F α S H) (hp : H p = some (.lst vs)) (fp : F p = none) (np : p ∉ α) : StR K (upd F p (.lst vs)) α S H ∧ Same F (upd F p (.lst vs)) := by
  refine ⟨⟨fun b u h => ?_, r.len, r.nd, fun n so a h1 h2 => (r.ob n so a h1 h2).mono (same_upd fp) (Pre.refl α), fun a h => ?_⟩, same_upd fp⟩
  · by_cases e : b = p
    · subst e; rw [upd_same] at h; cases h; exact hp
    · rw [upd_ne e] at h; exact r.sub b u h
  · have na : a ≠ p := fun e => np (e ▸ h)
    rw [upd_ne na]
    exact r.fr a h
/-- a new object of the store -/
theorem allocS {p : Addr} {xs : List PV} {vs : List V} (r : StR K F α S H) (hp : H p = none) (h : RpL K F α xs vs) : Ext F α H F (α ++ [p]) (upd H p (.lst vs)) ∧ StR K F (α ++ [p]) (S ++ [.lst xs]) (upd H p (.lst vs)) := by
  have fp := r.none_F hp
  have np := r.none_mem hp
  have pr : Pre α (α ++ [p]) := ⟨[p], rfl⟩
  refine ⟨⟨Same.refl F, fun a u h => .inl h, ⟨[p], rfl, fun a h => ?_⟩, fun a u h _ => ?_, fun a h => ?_⟩, ⟨fun b u h => ?_, by simp [r.len], ?_, fun n so a h1 h2 => ?_, fun a h => ?_⟩⟩
  · rw [List.mem_singleton.mp h]; exact hp
  · rw [upd_ne (ne_of_none h hp)]; exact h
  · by_cases e : a = p
    · subst e; exact hp
    · rw [upd_ne e] at h; exact h
  · rw [upd_ne (ne_of_none h fp)]; exact r.sub b u h
  · rw [List.nodup_append]
    refine ⟨r.nd, by simp, fun a ha b hb e => ?_⟩
    rw [List.mem_singleton.mp hb] at e
    exact np (e ▸ ha)
  · by_cases hn : n < S.length
    · rw [List.getElem?_append_left hn] at h1
      have hn' : n < α.length := by rw [r.len]; exact hn
      rw [List.getElem?_append_left hn'] at h2
      have na : a ≠ p := fun e => np (e ▸ mem_get h2)
      rw [upd_ne na]
      exact (r.ob n so a h1 h2).mono (Same.refl F) pr
    · have h3 := (List.getElem?_eq_some_iff.mp h1).1
      rw [List.length_append, List.length_singleton] at h3
      have e : n = S.length := by omega
      subst e
      rw [List.getElem?_append_right (Nat.le_refl _)] at h1
      rw [List.getElem?_append_right (Nat.le_of_eq r.len)] at h2
      simp only [Nat.sub_self, List.getElem?_cons_zero] at h1
      rw [← r.len] at h2
      simp only [Nat.sub_self, List.getElem?_cons_zero] at h2
      cases h1
      cases h2
      exact ⟨vs, upd_same, h.mono (Same.refl F) pr⟩
  · rcases List.mem_append.mp h with h | h
    · exact r.fr a h
    · rw [List.mem_singleton.mp h]; exact fp
/-- a list of the store is written -/
theorem putS {n : Nat} {a : Addr} {xs : List PV} {vs : List V} (r : StR K F α S H) (hn : n < S.length) (ha : α[n]? = some a) (h : RpL K F α xs vs) : Ext F α H F α (upd H a (.lst vs)) ∧ StR K F α (S.set n (.lst xs)) (upd H a (.lst vs)) := by
  have fa := r.fr a (mem_get ha)
  have sa : ∃ o, H a = some o := by
    have q := r.ob n S[n] a (List.getElem?_eq_getElem hn) ha
    cases e : S[n] with
    | lst ys =>
      rw [e] at q
      obtain ⟨ws, q1, _⟩ := q
      exact ⟨_, q1⟩
  refine ⟨⟨Same.refl F, fun a u h => .inl h, ⟨[], by simp, fun _ h => nomatch h⟩, fun b u h nb => ?_, fun b h => ?_⟩, ⟨fun b u h => ?_, by simpa using r.len, r.nd, fun m so b h1 h2 => ?_, r.fr⟩⟩
  · rw [upd_ne (show b ≠ a from fun e => nb (by rw [e]; exact mem_get ha))]; exact h
  · by_cases e : b = a
    · subst e; rw [upd_same] at h; cases h
    · rw [upd_ne e] at h; exact h
  · rw [upd_ne (ne_of_none h fa)]; exact r.sub b u h
  · by_cases e : m = n
    · subst e
      rw [List.getElem?_set_self hn] at h1
      rw [ha] at h2
      cases h1; cases h2
      exact ⟨vs, upd_same, h⟩
    · rw [List.getElem?_set_ne (Ne.symm e)] at h1
      have nb : b ≠ a := fun q => e ((List.getElem?_inj (List.getElem?_eq_some_iff.mp h2).1 r.nd).mp (by rw [h2, ha, q]))
      rw [upd_ne nb]
      exact r.ob m so b h1 h2
/-- a list that only one knows is changed -/
theorem StR.unf {p : Addr} {o : HO} (r : StR K F α S H) (fp : F p = none) (np : p ∉ α) : StR K F α S (upd H p o) := by
  refine ⟨fun b u h => ?_, r.len, r.nd, fun n so a h1 h2 => ?_, r.fr⟩
  · rw [upd_ne (ne_of_none h fp)]; exact r.sub b u h
  · have na : a ≠ p := fun e => np (e ▸ mem_get h2)
    rw [upd_ne na]
    exact r.ob n so a h1 h2
theorem Ext.unf {p : Addr} {o : HO} (e : Ext F α H F' α' H') (hp : H p = none) : Ext F α H F' α' (upd H' p o) := by
  refine ⟨e.f, e.fn, e.al, fun a u h n => ?_, fun a h => ?_⟩
  · rw [upd_ne (ne_of_none h hp)]; exact e.keep a u h n
  · by_cases q : a = p
    · subst q; exact hp
    · rw [upd_ne q] at h; exact e.som a h
theorem wipeV_get {σ : L2.St} {i : Nat} : ∀ {vs : List Nat}, i ∉ vs → (L2.wipe σ vs)[i]? = σ[i]?
  | [], _ => rfl
  | v :: vs, h => by
    unfold L2.wipe
    rw [List.getElem?_set_ne (fun e => h (by rw [e]; exact List.mem_cons_self ..))]
    exact wipeV_get fun z => h (List.mem_cons_of_mem _ z)
theorem wipe_get {ρ : Env} {i : Nat} : ∀ {vs : List Nat}, (wipe ρ vs)[i]? = if i ∈ vs then (if i < ρ.length then some none else none) else ρ[i]?
  | [] => by simp [wipe]
  | v :: vs => by
    have hl : ∀ vs, (wipe ρ vs).length = ρ.length := fun vs => by
      induction vs with
      | nil => rfl
      | cons a l ih => unfold wipe; rw [List.length_set, ih]
    unfold wipe
    by_cases h : v = i
    · subst h
      rw [if_pos (List.mem_cons_self ..)]
      by_cases hv : v < ρ.length
      · rw [List.getElem?_set_self (by rw [hl]; exact hv), if_pos hv]
      · rw [List.getElem?_eq_none (by rw [List.length_set, hl]; omega), if_neg hv]
    · rw [List.getElem?_set_ne h, wipe_get (vs := vs)]
      simp [List.mem_cons, Ne.symm h]
theorem wipe_len (ρ : Env) : ∀ vs, (wipe ρ vs).length = ρ.length
  | [] => rfl
  | v :: vs => by unfold wipe; rw [List.length_set, wipe_len ρ vs]
theorem EnR.wiped (r : EnR K F α ρ σ H) (vs : List Nat) : EnR K F α (wipe ρ vs) (L2.wipe σ vs) H := by
  have nv : ∀ {i : Nat} {sv : SV}, (wipe ρ vs)[i]? = some (some sv) → i ∉ vs ∧ ρ[i]? = some (some sv) := fun {i sv} h => by
    rw [wipe_get] at h
    by_cases hi : i ∈ vs
    · rw [if_pos hi] at h
      split at h <;> cases h
    · rw [if_neg hi] at h; exact ⟨hi, h⟩
  refine ⟨by rw [wipe_len, L2.wipe_length, r.ln], fun i sv h => ?_, fun i j xs ys a h1 h2 h3 h4 => ?_⟩
  · obtain ⟨hi, h⟩ := nv h
    rw [wipeV_get hi]
    exact r.sl i sv h
  · obtain ⟨g1, h1⟩ := nv h1
    obtain ⟨g2, h2⟩ := nv h2
    rw [wipeV_get g1] at h3
    rw [wipeV_get g2] at h4
    exact r.ap i j xs ys a h1 h2 h3 h4
theorem wipeV_all {σ : L2.St} {i : Nat} : ∀ {vs : List Nat}, i ∈ vs → (L2.wipe σ vs)[i]? = if i < σ.length then some none else none
  | v :: vs, h => by
    unfold L2.wipe
    by_cases hv : v = i
    · subst hv
      by_cases hl : v < σ.length
      · rw [List.getElem?_set_self (by rw [L2.wipe_length]; exact hl), if_pos hl]
      · rw [List.getElem?_eq_none (by rw [List.length_set, L2.wipe_length]; omega), if_neg hl]
    · rw [List.getElem?_set_ne hv]
      exact wipeV_all ((List.mem_cons.mp h).resolve_left fun e => hv e.symm)
/-- wiping forgets what was stored there -/
theorem wipeV_ext {σ τ : L2.St} {vs : List Nat} (hl : σ.length = τ.length) (h : ∀ i, i ∉ vs → σ[i]? = τ[i]?) : L2.wipe σ vs = L2.wipe τ vs := by
  refine List.ext_getElem? fun i => ?_
  by_cases hi : i ∈ vs
  · rw [wipeV_all hi, wipeV_all hi, hl]
  · rw [wipeV_get hi, wipeV_get hi, h i hi]
/-- a name is given a value -/
theorem EnR.set (r : EnR K F α ρ σ H) {i : Nat} {x : PV} {v : V} (h : Rp K F α x v) : EnR K F α (ρ.set i (some (.val x))) (σ.set i (some v)) H := by
  have ne : ∀ {j : Nat} {xs : List PV}, (ρ.set i (some (.val x)))[j]? = some (some (.own xs)) → j ≠ i ∧ ρ[j]? = some (some (.own xs)) := fun {j xs} h => by
    by_cases e : i = j
    · subst e
      by_cases hl : i < ρ.length
      · rw [List.getElem?_set_self hl] at h; cases h
      · rw [List.getElem?_eq_none (by rw [List.length_set]; omega)] at h; cases h
    · rw [List.getElem?_set_ne e] at h
      exact ⟨fun z => e z.symm, h⟩
  refine ⟨by rw [List.length_set, List.length_set, r.ln], fun j sv h1 => ?_, fun j k xs ys a h1 h2 h3 h4 => ?_⟩
  · by_cases e : i = j
    · subst e
      by_cases hl : i < ρ.length
      · rw [List.getElem?_set_self hl] at h1
        cases h1
        exact ⟨v, List.getElem?_set_self (by rw [← r.ln]; exact hl), h⟩
      · rw [List.getElem?_eq_none (by rw [List.length_set]; omega)] at h1; cases h1
    · rw [List.getElem?_set_ne e] at h1
      obtain ⟨u, h2, h3⟩ := r.sl j sv h1
      exact ⟨u, by rw [List.getElem?_set_ne e]; exact h2, h3⟩
  · obtain ⟨n1, g1⟩ := ne h1
    obtain ⟨n2, g2⟩ := ne h2
    rw [List.getElem?_set_ne (Ne.symm n1)] at h3
    rw [List.getElem?_set_ne (Ne.symm n2)] at h4
    exact r.ap j k xs ys a g1 g2 h3 h4
end
end EV

/-! EvD: what a reading is; operators on values. -/
namespace EV
open PySem L2
/-- q: the value is only looked at: it may be a list of the frame's own -/
def RpQ (K : PySem.W.Frag) (F : Hp) (α : List Addr) (H : Hp) (q : Bool) (x : PV) (v : V) : Prop :=
  Rp K F α x v ∨ (q = true ∧ ∃ xs, x = .lst xs ∧ SvR K F α H (.own xs) v)
section
variable {K : PySem.W.Frag} {F F' : Hp} {α α' : List Addr} {H H' : Hp} {q : Bool}
theorem Ext.rpq (e : Ext F α H F' α' H') {x : PV} {v : V} (h : RpQ K F α H q x v) : RpQ K F' α' H' q x v := by
  rcases h with h | ⟨h1, xs, h2, h3⟩
  · exact .inl (e.rp h)
  · exact .inr ⟨h1, xs, h2, e.sv h3⟩
theorem RpQ.val {x : PV} {v : V} (h : RpQ K F α H false x v) : Rp K F α x v := by
  rcases h with h | ⟨h1, _⟩
  · exact h
  · cases h1
theorem RpQ.up {x : PV} {v : V} (h : RpQ K F α H q x v) : RpQ K F α H true x v := by
  rcases h with h | ⟨h1, r⟩
  · exact .inl h
  · exact .inr ⟨rfl, r⟩
theorem RpQ.int {i : Int} {v : V} (h : RpQ K F α H q (.int i) v) : v = .int i := by
  rcases h with h | ⟨_, xs, h2, _⟩
  · cases h; rfl
  · cases h2
theorem RpQ.bl {i : Bool} {v : V} (h : RpQ K F α H q (.bl i) v) : v = .bl i := by
  rcases h with h | ⟨_, xs, h2, _⟩
  · cases h; rfl
  · cases h2
theorem RpQ.str {i : Str} {v : V} (h : RpQ K F α H q (.str i) v) : v = .str i := by
  rcases h with h | ⟨_, xs, h2, _⟩
  · cases h; rfl
  · cases h2
theorem RpQ.non {v : V} (h : RpQ K F α H q .non v) : v = .non := by
  rcases h with h | ⟨_, xs, h2, _⟩
  · cases h; rfl
  · cases h2
theorem RpQ.tup {xs : List PV} {v : V} (h : RpQ K F α H q (.tup xs) v) : ∃ a vs, v = .ref a ∧ SqT K F a vs ∧ RpL K F α xs vs := by
  rcases h with h | ⟨_, xs, h2, _⟩
  · cases h with
    | tup h r => exact ⟨_, _, rfl, h, r⟩
  · cases h2
theorem RpQ.lst {S : Sto} (st : StR K F α S H) {xs : List PV} {v : V} (h : RpQ K F α H q (.lst xs) v) : ∃ a vs, v = .ref a ∧ H a = some (.lst vs) ∧ RpL K F α xs vs := by
  rcases h with h | ⟨_, ys, h2, h3⟩
  · cases h with
    | lst h r => exact ⟨_, _, rfl, st.sub _ _ h, r⟩
  · cases h2
    obtain ⟨a, vs, h4, h5, h6, _⟩ := h3
    exact ⟨a, vs, h4, h5, h6⟩
/-- a list, by its items -/
theorem RpQ.lstOf {S : Sto} (st : StR K F α S H) {x : PV} {xs : List PV} {v : V} (h : RpQ K F α H q x v) (e : EV.lstOf S x = some xs) : ∃ a vs, v = .ref a ∧ H a = some (.lst vs) ∧ RpL K F α xs vs := by
  cases x with
  | lst ys => cases e; exact h.lst st
  | ref n =>
    rcases h with h | ⟨_, ys, h2, _⟩
    · cases h with
      | ref hn =>
        have e' : (match S[n]? with
          | some (.lst xs) => some xs
          | none => none) = some xs := e
        cases q2 : S[n]? with
        | none => rw [q2] at e'; cases e'
        | some so =>
          rw [q2] at e'
          cases so with
          | lst zs =>
            cases e'
            obtain ⟨vs, h1, h2⟩ := st.ob n _ _ q2 hn
            exact ⟨_, vs, rfl, h1, h2⟩
    · cases h2
  | _ => cases e
theorem RpQ.seqOf {S : Sto} (st : StR K F α S H) {x : PV} {xs : List PV} {v : V} (h : RpQ K F α H q x v) (e : EV.seqOf S x = some xs) : ∃ a vs, v = .ref a ∧ (H a = some (.lst vs) ∨ SqT K H a vs) ∧ RpL K F α xs vs := by
  cases x with
  | tup ys =>
    cases e
    obtain ⟨a, vs, h1, h2, h3⟩ := h.tup
    exact ⟨a, vs, h1, .inr (Same.seqT st.sub h2), h3⟩
  | lst ys =>
    obtain ⟨a, vs, h1, h2, h3⟩ := h.lstOf st (show EV.lstOf S (.lst ys) = some xs from e)
    exact ⟨a, vs, h1, .inl h2, h3⟩
  | ref n =>
    obtain ⟨a, vs, h1, h2, h3⟩ := h.lstOf st (show EV.lstOf S (.ref n) = some xs from e)
    exact ⟨a, vs, h1, .inl h2, h3⟩
  | _ => cases e
/-- data -/
theorem RpQ.dp {S : Sto} (st : StR K F α S H) {x : PV} {v : V} {d : PyData} (h : RpQ K F α H q x v) (e : toD (look S x) = some d) : Dp K H v d := by
  have go : ∀ xs : List PV, (∃ a vs, v = .ref a ∧ H a = some (.lst vs) ∧ RpL K F α xs vs) → toD (.lst xs) = some d → Dp K H v d := fun xs h e => by
    obtain ⟨a, vs, rfl, h2, h3⟩ := h
    simp only [toD] at e
    cases q2 : toDs xs with
    | none => rw [q2] at e; cases e
    | some ds =>
      rw [q2] at e
      cases e
      exact .lst (SqL.of h2) (h3.dp st.sub q2)
  cases x with
  | ref n =>
    have e' : toD (match S[n]? with
      | some (.lst xs) => .lst xs
      | none => .non) = some d := e
    cases q2 : S[n]? with
    | none =>
      rcases h with h | ⟨_, ys, h2, _⟩
      · cases h with
        | ref hn =>
          have := (List.getElem?_eq_some_iff.mp hn).1
          rw [st.len] at this
          rw [List.getElem?_eq_getElem this] at q2
          cases q2
      · cases h2
    | some so =>
      rw [q2] at e'
      cases so with
      | lst zs =>
        refine go zs ?_ e'
        exact h.lstOf st (by show (match S[n]? with
          | some (.lst xs) => some xs
          | none => none) = some zs; rw [q2])
  | lst xs => exact go xs (h.lst st) e
  | non => rw [h.non]; simp only [look, toD] at e; cases e; exact .non
  | bl b => rw [h.bl]; simp only [look, toD] at e; cases e; exact .bl b
  | int b => rw [h.int]; simp only [look, toD] at e; cases e; exact .int b
  | str b => rw [h.str]; simp only [look, toD] at e; cases e; exact .str b
  | tup xs =>
    rcases h with h | ⟨_, ys, h2, _⟩
    · exact h.dp st.sub e
    · cases h2
  | scr ns => simp only [look, toD] at e; cases e
end

/-! ### readings -/
/-- an exception, by its class and its own dict -/
abbrev XW := Value → Option Addr → Hp → Prop
/-- what is raised lies so (no exception so far) -/
def ExcR (K : PySem.W.Frag) (F : Hp) (α : List Addr) (H : Hp) (x : Exc) (c : Value) (d : Option Addr) : Prop := False
section
variable (K : PySem.W.Frag) (cal : Nat → List PV → M PV) (W : XW)
/-- what is wanted behind an expression's value -/
def Fin {A : Type} {B : Type} (R : Hp → List Addr → Hp → A → B → Prop) (F : Hp) (α : List Addr) (H : Hp) (x : A) (S' : Sto) (Q : B → Hp → Prop) : Prop :=
  ∀ F' α' H' v, Ext F α H F' α' H' → StR K F' α' S' H' → R F' α' H' x v → Q v H'
def FinX (F : Hp) (α : List Addr) (H : Hp) (x : Exc) (S' : Sto) : Prop :=
  ∀ F' α' H' c d, Ext F α H F' α' H' → StR K F' α' S' H' → ExcR K F' α' H' x c d → W c d H'
/-- a part of the program by its evaluation: m at a frame -/
def tM {A B : Type} (R : Hp → List Addr → Hp → A → B → Prop) (m : Env → M A) : L2.St → Hp → (B → Hp → Prop) → Prop := fun σ H Q =>
  ∃ F α ρ S, StR K F α S H ∧ EnR K F α ρ σ H ∧ (m ρ S).wp (fun x S' => Fin K R F α H x S' Q) (FinX K W F α H)
inductive RqL (F : Hp) (α : List Addr) (H : Hp) : List PV → List V → Prop
  | nil : RqL F α H [] []
  | cons {x : PV} {v : V} {xs : List PV} {vs : List V} (h : RpQ K F α H true x v) (r : RqL F α H xs vs) : RqL F α H (x :: xs) (v :: vs)
def tE (q : Bool) (e : E) : TE := tM K W (fun F α H => RpQ K F α H q) (evE cal q e)
def tEs (es : Es) : TA := tM K W (fun F α _ => RpL K F α) (evEs cal es)
def tEq (es : Es) : TA := tM K W (RqL K) (evEq cal es)
def tEo (e : Eo) : TO := tM K W (fun _ _ _ (x v : Option Int) => v = x) (evEo cal e)
def tT (e : T) : TT := tM K W (fun _ _ _ (x v : Bool) => v = x) (evT cal e)
def tTo (e : To) : TT := tM K W (fun _ _ _ (x v : Bool) => v = x) (evTo cal e)
/-- a list that only the one who asked knows -/
def FinU (F : Hp) (α : List Addr) (H : Hp) (xs : List PV) (S' : Sto) (Q : VK) : Prop :=
  ∀ F' α' H' p vs, Ext F α H F' α' H' → StR K F' α' S' H' → H p = none → H' p = some (.lst vs) → F' p = none → p ∉ α' → RpL K F' α' xs vs → Q (.ref p) H'
def tU (e : E) : TE := fun σ H Q => ∃ F α ρ S, StR K F α S H ∧ EnR K F α ρ σ H ∧ (evE cal false e ρ S).wp (fun x S' => ∃ xs, x = .lst xs ∧ FinU K F α H xs S' Q) (FinX K W F α H)
end
section
variable {K : PySem.W.Frag} {F F1 : Hp} {α α1 : List Addr} {H H1 : Hp} {S : Sto} {W : XW}
theorem Fin.behind {A B : Type} {R : Hp → List Addr → Hp → A → B → Prop} {x : A} {Q : B → Hp → Prop} (f : Fin K R F α H x S Q) (e : Ext F α H F1 α1 H1) : Fin K R F1 α1 H1 x S Q :=
  fun F' α' H' v g st r => f F' α' H' v (e.trans g) st r
theorem FinX.behind {x : Exc} (f : FinX K W F α H x S) (e : Ext F α H F1 α1 H1) : FinX K W F1 α1 H1 x S :=
  fun F' α' H' c d g st r => f F' α' H' c d (e.trans g) st r
theorem FinU.behind {xs : List PV} {Q : VK} (f : FinU K F α H xs S Q) (e : Ext F α H F1 α1 H1) : FinU K F1 α1 H1 xs S Q :=
  fun F' α' H' p vs g st hp h1 h2 h3 r => f F' α' H' p vs (e.trans g) st (e.som p hp) h1 h2 h3 r
theorem Fin.here {A B : Type} {R : Hp → List Addr → Hp → A → B → Prop} {x : A} {Q : B → Hp → Prop} (f : Fin K R F α H x S Q) (st : StR K F α S H) {v : B} (r : R F α H x v) : Q v H := f F α H v (Ext.refl F α H) st r
theorem FinU.of {xs : List PV} {Q : VK} {q : Bool} (f : Fin K (fun F' α' H' => RpQ K F' α' H' q) F α H (.lst xs) S Q) : FinU K F α H xs S Q := fun F' α' H' p vs e st hp h1 h2 h3 r => by
  obtain ⟨st2, sm⟩ := freeze st h1 h2 h3
  refine f _ α' H' _ ⟨e.f.trans sm, fun a o h => ?_, e.al, e.keep, e.som⟩ st2 (.inl (.lst upd_same (r.mono sm (Pre.refl _))))
  by_cases q : a = p
  · subst q; exact .inr hp
  · rw [upd_ne q] at h; exact e.fn a o h
theorem pe_imp {X : Cx} {e : Expr} {t t' : TE} (h : PE X e t) (m : ∀ σ H Q, t' σ H Q → t σ H Q) : PE X e t' := ⟨fun pins s σ H Q I hq => h.run pins s σ H Q I (m σ H Q hq)⟩
/-- a fresh list as a value -/
theorem pe_frozen {X : Cx} {e : Expr} {i : E} {cal : Nat → List PV → M PV} {q : Bool} (h : PE X e (tU K cal W i)) (hq : ∀ ρ, evE cal q i ρ = evE cal false i ρ) (hl : ∀ ρ S x S', evE cal false i ρ S = .ok x S' → ∃ xs, x = .lst xs) : PE X e (tE K cal W q i) :=
  pe_imp h fun σ H Q ⟨F, α, ρ, S, st, en, w⟩ => ⟨F, α, ρ, S, st, en, by
    rw [hq] at w
    cases r : evE cal false i ρ S with
    | ok x S' =>
      rw [r] at w
      obtain ⟨xs, rfl⟩ := hl ρ S x S' r
      exact ⟨xs, rfl, FinU.of w⟩
    | exc x S' => rw [r] at w; exact w
    | stuck => rw [r] at w; exact w⟩
end

/-! ### operators -/
section
variable {X : Cx} {F : Hp} {α : List Addr} {H : Hp} {S : Sto} {q : Bool} {pins : List (Addr × Obj)} {s : Shared} {σ : L2.St} {Q : VK}
abbrev FinE (X : Cx) (q : Bool) (F : Hp) (α : List Addr) (H : Hp) (x : PV) (S : Sto) (Q : VK) : Prop := Fin X.K (fun F' α' H' => RpQ X.K F' α' H' q) F α H x S Q
/-- a new tuple -/
theorem fin_tup {xs : List PV} {vs : List V} (st : StR X.K F α S H) (f : FinE X q F α H (.tup xs) S Q) (r : RpL X.K F α xs vs) {p : Addr} (hp : H p = none) : Q (.ref p) (upd H p (.tup vs)) := by
  obtain ⟨e, st'⟩ := alloc (o := .tup vs) st hp
  exact f _ _ _ _ e st' (.inl (.tup (SqT.of upd_same) (e.rpl r)))
/-- a new list that is never changed -/
theorem fin_lst {xs : List PV} {vs : List V} (st : StR X.K F α S H) (f : FinE X q F α H (.lst xs) S Q) (r : RpL X.K F α xs vs) {p : Addr} (hp : H p = none) : Q (.ref p) (upd H p (.lst vs)) := by
  obtain ⟨e, st'⟩ := alloc (o := .lst vs) st hp
  exact f _ _ _ _ e st' (.inl (.lst upd_same (e.rpl r)))
theorem binOp_ok {op : Operator} {o : BOp} {x y z : PV} {v w : V} {u u' : Value} (hop : bopOf op = some o) (he : binOp S o x y = some z) (st : StR X.K F α S H) (I : Inv X pins σ H s)
    (rx : RpQ X.K F α H true x v) (ry : RpQ X.K F α H true y w) (ru : RelV v u) (ru' : RelV w u') (f : FinE X q F α H z S Q) :
    wpAny (model X.prog X.w) X.A (binaryOp op u u') (EP X pins σ Q) X.xe s := by
  have lists : ∀ xs ys : List PV, lstOf S x = some xs → lstOf S y = some ys → (xs.length + ys.length ≤ sizeLine) → z = .lst (xs ++ ys) → op = .Add → wpAny (model X.prog X.w) X.A (binaryOp op u u') (EP X pins σ Q) X.xe s := by
    rintro xs ys h1 h2 h3 rfl rfl
    obtain ⟨a, vs, rfl, ha, ra⟩ := rx.lstOf st h1
    obtain ⟨b, ws, rfl, hb, rb⟩ := ry.lstOf st h2
    exact op_cat pins s σ H _ _ _ _ Q I ru ru' ⟨a, b, vs, ws, rfl, rfl, ha, hb, by rw [← ra.length, ← rb.length]; exact h3, fun p hp => fin_lst st f (ra.append rb) hp⟩
  have gen : (match lstOf S x, lstOf S y with
      | some xs, some ys => if xs.length + ys.length ≤ sizeLine then some (PV.lst (xs ++ ys)) else none
      | _, _ => none) = some z → op = .Add → wpAny (model X.prog X.w) X.A (binaryOp op u u') (EP X pins σ Q) X.xe s := by
    intro h hop
    cases h1 : lstOf S x with
    | none => rw [h1] at h; cases h
    | some xs =>
      cases h2 : lstOf S y with
      | none => rw [h1, h2] at h; cases h
      | some ys =>
        rw [h1, h2] at h
        by_cases h3 : xs.length + ys.length ≤ sizeLine
        · simp only [h3, if_true] at h
          cases h
          exact lists xs ys h1 h2 h3 rfl hop
        · simp only [h3, if_false] at h
          cases h
  cases op with
  | Add =>
    cases hop
    cases x with
    | int i =>
      cases y with
      | int j =>
        cases he
        rw [rx.int] at ru
        rw [ry.int] at ru'
        exact op_add pins s σ H _ _ _ _ Q I ru ru' ⟨i, j, rfl, rfl, f.here st (.inl (.int _))⟩
      | _ => cases he
    | str i =>
      cases y with
      | str j =>
        have he' : (if i.length + j.length ≤ sizeLine then some (PV.str (i ++ j)) else none) = some z := he
        by_cases h3 : i.length + j.length ≤ sizeLine
        · rw [if_pos h3] at he'
          cases he'
          rw [rx.str] at ru
          rw [ry.str] at ru'
          exact op_add_str pins s σ H _ _ _ _ Q I ru ru' ⟨i, j, rfl, rfl, h3, f.here st (.inl (.str _))⟩
        · rw [if_neg h3] at he'; cases he'
      | _ => cases he
    | tup xs =>
      cases y with
      | tup ys =>
        have he' : (if xs.length + ys.length ≤ sizeLine then some (PV.tup (xs ++ ys)) else none) = some z := he
        by_cases h3 : xs.length + ys.length ≤ sizeLine
        · rw [if_pos h3] at he'
          cases he'
          obtain ⟨a, vs, rfl, ha, ra⟩ := rx.tup
          obtain ⟨b, ws, rfl, hb, rb⟩ := ry.tup
          refine op_catA pins s σ H _ _ _ _ Q I ru ru' ⟨a, b, vs, ws, rfl, rfl, Same.seqT st.sub ha, Same.seqT st.sub hb, by rw [← ra.length, ← rb.length]; exact h3, fun e => ?_, fun _ e => ?_, fun _ _ p hp => fin_tup st f (ra.append rb) hp⟩
          · subst e
            cases ra
            exact f.here st (.inl (.tup hb rb))
          · subst e
            cases rb
            rw [List.append_nil] at f
            exact f.here st (.inl (.tup ha ra))
        · rw [if_neg h3] at he'; cases he'
      | _ => cases he
    | lst xs => cases y <;> first | exact gen he rfl | cases he
    | ref n => cases y <;> first | exact gen he rfl | cases he
    | _ => cases y <;> cases he
  | Sub =>
    cases hop
    cases x <;> cases y <;> first
      | (cases he; rename_i i j; rw [rx.int] at ru; rw [ry.int] at ru'; exact op_sub pins s σ H _ _ _ _ Q I ru ru' ⟨i, j, rfl, rfl, f.here st (.inl (.int _))⟩)
      | cases he
  | Mult =>
    cases hop
    cases x with
    | int i =>
      cases y with
      | int j =>
        have he' : (if (i.natAbs < 2 ^ 64) ∨ (j.natAbs < 2 ^ 64) then some (PV.int (i * j)) else none) = some z := he
        by_cases h3 : (i.natAbs < 2 ^ 64) ∨ (j.natAbs < 2 ^ 64)
        · rw [if_pos h3] at he'
          cases he'
          rw [rx.int] at ru
          rw [ry.int] at ru'
          refine op_mul pins s σ H _ _ _ _ Q I ru ru' ⟨i, j, rfl, rfl, ?_, f.here st (.inl (.int _))⟩
          rcases h3 with h3 | h3
          · exact .inl (by omega)
          · exact .inr (by omega)
        · rw [if_neg h3] at he'; cases he'
      | _ => cases he
    | tup xs =>
      cases y with
      | int k =>
        have he' : (if xs ≠ [] ∧ 2 ≤ k ∧ k ≤ 1000 ∧ xs.length ≤ 1000 then some (PV.tup (List.replicate k.toNat xs).flatten) else none) = some z := he
        by_cases h3 : xs ≠ [] ∧ 2 ≤ k ∧ k ≤ 1000 ∧ xs.length ≤ 1000
        · rw [if_pos h3] at he'
          cases he'
          obtain ⟨a, vs, rfl, ha, ra⟩ := rx.tup
          rw [ry.int] at ru'
          refine op_repT pins s σ H _ _ _ _ Q I ru ru' ⟨a, k, vs, rfl, rfl, Same.seqT st.sub ha, fun e => h3.1 ?_, h3.2.1, h3.2.2.1, by rw [← ra.length]; exact h3.2.2.2, fun p hp => fin_tup st f (ra.rep _) hp⟩
          subst e
          cases ra
          rfl
        · rw [if_neg h3] at he'; cases he'
      | _ => cases he
    | str xs =>
      cases y with
      | int k =>
        have he' : (if xs.length ≤ 1000 ∧ 1 ≤ k ∧ k ≤ 1000 then some (PV.str (Txt.mul xs k)) else none) = some z := he
        by_cases h3 : xs.length ≤ 1000 ∧ 1 ≤ k ∧ k ≤ 1000
        · rw [if_pos h3] at he'
          cases he'
          obtain ⟨h3, h4, h5⟩ := h3
          rw [rx.str] at ru
          rw [ry.int] at ru'
          obtain ⟨t, rfl⟩ := ru
          obtain ⟨t', rfl⟩ := ru'
          refine SB.mul ⟨?_, fun _ _ => ?_, fun _ _ => ?_⟩ fun t' k' => ⟨.str (Txt.mul xs k), H, I.tok _, ⟨_, rfl⟩, f.here st (.inl (.str _))⟩
          · rw [Bool.or_eq_false_iff]
            exact ⟨decide_eq_false (by omega), decide_eq_false (by omega)⟩
          · have h6 : (2 ^ 63 - 1) / k ≥ 1000 := by
              rw [ge_iff_le, Int.le_ediv_iff_mul_le (by omega)]
              omega
            omega
          · show decide (_ > _) = false
            rw [decide_eq_false_iff_not, sizeLine_eq]
            have h6 : xs.length * k.toNat ≤ 1000 * 1000 := Nat.mul_le_mul h3 (by omega)
            omega
        · rw [if_neg h3] at he'; cases he'
      | _ => cases he
    | _ => cases y <;> cases he
  | FloorDiv =>
    cases hop
    cases x with
    | int i =>
      cases y with
      | int j =>
        have he' : (if 0 < j ∧ j < 1073741824 then some (PV.int (i / j)) else none) = some z := he
        by_cases h3 : 0 < j ∧ j < 1073741824
        · rw [if_pos h3] at he'
          cases he'
          rw [rx.int] at ru
          rw [ry.int] at ru'
          exact op_fdiv pins s σ H _ _ _ _ Q I ru ru' ⟨i, j, rfl, rfl, h3, f.here st (.inl (.int _))⟩
        · rw [if_neg h3] at he'; cases he'
      | _ => cases he
    | _ => cases y <;> cases he
  | Mod =>
    cases hop
    cases x with
    | int i =>
      cases y with
      | int j =>
        have he' : (if 0 < j then some (PV.int (i % j)) else none) = some z := he
        by_cases h3 : 0 < j
        · rw [if_pos h3] at he'
          cases he'
          rw [rx.int] at ru
          rw [ry.int] at ru'
          exact op_mod pins s σ H _ _ _ _ Q I ru ru' ⟨i, j, rfl, rfl, h3, f.here st (.inl (.int _))⟩
        · rw [if_neg h3] at he'; cases he'
      | _ => cases he
    | _ => cases y <;> cases he
  | Pow =>
    cases hop
    cases x with
    | int i =>
      cases y with
      | int j =>
        have he' : (if 0 ≤ j ∧ j ≤ 1000000 ∧ i.natAbs < 2 ^ 64 then some (PV.int (i ^ j.toNat)) else none) = some z := he
        by_cases h3 : 0 ≤ j ∧ j ≤ 1000000 ∧ i.natAbs < 2 ^ 64
        · rw [if_pos h3] at he'
          cases he'
          rw [rx.int] at ru
          rw [ry.int] at ru'
          exact op_pow pins s σ H _ _ _ _ Q I ru ru' ⟨i, j, rfl, rfl, h3, f.here st (.inl (.int _))⟩
        · rw [if_neg h3] at he'; cases he'
      | _ => cases he
    | _ => cases y <;> cases he
  | _ => cases hop
end
end EV

/-! EvE: comparisons, places, truth, built-ins. -/
namespace EV
open PySem L2
section
variable {X : Cx} {F : Hp} {α : List Addr} {H : Hp} {S : Sto} {q : Bool} {pins : List (Addr × Obj)} {s : Shared} {σ : L2.St} {Q : VK}
theorem map_inv {A B : Type} {o : Option A} {f : A → B} {b : B} (h : o.map f = some b) : ∃ a, o = some a ∧ f a = b := by
  cases o with
  | none => cases h
  | some a => cases h; exact ⟨a, rfl, rfl⟩
theorem bindO_inv {A B : Type} {o : Option A} {f : A → Option B} {b : B} (h : o.bind f = some b) : ∃ a, o = some a ∧ f a = some b := by
  cases o with
  | none => cases h
  | some a => exact ⟨a, rfl, h⟩
theorem eqP_inv {a b : PV} {c : Bool} (h : eqP a b = some c) : ∃ d e, toD a = some d ∧ toD b = some e ∧ SeqAt.shaped d = true ∧ SeqAt.shaped e = true ∧ c = PyData.eqv d e := by
  unfold eqP at h
  cases h1 : toD a with
  | none => rw [h1] at h; cases h
  | some d =>
    cases h2 : toD b with
    | none => rw [h1, h2] at h; cases h
    | some e =>
      rw [h1, h2] at h
      simp only at h
      by_cases h3 : shD d = true ∧ shD e = true
      · rw [if_pos h3] at h
        cases h
        exact ⟨d, e, rfl, rfl, h3.1, h3.2, rfl⟩
      · rw [if_neg h3] at h; cases h
theorem inP_inv {a : PV} {ys : List PV} {c : Bool} (h : inP a ys = some c) : ∃ d es, toD a = some d ∧ toDs ys = some es ∧ SeqAt.shaped d = true ∧ SeqAt.shaped (.list es) = true ∧ c = es.any fun z => PyData.eqv z d := by
  unfold inP at h
  cases h1 : toD a with
  | none => rw [h1] at h; cases h
  | some d =>
    cases h2 : toDs ys with
    | none => rw [h1, h2] at h; cases h
    | some e =>
      rw [h1, h2] at h
      simp only at h
      by_cases h3 : shD d = true ∧ shD (.list e) = true
      · rw [if_pos h3] at h
        cases h
        exact ⟨d, e, rfl, rfl, h3.1, h3.2, rfl⟩
      · rw [if_neg h3] at h; cases h
theorem sign1_inv {c : Str} {n : Nat} (h : sign1 c = some n) : c = ⟨#[n]⟩ := by
  obtain ⟨a⟩ := c
  unfold sign1 at h
  cases e : a.toList with
  | nil => simp only [e] at h; cases h
  | cons x r =>
    cases r with
    | nil =>
      simp only [e] at h
      cases h
      congr
      exact Array.toList_inj.mp e
    | cons y r => simp only [e] at h; cases h
theorem RpQ.is_non {x : PV} {v : V} (h : RpQ X.K F α H true x v) : decide (v = .non) = isNon x := by
  rcases h with h | ⟨_, xs, h2, a, vs, h3, _⟩
  · cases h <;> rfl
  · subst h2 h3
    rfl
theorem cmpOp_ok {op : CmpOp} {o : COp} {x y : PV} {c : Bool} {v w : V} {u u' : Value} (hu : X.A.units + 65 < cLine) (hop : copOf op = some o) (he : cmpOp S o x y = some c) (st : StR X.K F α S H) (I : Inv X pins σ H s)
    (rx : RpQ X.K F α H true x v) (ry : RpQ X.K F α H true y w) (ru : RelV v u) (ru' : RelV w u') (f : Q (.bl c) H) :
    wpAny (model X.prog X.w) X.A (compareOp op u u') (EP X pins σ Q) X.xe s := by
  have lists : ∀ {b : Bool}, ((lstOf S y).bind fun ys => inP x ys) = some b → ∃ d es, Dp X.K H v d ∧ Dp X.K H w (.list es) ∧ SeqAt.shaped d = true ∧ SeqAt.shaped (.list es) = true ∧ b = es.any fun z => PyData.eqv z d := by
    intro b h
    obtain ⟨ys, h1, h2⟩ := bindO_inv h
    obtain ⟨d, es, h3, h4, h5, h6, h7⟩ := inP_inv h2
    obtain ⟨a, vs, rfl, ha, ra⟩ := ry.lstOf st h1
    refine ⟨d, es, rx.dp st (x := x) ?_, .lst (SqL.of ha) (ra.dp st.sub h4), h5, h6, h7⟩
    cases x with
    | ref n => simp only [toD] at h3; cases h3
    | _ => exact h3
  have tups : ∀ {ys : List PV} {b : Bool}, y = .tup ys → inT x ys = some b → ∃ p vs, w = .ref p ∧ (SqL X.K H p vs ∨ SqT X.K H p vs) ∧ flatV v = true ∧ vs.all flatV = true ∧ b = inV v vs := by
    intro ys b hy h
    subst hy
    obtain ⟨v1, h1, h2⟩ := bindO_inv h
    obtain ⟨ws, h3, h4⟩ := map_inv h2
    obtain ⟨a, vs, rfl, ha, ra⟩ := ry.tup
    obtain ⟨e1, f1⟩ := ra.flVs h3
    have hv : v = v1 ∧ flatV v = true := by
      rcases rx with rx | ⟨_, xs, h6, _⟩
      · exact rx.flV h1
      · subst h6; cases h1
    refine ⟨a, vs, rfl, .inr (Same.seqT st.sub ha), hv.2, f1, ?_⟩
    rw [← h4, e1, hv.1]
  cases op with
  | Eq =>
    cases hop
    have key : (∃ i j, x = .str i ∧ y = .str j ∧ c = decide (i = j)) ∨ eqP (look S x) (look S y) = some c := by cases x <;> first | exact .inr he | (cases y <;> first | exact .inr he | (cases he; exact .inl ⟨_, _, rfl, rfl, rfl⟩))
    rcases key with ⟨i, j, rfl, rfl, rfl⟩ | h
    · rw [rx.str] at ru
      rw [ry.str] at ru'
      refine op_eq pins s σ H _ _ _ _ Q I ru ru' ⟨rfl, ?_⟩
      have e : decide (V.str i = V.str j) = decide (i = j) := by simp
      rw [e]
      exact f
    obtain ⟨d, e, h1, h2, h3, h4, rfl⟩ := eqP_inv h
    exact op_eqD (by omega) pins s σ H _ _ _ _ Q I ru ru' ⟨d, e, rx.dp st h1, ry.dp st h2, h3, h4, f⟩
  | NotEq =>
    cases hop
    have key : (∃ i j, x = .str i ∧ y = .str j ∧ c = !decide (i = j)) ∨ (eqP (look S x) (look S y)).map (!·) = some c := by cases x <;> first | exact .inr he | (cases y <;> first | exact .inr he | (cases he; exact .inl ⟨_, _, rfl, rfl, rfl⟩))
    rcases key with ⟨i, j, rfl, rfl, rfl⟩ | h
    · rw [rx.str] at ru
      rw [ry.str] at ru'
      refine op_ne pins s σ H _ _ _ _ Q I ru ru' ⟨rfl, ?_⟩
      have e : decide (V.str i = V.str j) = decide (i = j) := by simp
      rw [e]
      exact f
    obtain ⟨b, hb, rfl⟩ := map_inv h
    obtain ⟨d, e, h1, h2, h3, h4, rfl⟩ := eqP_inv hb
    exact op_neD (by omega) pins s σ H _ _ _ _ Q I ru ru' ⟨d, e, rx.dp st h1, ry.dp st h2, h3, h4, f⟩
  | Lt =>
    cases hop
    cases x <;> cases y <;> first
      | (cases he; rw [rx.int] at ru; rw [ry.int] at ru'; exact op_lt pins s σ H _ _ _ _ Q I ru ru' ⟨_, _, rfl, rfl, f⟩)
      | (cases he; rw [rx.str] at ru; rw [ry.str] at ru'; exact op_lt_str pins s σ H _ _ _ _ Q I ru ru' ⟨_, _, rfl, rfl, f⟩)
      | cases he
  | LtE =>
    cases hop
    cases x <;> cases y <;> first
      | (cases he; rw [rx.int] at ru; rw [ry.int] at ru'; exact op_le pins s σ H _ _ _ _ Q I ru ru' ⟨_, _, rfl, rfl, f⟩)
      | (cases he; rw [rx.str] at ru; rw [ry.str] at ru'; exact op_le_str pins s σ H _ _ _ _ Q I ru ru' ⟨_, _, rfl, rfl, f⟩)
      | cases he
  | Gt =>
    cases hop
    cases x <;> cases y <;> first
      | (cases he; rw [rx.int] at ru; rw [ry.int] at ru'; exact op_gt pins s σ H _ _ _ _ Q I ru ru' ⟨_, _, rfl, rfl, f⟩)
      | cases he
  | GtE =>
    cases hop
    cases x <;> cases y <;> first
      | (cases he; rw [rx.int] at ru; rw [ry.int] at ru'; exact op_ge pins s σ H _ _ _ _ Q I ru ru' ⟨_, _, rfl, rfl, f⟩)
      | cases he
  | Is =>
    cases hop
    cases y with
    | non =>
      have he' : some (isNon x) = some c := by cases x <;> exact he
      rw [← rx.is_non] at he'
      cases he'
      exact op_isN pins s σ H _ _ _ _ Q I ru ru' ⟨ry.non, f⟩
    | bl j =>
      cases x with
      | bl i =>
        cases he
        exact op_isBl pins s σ H _ _ _ _ Q I ru ru' ⟨i, j, rx.bl, ry.bl, f⟩
      | _ => cases he
    | _ => cases x <;> cases he
  | IsNot =>
    cases hop
    cases y with
    | non =>
      have he' : some (!isNon x) = some c := by cases x <;> exact he
      rw [← rx.is_non] at he'
      cases he'
      exact op_notN pins s σ H _ _ _ _ Q I ru ru' ⟨ry.non, f⟩
    | bl j =>
      cases x with
      | bl i =>
        cases he
        exact op_notBl pins s σ H _ _ _ _ Q I ru ru' ⟨i, j, rx.bl, ry.bl, f⟩
      | _ => cases he
    | _ => cases x <;> cases he
  | In =>
    cases hop
    cases y with
    | str z =>
      cases x with
      | str cc =>
        obtain ⟨n, h1, rfl⟩ := map_inv (show (sign1 cc).map (fun n => decide (n ∈ z.cps.toList)) = some c from he)
        have e := sign1_inv h1
        subst e
        exact op_in_sign pins s σ H _ _ _ _ Q I ru ru' ⟨n, z, rx.str, ry.str, f⟩
      | _ => cases he
    | tup ys =>
      have he' : inT x ys = some c := by cases x <;> exact he
      obtain ⟨p, vs, rfl, h1, h2, h3, rfl⟩ := tups rfl he'
      exact op_in_seq pins s σ H _ _ _ _ Q I ru ru' ⟨p, vs, rfl, h1, h2, h3, f⟩
    | lst ys =>
      have he' : ((lstOf S (.lst ys)).bind fun ys => inP x ys) = some c := by cases x <;> exact he
      obtain ⟨d, es, h1, h2, h3, h4, rfl⟩ := lists he'
      exact op_inD hu pins s σ H _ _ _ _ Q I ru ru' ⟨d, es, h1, h2, h3, h4, f⟩
    | ref n =>
      have he' : ((lstOf S (.ref n)).bind fun ys => inP x ys) = some c := by cases x <;> exact he
      obtain ⟨d, es, h1, h2, h3, h4, rfl⟩ := lists he'
      exact op_inD hu pins s σ H _ _ _ _ Q I ru ru' ⟨d, es, h1, h2, h3, h4, f⟩
    | _ => cases x <;> cases he
  | NotIn =>
    cases hop
    cases y with
    | str z =>
      cases x with
      | str cc =>
        obtain ⟨n, h1, rfl⟩ := map_inv (show (sign1 cc).map (fun n => !decide (n ∈ z.cps.toList)) = some c from he)
        have e := sign1_inv h1
        subst e
        exact op_notIn_sign pins s σ H _ _ _ _ Q I ru ru' ⟨n, z, rx.str, ry.str, f⟩
      | _ => cases he
    | tup ys =>
      have he' : (inT x ys).map (!·) = some c := by cases x <;> exact he
      obtain ⟨b, h0, rfl⟩ := map_inv he'
      obtain ⟨p, vs, rfl, h1, h2, h3, rfl⟩ := tups rfl h0
      exact op_notIn_seq pins s σ H _ _ _ _ Q I ru ru' ⟨p, vs, rfl, h1, h2, h3, f⟩
    | lst ys =>
      have he' : ((lstOf S (.lst ys)).bind fun ys => inP x ys).map (!·) = some c := by cases x <;> exact he
      obtain ⟨b, h0, rfl⟩ := map_inv he'
      obtain ⟨d, es, h1, h2, h3, h4, rfl⟩ := lists h0
      exact op_notInD hu pins s σ H _ _ _ _ Q I ru ru' ⟨d, es, h1, h2, h3, h4, f⟩
    | ref n =>
      have he' : ((lstOf S (.ref n)).bind fun ys => inP x ys).map (!·) = some c := by cases x <;> exact he
      obtain ⟨b, h0, rfl⟩ := map_inv he'
      obtain ⟨d, es, h1, h2, h3, h4, rfl⟩ := lists h0
      exact op_notInD hu pins s σ H _ _ _ _ Q I ru ru' ⟨d, es, h1, h2, h3, h4, f⟩
    | _ => cases x <;> cases he

/-! ### places -/
theorem atI_rel {xs : List PV} {vs : List V} (r : RpL X.K F α xs vs) {i : Int} {x : PV} (h : atI xs i = some x) : ∃ v, atI vs i = some v ∧ Rp X.K F α x v := by
  obtain ⟨j, h1, h2⟩ := bindO_inv h
  obtain ⟨v, h3, h4⟩ := r.get h2
  refine ⟨v, ?_, h4⟩
  unfold atI
  rw [← r.length, h1]
  exact h3
theorem idxP_ok {x y z : PV} {v w : V} (he : idxP S x y = some z) (st : StR X.K F α S H)
    (rx : RpQ X.K F α H true x v) (ry : RpQ X.K F α H q y w) (f : ∀ r, Rp X.K F α z r → Q r H) : rIx X.K v w H Q := by
  cases y with
  | int k =>
    cases x with
    | str t =>
      have he' : (if t.length ≤ sizeLine then (atI t.cps.toList k).map fun c => PV.str ⟨#[c]⟩ else none) = some z := he
      by_cases h : t.length ≤ sizeLine
      · rw [if_pos h] at he'
        obtain ⟨c, h1, rfl⟩ := map_inv he'
        exact .inr (.inr ⟨t, k, c, rx.str, ry.int, h, h1, f _ (.str _)⟩)
      · rw [if_neg h] at he'; cases he'
    | tup xs =>
      obtain ⟨a, vs, rfl, ha, ra⟩ := rx.tup
      obtain ⟨r, h1, h2⟩ := atI_rel ra (show atI xs k = some z from he)
      exact .inr (.inl ⟨a, vs, k, r, rfl, ry.int, Same.seqT st.sub ha, h1, f _ h2⟩)
    | lst xs =>
      obtain ⟨a, vs, rfl, ha, ra⟩ := rx.lst st
      obtain ⟨r, h1, h2⟩ := atI_rel ra (show atI xs k = some z from he)
      exact .inl ⟨a, vs, k, r, rfl, ry.int, SqL.of ha, h1, f _ h2⟩
    | ref n =>
      obtain ⟨xs, h0, he'⟩ := bindO_inv (show ((seqOf S (.ref n)).bind fun xs => atI xs k) = some z from he)
      obtain ⟨a, vs, rfl, ha, ra⟩ := rx.lstOf st (show lstOf S (.ref n) = some xs from h0)
      obtain ⟨r, h1, h2⟩ := atI_rel ra he'
      exact .inl ⟨a, vs, k, r, rfl, ry.int, SqL.of ha, h1, f _ h2⟩
    | _ => cases he
  | _ => cases x <;> cases he
theorem cut_rel {xs : List PV} {vs : List V} (r : RpL X.K F α xs vs) (lo hi : Option Int) : RpL X.K F α (cutP xs lo hi) (cutV vs lo hi) := by
  unfold cutP cutV
  rw [r.length]
  exact (r.drop _).take _
def rSlX (K : PySem.W.Frag) : V → Option Int → Option Int → Hp → VK → Prop := fun x lo hi H Q => rSlA K x lo hi H Q ∨ rSlL K x lo hi H Q
theorem sl_X : SlR X (rSlX X.K) := sl_tupA.or sl_list
theorem sliP_ok {x z : PV} {lo hi : Option Int} {v : V} (he : sliP S x lo hi = some z) (st : StR X.K F α S H) (rx : RpQ X.K F α H true x v) (f : FinE X q F α H z S Q) : rSlX X.K v lo hi H Q := by
  have go : ∀ xs, lstOf S x = some xs → z = .lst (cutP xs lo hi) → rSlX X.K v lo hi H Q := by
    rintro xs h rfl
    obtain ⟨a, vs, rfl, ha, ra⟩ := rx.lstOf st h
    exact .inr ⟨a, vs, rfl, SqL.of ha, fun p hp => fin_lst st f (cut_rel ra lo hi) hp⟩
  cases x with
  | tup xs =>
    cases he
    obtain ⟨a, vs, rfl, ha, ra⟩ := rx.tup
    refine .inl ⟨a, vs, rfl, Same.seqT st.sub ha, fun hw => ?_, fun _ p hp => fin_tup st f (cut_rel ra lo hi) hp⟩
    have e : cutP xs lo hi = xs := by
      unfold cutP
      rw [ra.length, hw.1, hw.2]
      simp [← ra.length]
    rw [e] at f
    exact f.here st (.inl (.tup ha ra))
  | lst xs => cases he; exact go xs rfl rfl
  | ref n =>
    obtain ⟨xs, h1, h2⟩ := map_inv (show (lstOf S (.ref n)).map (fun xs => PV.lst (cutP xs lo hi)) = some z from he)
    exact go xs h1 h2.symm
  | _ => cases he
/-! ### truth -/
theorem isEmpty_rel {xs : List PV} {vs : List V} (r : RpL X.K F α xs vs) : (!xs.isEmpty) = !vs.isEmpty := by
  cases r <;> rfl
theorem truP_ok {x : PV} {k : Bool} {v : V} (he : truP S x = some k) (st : StR X.K F α S H) (rx : RpQ X.K F α H true x v) : TruV X.K v H k := by
  have go : ∀ xs, seqOf S x = some xs → k = (!xs.isEmpty) → TruV X.K v H k := by
    rintro xs h rfl
    obtain ⟨a, vs, rfl, ha, ra⟩ := rx.seqOf st h
    rw [isEmpty_rel ra]
    rcases ha with ha | ha
    · exact .inl ⟨vs, SqL.of ha, rfl⟩
    · exact .inr (.inl ⟨vs, ha, rfl⟩)
  cases x with
  | non => cases he; rw [rx.non]; exact (rfl : false = false)
  | bl b => cases he; rw [rx.bl]; exact rfl
  | int i => cases he; rw [rx.int]; exact rfl
  | str y =>
    have he' : (if y.length ≤ sizeLine then some ((y.length : Int) != 0) else none) = some k := he
    by_cases h : y.length ≤ sizeLine
    · rw [if_pos h] at he'
      cases he'
      rw [rx.str]
      exact ⟨h, rfl⟩
    · rw [if_neg h] at he'; cases he'
  | tup ys => obtain ⟨xs, h1, h2⟩ := map_inv (show (seqOf S (.tup ys)).map (fun xs => !xs.isEmpty) = some k from he); exact go xs h1 h2.symm
  | lst ys => obtain ⟨xs, h1, h2⟩ := map_inv (show (seqOf S (.lst ys)).map (fun xs => !xs.isEmpty) = some k from he); exact go xs h1 h2.symm
  | ref n => obtain ⟨xs, h1, h2⟩ := map_inv (show (seqOf S (.ref n)).map (fun xs => !xs.isEmpty) = some k from he); exact go xs h1 h2.symm
  | scr ns => obtain ⟨xs, h1, h2⟩ := map_inv (show (seqOf S (.scr ns)).map (fun xs => !xs.isEmpty) = some k from he); cases h1
/-! ### isinstance -/
theorem tyP_ok {x : PV} {t : String} {v : V} (he : tyP S x = some t) (st : StR X.K F α S H) (rx : RpQ X.K F α H true x v) : TyX X.K H v (.type t) := by
  have lsts : ∀ xs, lstOf S x = some xs → t = "list" → TyX X.K H v (.type t) := by
    rintro xs h rfl
    obtain ⟨a, vs, rfl, ha, ra⟩ := rx.lstOf st h
    exact .base (.lst ha)
  cases x with
  | non => cases he; rw [rx.non]; exact .base .non
  | bl b => cases he; rw [rx.bl]; exact .base (.bl b)
  | int i => cases he; rw [rx.int]; exact .base (.int i)
  | str y => cases he; rw [rx.str]; exact .base (.str y)
  | tup xs =>
    cases he
    obtain ⟨a, vs, rfl, ha, ra⟩ := rx.tup
    rcases Same.seqT st.sub ha with (h | ⟨o, h⟩) | ⟨o, its, n, h1, h2, _⟩
    · exact .base (.tup h)
    · exact .fTuple h
    · exact .kTuple h1 h2
  | lst xs => cases he; exact lsts xs rfl rfl
  | ref n =>
    have he' : (match S[n]? with
      | some (.lst _) => some "list"
      | none => none) = some t := he
    cases h : S[n]? with
    | none => rw [h] at he'; cases he'
    | some so =>
      rw [h] at he'
      cases so with
      | lst zs =>
        cases he'
        exact lsts zs (by show (match S[n]? with
          | some (.lst xs) => some xs
          | none => none) = some zs; rw [h]) rfl
  | scr ns => cases he
theorem isSub_ok {K : PySem.W.Frag} {t c : String} (ht : t ∈ ["NoneType", "bool", "int", "str", "tuple", "list"]) (hc : c ∈ ["bool", "int", "str", "tuple", "list"]) : PySem.W.kitOne K (.type t) (.type c) = some (isSub t c) := by
  refine kit_ty ?_
  have h : (["NoneType", "bool", "int", "str", "tuple", "list"].all fun t => ["bool", "int", "str", "tuple", "list"].all fun c => decide (kitB t c = some (isSub t c))) = true := by decide +kernel
  exact of_decide_eq_true (List.all_eq_true.mp (List.all_eq_true.mp h t ht) c hc)
theorem tyP_mem {x : PV} {t : String} (he : tyP S x = some t) : t ∈ ["NoneType", "bool", "int", "str", "tuple", "list"] := by
  cases x with
  | ref n =>
    have he' : (match S[n]? with
      | some (.lst _) => some "list"
      | none => none) = some t := he
    cases h : S[n]? with
    | none => rw [h] at he'; cases he'
    | some so => rw [h] at he'; cases so; cases he'; simp
  | scr ns => cases he
  | _ => cases he; simp
end
end EV

/-! EvF: each construct of an expression. -/
namespace EV
open PySem PySem.Spec PyProof.Rows L2
section
variable {X : Cx} {cal : Nat → List PV → M PV} {W : XW} {q : Bool} {pos : Pos}
abbrev tEX (X : Cx) (cal : Nat → List PV → M PV) (W : XW) (q : Bool) (e : E) : TE := tE X.K cal W q e
/-- one expression, then what is done with it -/
theorem one {K : PySem.W.Frag} {a : E} {F : Hp} {α : List Addr} {ρ : Env} {S : Sto} {σ : L2.St} {H : Hp} {C : PV → Sto → Prop} (st : StR K F α S H) (en : EnR K F α ρ σ H) (h : (evE cal q a ρ S).wp C (FinX K W F α H)) :
    tE K cal W q a σ H fun v H1 => ∃ F1 α1 S1 x, Ext F α H F1 α1 H1 ∧ StR K F1 α1 S1 H1 ∧ RpQ K F1 α1 H1 q x v ∧ C x S1 :=
  ⟨F, α, ρ, S, st, en, h.mono (fun x S1 c F1 α1 H1 v e st1 r => ⟨F1, α1, S1, x, e, st1, r, c⟩) fun _ _ z => z⟩
/-- two in a row -/
theorem two {K : PySem.W.Frag} {a b : E} {q2 : Bool} {F : Hp} {α : List Addr} {ρ : Env} {S : Sto} {σ : L2.St} {H : Hp} {C : PV → PV → Sto → Prop} (st : StR K F α S H) (en : EnR K F α ρ σ H)
    (h : (evE cal q a ρ S).wp (fun x S1 => (evE cal q2 b ρ S1).wp (C x) (FinX K W F α H)) (FinX K W F α H)) :
    tE K cal W q a σ H fun v H1 => tE K cal W q2 b σ H1 fun w H2 => ∃ F2 α2 S2 x y, Ext F α H F2 α2 H2 ∧ StR K F2 α2 S2 H2 ∧ RpQ K F2 α2 H2 q x v ∧ RpQ K F2 α2 H2 q2 y w ∧ C x y S2 :=
  ⟨F, α, ρ, S, st, en, h.mono (fun x S1 c F1 α1 H1 v e st1 r => ⟨F1, α1, ρ, S1, st1, en.ext e, c.mono (fun y S2 d F2 α2 H2 w g st2 r2 => ⟨F2, α2, S2, x, y, e.trans g, st2, g.rpq r, r2, d⟩) fun _ _ z => z.behind e⟩) fun _ _ z => z⟩

theorem f_cst {e : Expr} {x : PV} {v : V} (h : PE X e (tC v)) (r : ∀ F α, Rp X.K F α x v) : PE X e (tEX X cal W q (.cst x)) :=
  pe_imp h fun σ H Q ⟨F, α, ρ, S, st, en, w⟩ => (show Q v H from Fin.here (R := fun F α H => RpQ X.K F α H q) (by simp only [evE, wp_pure] at w; exact w) st (.inl (r F α)))
theorem f_var {x : Str} {i : Nat} (hN : X.N[i]? = some x) (hv : Vis X.env.scope x) (hd : (x == ("__debug__" : Str)) = false) (hc : (x == ("__classdict__" : Str)) = false) : PE X (.Name x pos) (tEX X cal W q (.var i)) :=
  pe_imp (pe_var hN hv hd hc) fun σ H Q ⟨F, α, ρ, S, st, en, w⟩ => by
    simp only [evE] at w
    unfold getV at w
    cases e : ρ[i]? with
    | none => rw [e] at w; exact w.elim
    | some o =>
      rw [e] at w
      cases o with
      | none => exact w.elim
      | some sv =>
        obtain ⟨v, h1, h2⟩ := en.sl i sv e
        cases sv with
        | val x => exact ⟨v, h1, Fin.here (R := fun F α H => RpQ X.K F α H q) w st (.inl h2)⟩
        | own xs =>
          have w' : ((if q = true then pure (PV.lst xs) else stuck : M PV) S).wp (fun x S' => Fin X.K (fun F' α' H' => RpQ X.K F' α' H' q) F α H x S' Q) (FinX X.K W F α H) := w
          rw [wp_ite] at w'
          by_cases hq : q = true
          · rw [if_pos hq] at w'
            exact ⟨v, h1, Fin.here (R := fun F α H => RpQ X.K F α H q) w' st (.inr ⟨hq, xs, rfl, h2⟩)⟩
          · rw [if_neg hq] at w'
            exact w'.elim
theorem f_bin {a b : Expr} {op : Operator} {o : BOp} {ia ib : E} (hop : bopOf op = some o) (ha : PE X a (tEX X cal W true ia)) (hb : PE X b (tEX X cal W true ib)) : PE X (.BinOp a op b pos) (tEX X cal W q (.bin o ia ib)) := by
  refine ⟨fun pins s σ H Q I ⟨F, α, ρ, S, st, en, w⟩ => ?_⟩
  simp only [evE, wp_bind, wp_getS, wp_ofO] at w
  refine wpAny_BinOp (binT ha hb I (two st en w) fun v u s2 x y H2 I2 rv ru hq => ?_)
  obtain ⟨F2, α2, S2, px, py, e, st2, rx, ry, z, hz, fz⟩ := hq
  exact binOp_ok hop hz st2 I2 rx ry rv ru (Fin.behind (R := fun F' α' H' => RpQ X.K F' α' H' q) fz e)
theorem asInt_wp {v : PV} {s : Sto} {N : Int → Sto → Prop} {E : Exc → Sto → Prop} (h : (asInt v s).wp N E) : ∃ i, v = .int i ∧ N i s := by
  cases v <;> first
    | exact ⟨_, rfl, h⟩
    | exact h.elim
theorem asBl_wp {v : PV} {s : Sto} {N : Bool → Sto → Prop} {E : Exc → Sto → Prop} (h : (asBl v s).wp N E) : ∃ i, v = .bl i ∧ N i s := by
  cases v <;> first
    | exact ⟨_, rfl, h⟩
    | exact h.elim
theorem asStr_wp {v : PV} {s : Sto} {N : Str → Sto → Prop} {E : Exc → Sto → Prop} (h : (asStr v s).wp N E) : ∃ i, v = .str i ∧ N i s := by
  cases v <;> first
    | exact ⟨_, rfl, h⟩
    | exact h.elim
theorem f_neg {a : Expr} {ia : E} (ha : PE X a (tEX X cal W false ia)) : PE X (.UnaryOp .USub a pos) (tEX X cal W q (.neg ia)) :=
  pe_imp (pe_un un_neg ha) fun σ H Q ⟨F, α, ρ, S, st, en, w⟩ => by
    simp only [evE, wp_bind] at w
    refine ⟨F, α, ρ, S, st, en, w.mono (fun x S1 c F1 α1 H1 v e st1 r => ?_) fun _ _ z => z⟩
    obtain ⟨i, rfl, c⟩ := asInt_wp c
    exact ⟨i, r.int, Fin.here (R := fun F' α' H' => RpQ X.K F' α' H' q) (c.behind e) st1 (.inl (.int _))⟩
theorem f_cmp {a b : Expr} {op : CmpOp} {o : COp} {ia ib : E} (hu : X.A.units + 65 < cLine) (hm : behindInMarks op b = false) (hop : copOf op = some o) (ha : PE X a (tEX X cal W true ia)) (hb : PE X b (tEX X cal W true ib)) : PE X (.Compare a [op] [b] pos) (tEX X cal W q (.cmp o ia ib)) := by
  refine ⟨fun pins s σ H Q I ⟨F, α, ρ, S, st, en, w⟩ => ?_⟩
  simp only [evE, wp_bind, wp_getS, wp_ofO, wp_pure] at w
  refine wpAny_Compare1 (binT ha hb I (two st en w) fun v u s2 x y H2 I2 rv ru hq => ?_) hm
  obtain ⟨F2, α2, S2, px, py, e, st2, rx, ry, z, hz, fz⟩ := hq
  exact cmpOp_ok hu hop hz st2 I2 rx ry rv ru (Fin.here (R := fun F' α' H' => RpQ X.K F' α' H' q) (Fin.behind fz e) st2 (.inl (.bl _)))
/-- the same as a test -/
theorem f_cmpT {a b : Expr} {op : CmpOp} {o : COp} {ia ib : E} (hu : X.A.units + 65 < cLine) (hm : behindInMarks op b = false) (hop : copOf op = some o) (ha : PE X a (tEX X cal W true ia)) (hb : PE X b (tEX X cal W true ib)) : PT X (.Compare a [op] [b] pos) (tT X.K cal W (.val (.cmp o ia ib))) := by
  refine ⟨fun pins s σ H Q I ⟨F, α, ρ, S, st, en, w⟩ => ?_⟩
  simp only [evT, evE, wp_bind, wp_getS, wp_ofO, wp_pure] at w
  refine wpAny_isTrue_Compare1 (binT ha hb I (two st en w) fun v u s2 x y H2 I2 rv ru hq => ?_) hm
  obtain ⟨F2, α2, S2, px, py, e, st2, rx, ry, z, hz, k, hk, fz⟩ := hq
  cases hk
  refine thn (cmpOp_ok (Q := fun v H => v = .bl z ∧ Q z H) hu hop hz st2 I2 rx ry rv ru ⟨rfl, Fin.here (R := fun _ _ _ (x v : Bool) => v = x) (fz.behind e) st2 rfl⟩) fun c s3 ⟨zv, H3, I3, r3, e3, q3⟩ => ?_
  subst e3
  cases r3
  exact wpAny_truthy_bool ⟨H3, I3, q3⟩
theorem f_chn {a b c : Expr} {op op' : CmpOp} {o o' : COp} {ia ib ic : E} (hu : X.A.units + 65 < cLine) (hm : lastMarks [op, op'] [b, c] = false) (hop : copOf op = some o) (hop' : copOf op' = some o')
    (ha : PE X a (tEX X cal W true ia)) (hb : PE X b (tEX X cal W true ib)) (hc : PE X c (tEX X cal W true ic)) : PE X (.Compare a [op, op'] [b, c] pos) (tEX X cal W q (.chn o o' ia ib ic)) := by
  refine ⟨fun pins s σ H Q I ⟨F, α, ρ, S, st, en, w⟩ => ?_⟩
  simp only [evE, wp_bind, wp_getS, wp_ofO, wp_pure, wp_ite] at w
  have h2 := two st en w
  refine Compare_chain (thn (ha.run pins s σ H _ I h2) fun v s1 ⟨x, H1, I1, r1, q1⟩ => chain_link (thn (hb.run pins s1 σ H1 _ I1 q1) fun u s2 ⟨y, H2, I2, r2, q2⟩ => ?_)) hm
  obtain ⟨F2, α2, S2, px, py, e, st2, rx, ry, z, hz, fz⟩ := q2
  refine thn (cmpOp_ok (Q := fun v H => v = .bl z ∧ H = H2) hu hop hz st2 I2 rx ry r1 r2 ⟨rfl, rfl⟩) fun d s3 ⟨zv, H3, I3, r3, e3, e4⟩ => ?_
  subst e3 e4
  cases r3
  refine wpAny_truthy_bool ?_
  cases z with
  | false =>
    rw [if_neg Bool.false_ne_true] at fz
    exact ite_ff ⟨.bl false, H3, I3, rfl, Fin.here (R := fun F' α' H' => RpQ X.K F' α' H' q) (fz.behind e) st2 (.inl (.bl _))⟩
  | true =>
    rw [if_pos rfl] at fz
    refine ite_tt (chain_last (thn (hc.run pins s3 σ H3 _ I3 (one st2 (en.ext e) (fz.mono (fun _ _ c => c) fun _ _ x => x.behind e))) fun w' s4 ⟨z', H4, I4, r4, F4, α4, S4, pz, e4, st4, rz, k2, hk2, f4⟩ => ?_))
    exact cmpOp_ok hu hop' hk2 st4 I4 (e4.rpq ry) rz r2 r4 (Fin.here (R := fun F' α' H' => RpQ X.K F' α' H' q) (f4.behind (e.trans e4)) st4 (.inl (.bl _)))
theorem f_chnT {a b c : Expr} {op op' : CmpOp} {o o' : COp} {ia ib ic : E} (hu : X.A.units + 65 < cLine) (hm : lastMarks [op, op'] [b, c] = false) (hop : copOf op = some o) (hop' : copOf op' = some o')
    (ha : PE X a (tEX X cal W true ia)) (hb : PE X b (tEX X cal W true ib)) (hc : PE X c (tEX X cal W true ic)) : PT X (.Compare a [op, op'] [b, c] pos) (tT X.K cal W (.val (.chn o o' ia ib ic))) := by
  refine ⟨fun pins s σ H Q I ⟨F, α, ρ, S, st, en, w⟩ => ?_⟩
  simp only [evT, evE, wp_bind, wp_getS, wp_ofO, wp_pure, wp_ite] at w
  have h2 := two st en w
  refine isTrue_chain (thn (ha.run pins s σ H _ I h2) fun v s1 ⟨x, H1, I1, r1, q1⟩ => test_link (thn (hb.run pins s1 σ H1 _ I1 q1) fun u s2 ⟨y, H2, I2, r2, q2⟩ => ?_)) hm
  obtain ⟨F2, α2, S2, px, py, e, st2, rx, ry, z, hz, fz⟩ := q2
  refine thn (cmpOp_ok (Q := fun v H => v = .bl z ∧ H = H2) hu hop hz st2 I2 rx ry r1 r2 ⟨rfl, rfl⟩) fun d s3 ⟨zv, H3, I3, r3, e3, e4⟩ => ?_
  subst e3 e4
  cases r3
  refine wpAny_truthy_bool ?_
  cases z with
  | false =>
    rw [if_neg Bool.false_ne_true] at fz
    obtain ⟨k, hk, f4⟩ := fz
    cases hk
    exact ite_ff ⟨H3, I3, Fin.here (R := fun _ _ _ (x v : Bool) => v = x) (f4.behind e) st2 rfl⟩
  | true =>
    rw [if_pos rfl] at fz
    refine ite_tt (test_last (thn (hc.run pins s3 σ H3 _ I3 (one st2 (en.ext e) (fz.mono (fun _ _ c => c) fun _ _ x => x.behind e))) fun w' s4 ⟨z', H4, I4, r4, F4, α4, S4, pz, e4, st4, rz, k2, hk2, k, hk, f4⟩ => ?_))
    cases hk
    refine thn (cmpOp_ok (Q := fun v H => v = .bl k2 ∧ H = H4) hu hop' hk2 st4 I4 (e4.rpq ry) rz r2 r4 ⟨rfl, rfl⟩) fun d' s5 ⟨z2, H5, I5, r5, e5, e6⟩ => ?_
    subst e5 e6
    cases r5
    exact wpAny_truthy_bool ⟨H5, I5, Fin.here (R := fun _ _ _ (x v : Bool) => v = x) (f4.behind (e.trans e4)) st4 rfl⟩
end
end EV

/-! EvG: truth of expressions, lists, calls. -/
namespace EV
open PySem PySem.Spec PyProof.Rows L2
section
variable {X : Cx} {cal : Nat → List PV → M PV} {W : XW} {q : Bool} {pos : Pos}
theorem f_and {a b : Expr} {rest : List Expr} {ia ib : E} (ha : PE X a (tEX X cal W false ia)) (hb : PE X (.BoolOp .And (b :: rest) pos) (tEX X cal W false ib)) : PE X (.BoolOp .And (a :: b :: rest) pos) (tEX X cal W q (.and ia ib)) :=
  pe_imp (pe_and ha hb) fun σ H Q ⟨F, α, ρ, S, st, en, w⟩ => by
    simp only [evE, wp_bind] at w
    refine ⟨F, α, ρ, S, st, en, w.mono (fun x S1 c F1 α1 H1 v e st1 r => ?_) fun _ _ z => z⟩
    obtain ⟨k, hk, c'⟩ := asBl_wp c
    clear c
    subst hk
    have c := c'
    clear c'
    rw [wp_ite] at c
    refine ⟨k, r.bl, ?_⟩
    cases k with
    | true =>
      rw [if_pos rfl] at c ⊢
      exact ⟨F1, α1, ρ, S1, st1, en.ext e, c.mono (fun y S2 d F2 α2 H2 w2 g st2 r2 => d F2 α2 H2 w2 (e.trans g) st2 (.inl r2.val)) fun _ _ z => z.behind e⟩
    | false =>
      rw [if_neg Bool.false_ne_true] at c ⊢
      exact Fin.here (R := fun F' α' H' => RpQ X.K F' α' H' q) (c.behind e) st1 (.inl (.bl _))
theorem f_or {a b : Expr} {rest : List Expr} {ia ib : E} (ha : PE X a (tEX X cal W false ia)) (hb : PE X (.BoolOp .Or (b :: rest) pos) (tEX X cal W false ib)) : PE X (.BoolOp .Or (a :: b :: rest) pos) (tEX X cal W q (.or ia ib)) :=
  pe_imp (pe_or ha hb) fun σ H Q ⟨F, α, ρ, S, st, en, w⟩ => by
    simp only [evE, wp_bind] at w
    refine ⟨F, α, ρ, S, st, en, w.mono (fun x S1 c F1 α1 H1 v e st1 r => ?_) fun _ _ z => z⟩
    obtain ⟨k, hk, c'⟩ := asBl_wp c
    clear c
    subst hk
    have c := c'
    clear c'
    rw [wp_ite] at c
    refine ⟨k, r.bl, ?_⟩
    cases k with
    | false =>
      rw [if_neg Bool.false_ne_true] at c ⊢
      exact ⟨F1, α1, ρ, S1, st1, en.ext e, c.mono (fun y S2 d F2 α2 H2 w2 g st2 r2 => d F2 α2 H2 w2 (e.trans g) st2 (.inl r2.val)) fun _ _ z => z.behind e⟩
    | true =>
      rw [if_pos rfl] at c ⊢
      exact Fin.here (R := fun F' α' H' => RpQ X.K F' α' H' q) (c.behind e) st1 (.inl (.bl _))
theorem f_not {a : Expr} {ia : E} (ha : PE X a (tEX X cal W false ia)) : PE X (.UnaryOp .Not a pos) (tEX X cal W q (.not ia)) :=
  pe_imp (pe_not ha) fun σ H Q ⟨F, α, ρ, S, st, en, w⟩ => by
    simp only [evE, wp_bind] at w
    refine ⟨F, α, ρ, S, st, en, w.mono (fun x S1 c F1 α1 H1 v e st1 r => ?_) fun _ _ z => z⟩
    obtain ⟨k, hk, c'⟩ := asBl_wp c
    clear c
    subst hk
    have c := c'
    clear c'
    exact ⟨k, r.bl, Fin.here (R := fun F' α' H' => RpQ X.K F' α' H' q) (c.behind e) st1 (.inl (.bl _))⟩
theorem f_ite {t a b : Expr} {it : T} {ia ib : E} (ht : PT X t (tT X.K cal W it)) (ha : PE X a (tEX X cal W q ia)) (hb : PE X b (tEX X cal W q ib)) : PE X (.IfExp t a b pos) (tEX X cal W q (.ite it ia ib)) :=
  pe_imp (pe_ifExp ht ha hb) fun σ H Q ⟨F, α, ρ, S, st, en, w⟩ => by
    simp only [evE, wp_bind, wp_ite] at w
    refine ⟨F, α, ρ, S, st, en, w.mono (fun k S1 c F1 α1 H1 v e st1 r => ?_) fun _ _ z => z⟩
    subst r
    cases v with
    | true =>
      rw [if_pos rfl] at c ⊢
      exact ⟨F1, α1, ρ, S1, st1, en.ext e, c.mono (fun y S2 d => d.behind e) fun _ _ z => z.behind e⟩
    | false =>
      rw [if_neg Bool.false_ne_true] at c ⊢
      exact ⟨F1, α1, ρ, S1, st1, en.ext e, c.mono (fun y S2 d => d.behind e) fun _ _ z => z.behind e⟩
/-! ### tests -/
theorem f_val {a : Expr} {ia : E} (ha : PE X a (tEX X cal W true ia)) (he : ∀ whole, isTrue a X.env whole = (do let v ← whole; standAt a.pos; holding [v] (truthy v))) : PT X a (tT X.K cal W (.val ia)) := by
  refine ⟨fun pins s σ H Q I ⟨F, α, ρ, S, st, en, w⟩ => (pt_truth ha he).run pins s σ H Q I ?_⟩
  simp only [evT, wp_bind, wp_getS, wp_ofO] at w
  refine ⟨F, α, ρ, S, st, en, w.mono (fun x S1 ⟨k, hk, c⟩ F1 α1 H1 v e st1 r => ⟨k, truP_ok hk st1 r, Fin.here (R := fun _ _ _ (x v : Bool) => v = x) (c.behind e) st1 rfl⟩) fun _ _ z => z⟩
theorem pt_imp {e : Expr} {t t' : TT} (h : PT X e t) (m : ∀ σ H Q, t' σ H Q → t σ H Q) : PT X e t' := ⟨fun pins s σ H Q I hq => h.run pins s σ H Q I (m σ H Q hq)⟩
theorem pw_imp {e : Expr} {t t' : TT} (h : PW X e t) (m : ∀ σ H Q, t' σ H Q → t σ H Q) : PW X e t' := ⟨fun wh pins s σ H Q I hq => h.run wh pins s σ H Q I (m σ H Q hq)⟩
theorem f_andT {a b : Expr} {rest : List Expr} {ia ib : T} (ha : PT X a (tT X.K cal W ia)) (hb : PW X (.BoolOp .And (b :: rest) pos) (tT X.K cal W ib)) : PW X (.BoolOp .And (a :: b :: rest) pos) (tT X.K cal W (.and ia ib)) :=
  pw_imp (pw_and ha hb) fun σ H Q ⟨F, α, ρ, S, st, en, w⟩ => by
    simp only [evT, wp_bind, wp_ite] at w
    refine ⟨F, α, ρ, S, st, en, w.mono (fun k S1 c F1 α1 H1 v e st1 r => ?_) fun _ _ z => z⟩
    subst r
    cases v with
    | true =>
      rw [if_pos rfl] at c ⊢
      exact ⟨F1, α1, ρ, S1, st1, en.ext e, c.mono (fun y S2 d => d.behind e) fun _ _ z => z.behind e⟩
    | false =>
      rw [if_neg Bool.false_ne_true] at c ⊢
      exact Fin.here (R := fun _ _ _ (x v : Bool) => v = x) (Fin.behind c e) st1 rfl
theorem f_orT {a b : Expr} {rest : List Expr} {ia ib : T} (ha : PT X a (tT X.K cal W ia)) (hb : PW X (.BoolOp .Or (b :: rest) pos) (tT X.K cal W ib)) : PW X (.BoolOp .Or (a :: b :: rest) pos) (tT X.K cal W (.or ia ib)) :=
  pw_imp (pw_or ha hb) fun σ H Q ⟨F, α, ρ, S, st, en, w⟩ => by
    simp only [evT, wp_bind, wp_ite] at w
    refine ⟨F, α, ρ, S, st, en, w.mono (fun k S1 c F1 α1 H1 v e st1 r => ?_) fun _ _ z => z⟩
    subst r
    cases v with
    | false =>
      rw [if_neg Bool.false_ne_true] at c ⊢
      exact ⟨F1, α1, ρ, S1, st1, en.ext e, c.mono (fun y S2 d => d.behind e) fun _ _ z => z.behind e⟩
    | true =>
      rw [if_pos rfl] at c ⊢
      exact Fin.here (R := fun _ _ _ (x v : Bool) => v = x) (Fin.behind c e) st1 rfl
theorem f_notT {a : Expr} {ia : T} (ha : PT X a (tT X.K cal W ia)) : PT X (.UnaryOp .Not a pos) (tT X.K cal W (.not ia)) :=
  pt_imp (pt_not ha) fun σ H Q ⟨F, α, ρ, S, st, en, w⟩ => by
    simp only [evT, wp_bind] at w
    refine ⟨F, α, ρ, S, st, en, w.mono (fun k S1 c F1 α1 H1 v e st1 r => ?_) fun _ _ z => z⟩
    subst r
    exact Fin.here (R := fun _ _ _ (x v : Bool) => v = x) (Fin.behind c e) st1 rfl
theorem f_to0 : PTs X [] (tTo X.K cal W .no) := ⟨fun pins s σ H Q I ⟨F, α, ρ, S, st, en, w⟩ => pts_nil.run pins s σ H Q I (Fin.here (R := fun _ _ _ (x v : Bool) => v = x) (by simp only [evTo, wp_pure] at w; exact w) st rfl)⟩
theorem f_to1 {a : Expr} {ia : T} (ha : PT X a (tT X.K cal W ia)) : PTs X [a] (tTo X.K cal W (.so ia)) := ⟨fun pins s σ H Q I ⟨F, α, ρ, S, st, en, w⟩ => (pts_one ha).run pins s σ H Q I ⟨F, α, ρ, S, st, en, by simp only [evTo] at w; exact w⟩⟩
/-! ### lists of expressions -/
theorem noStar {e : Expr} (h : ∀ x p, e ≠ .Starred x p) (env : PySem.Env) (es : List Expr) : starEach (e :: es) env = (false, eval e env) :: starEach es env := by
  cases e <;> first
    | rfl
    | exact absurd rfl (h _ _)
def plainEs (es : List Expr) : Prop := ∀ e ∈ es, ∀ x p, e ≠ .Starred x p
theorem noStars (pos : Pos) (env : PySem.Env) : ∀ es : List Expr, plainEs es → (backTo pos (starEach es env)).any (·.1) = false
  | [], _ => rfl
  | e :: es, h => by
    rw [noStar (h e (List.mem_cons_self ..))]
    exact noStars pos env es fun e' h' => h e' (List.mem_cons_of_mem _ h')
theorem f_nil : PA X [] (tEs X.K cal W .nil) := ⟨fun pos pins s σ H Q I ⟨F, α, ρ, S, st, en, w⟩ => pa_nil.run pos pins s σ H Q I (Fin.here (R := fun F α _ => RpL X.K F α) (by simp only [evEs, wp_pure] at w; exact w) st .nil)⟩
theorem pa_imp {e : List Expr} {t t' : TA} (h : PA X e t) (m : ∀ σ H Q, t' σ H Q → t σ H Q) : PA X e t' := ⟨fun ps pins s σ H Q I hq => h.run ps pins s σ H Q I (m σ H Q hq)⟩
theorem f_cons {e : Expr} {es : List Expr} {i : E} {is : Es} (hs : ∀ x p, e ≠ .Starred x p) (he : PE X e (tEX X cal W false i)) (hr : PA X es (tEs X.K cal W is)) : PA X (e :: es) (tEs X.K cal W (.cons i is)) :=
  pa_imp (pa_cons he hr (noStar hs X.env es)) fun σ H Q ⟨F, α, ρ, S, st, en, w⟩ => by
    simp only [evEs, wp_bind, wp_pure] at w
    exact ⟨F, α, ρ, S, st, en, w.mono (fun x S1 c F1 α1 H1 v e st1 r => ⟨F1, α1, ρ, S1, st1, en.ext e, c.mono (fun xs S2 d F2 α2 H2 vs g st2 r2 => d F2 α2 H2 _ (e.trans g) st2 (.cons (g.rp r.val) r2)) fun _ _ z => z.behind e⟩) fun _ _ z => z⟩
theorem f_nilQ : PA X [] (tEq X.K cal W .nil) := ⟨fun pos pins s σ H Q I ⟨F, α, ρ, S, st, en, w⟩ => pa_nil.run pos pins s σ H Q I (Fin.here (R := RqL X.K) (by simp only [evEq, wp_pure] at w; exact w) st .nil)⟩
theorem RqL.ext {K : PySem.W.Frag} {F F' : Hp} {α α' : List Addr} {H H' : Hp} (e : Ext F α H F' α' H') : ∀ {xs : List PV} {vs : List V}, RqL K F α H xs vs → RqL K F' α' H' xs vs
  | _, _, .nil => .nil
  | _, _, .cons h r => .cons (e.rpq h) (RqL.ext e r)
theorem f_consQ {e : Expr} {es : List Expr} {i : E} {is : Es} (hs : ∀ x p, e ≠ .Starred x p) (he : PE X e (tEX X cal W true i)) (hr : PA X es (tEq X.K cal W is)) : PA X (e :: es) (tEq X.K cal W (.cons i is)) :=
  pa_imp (pa_cons he hr (noStar hs X.env es)) fun σ H Q ⟨F, α, ρ, S, st, en, w⟩ => by
    simp only [evEq, wp_bind, wp_pure] at w
    exact ⟨F, α, ρ, S, st, en, w.mono (fun x S1 c F1 α1 H1 v e st1 r => ⟨F1, α1, ρ, S1, st1, en.ext e, c.mono (fun xs S2 d F2 α2 H2 vs g st2 r2 => d F2 α2 H2 _ (e.trans g) st2 (.cons (g.rpq r) r2)) fun _ _ z => z.behind e⟩) fun _ _ z => z⟩
theorem f_tup {es : List Expr} {is : Es} {k : Nat} (h : PA X es (tEs X.K cal W is)) : PE X (.Tuple es k pos) (tEX X cal W q (.tup is)) :=
  pe_imp (pe_tup h) fun σ H Q ⟨F, α, ρ, S, st, en, w⟩ => by
    simp only [evE, wp_bind, wp_ite, wp_pure, wp_stuck] at w
    refine ⟨F, α, ρ, S, st, en, w.mono (fun xs S1 c F1 α1 H1 vs e st1 r => ?_) fun _ _ z => z⟩
    by_cases hl : xs.length ≤ sizeLine
    · rw [if_pos hl] at c
      exact ⟨by rw [← r.length]; exact hl, fun p hp => fin_tup (q := q) st1 (Fin.behind c e) r hp⟩
    · rw [if_neg hl] at c; exact c.elim
theorem fin_unf {F : Hp} {α : List Addr} {H F1 : Hp} {α1 : List Addr} {H1 : Hp} {S1 : Sto} {xs : List PV} {vs : List V} {Q : VK} (f : FinU X.K F α H xs S1 Q) (e : Ext F α H F1 α1 H1) (st : StR X.K F1 α1 S1 H1) (r : RpL X.K F1 α1 xs vs) {p : Addr} (hp : H1 p = none) : Q (.ref p) (upd H1 p (.lst vs)) := by
  obtain ⟨g, st'⟩ := allocU (o := .lst vs) st hp
  exact f _ _ _ p vs (e.trans g) st' (e.som p hp) upd_same (st.none_F hp) (st.none_mem hp) r
theorem u_lst {es : List Expr} {is : Es} (h : PA X es (tEs X.K cal W is)) : PE X (.List es pos) (tU X.K cal W (.lst is)) :=
  pe_imp (pe_lst h) fun σ H Q ⟨F, α, ρ, S, st, en, w⟩ => by
    simp only [evE, wp_bind, wp_ite, wp_pure, wp_stuck] at w
    refine ⟨F, α, ρ, S, st, en, w.mono (fun xs S1 c F1 α1 H1 vs e st1 r => ?_) fun _ _ z => z⟩
    by_cases hl : xs.length ≤ sizeLine
    · rw [if_pos hl] at c
      obtain ⟨ys, hy, f⟩ := c
      cases hy
      exact ⟨by rw [← r.length]; exact hl, fun p hp => fin_unf f e st1 r hp⟩
    · rw [if_neg hl] at c; exact c.elim
theorem f_newl {es : List Expr} {is : Es} (h : PA X es (tEs X.K cal W is)) : PE X (.List es pos) (tEX X cal W q (.newl is)) :=
  pe_imp (pe_lst h) fun σ H Q ⟨F, α, ρ, S, st, en, w⟩ => by
    simp only [evE, wp_bind, wp_ite, wp_stuck] at w
    refine ⟨F, α, ρ, S, st, en, w.mono (fun xs S1 c F1 α1 H1 vs e st1 r => ?_) fun _ _ z => z⟩
    by_cases hl : xs.length ≤ sizeLine
    · rw [if_pos hl] at c
      refine ⟨by rw [← r.length]; exact hl, fun p hp => ?_⟩
      obtain ⟨g, st'⟩ := allocS st1 hp r
      exact c _ _ _ _ (e.trans g) st' (.inl (.ref (by rw [← st1.len, List.getElem?_append_right (Nat.le_refl _)]; simp)))
    · rw [if_neg hl] at c; exact c.elim
/-! ### places -/
theorem tE_mono {K : PySem.W.Frag} {e : E} {σ : L2.St} {H : Hp} {Q Q' : VK} (h : tE K cal W q e σ H Q) (m : ∀ v H, Q v H → Q' v H) : tE K cal W q e σ H Q' :=
  let ⟨F, α, ρ, S, st, en, w⟩ := h
  ⟨F, α, ρ, S, st, en, w.mono (fun x S1 c F1 α1 H1 v e st1 r => m v H1 (c F1 α1 H1 v e st1 r)) fun _ _ z => z⟩
theorem f_idx {a b : Expr} {ia ib : E} (ha : PE X a (tEX X cal W true ia)) (hb : PE X b (tEX X cal W false ib)) (hs : PlainIx b) : PE X (.Subscript a b pos) (tEX X cal W q (.idx ia ib)) :=
  pe_imp (pe_ix ix_seq ha hb hs) fun σ H Q ⟨F, α, ρ, S, st, en, w⟩ => by
    simp only [evE, wp_bind, wp_getS, wp_ofO] at w
    refine tE_mono (two (W := W) st en w) fun v H1 h => tE_mono h fun u H2 ⟨F4, α4, S4, px, py, e4, st4, rx, ry, z, hz, f⟩ => ?_
    exact idxP_ok hz st4 rx ry fun r hr => Fin.here (R := fun F' α' H' => RpQ X.K F' α' H' q) (Fin.behind f e4) st4 (.inl hr)
theorem f_eo0 : PO X none (tEo X.K cal W .no) := ⟨fun pins s σ H Q I ⟨F, α, ρ, S, st, en, w⟩ => po_none.run pins s σ H Q I (Fin.here (R := fun _ _ _ (x v : Option Int) => v = x) (by simp only [evEo, wp_pure] at w; exact w) st rfl)⟩
theorem f_eo1 {a : Expr} {ia : E} (ha : PE X a (tEX X cal W false ia)) : PO X (some a) (tEo X.K cal W (.so ia)) := ⟨fun pins s σ H Q I ⟨F, α, ρ, S, st, en, w⟩ => (po_some ha).run pins s σ H Q I (by
  simp only [evEo, wp_bind, wp_pure] at w
  refine ⟨F, α, ρ, S, st, en, w.mono (fun x S1 c F1 α1 H1 v e st1 r => ?_) fun _ _ z => z⟩
  obtain ⟨i, rfl, c'⟩ := asInt_wp c
  exact ⟨i, r.int, Fin.here (R := fun _ _ _ (x v : Option Int) => v = x) (Fin.behind c' e) st1 rfl⟩)⟩
theorem f_sli {a : Expr} {lo hi : Option Expr} {ia : E} {il ih : Eo} {p2 : Pos} (ha : PE X a (tEX X cal W true ia)) (hl : PO X lo (tEo X.K cal W il)) (hh : PO X hi (tEo X.K cal W ih)) : PE X (.Subscript a (.Slice lo hi none p2) pos) (tEX X cal W q (.sli ia il ih)) :=
  pe_imp (pe_slice sl_X ha hl hh) fun σ H Q ⟨F, α, ρ, S, st, en, w⟩ => by
    simp only [evE, wp_bind, wp_getS, wp_ofO] at w
    refine ⟨F, α, ρ, S, st, en, w.mono (fun x S1 c F1 α1 H1 v e st1 r => ?_) fun _ _ z => z⟩
    refine ⟨F1, α1, ρ, S1, st1, en.ext e, c.mono (fun l S2 d F2 α2 H2 lv e2 st2 r2 => ?_) fun _ _ z => z.behind e⟩
    subst r2
    refine ⟨F2, α2, ρ, S2, st2, (en.ext e).ext e2, d.mono (fun h S3 d F3 α3 H3 hv e3 st3 r3 => ?_) fun _ _ z => z.behind (e.trans e2)⟩
    subst r3
    obtain ⟨z, hz, f⟩ := d
    exact sliP_ok hz st3 ((e2.trans e3).rpq r) (Fin.behind (R := fun F' α' H' => RpQ X.K F' α' H' q) f ((e.trans e2).trans e3))
theorem f_rev {a : Expr} {ia : E} {k : Nat} {p1 p2 p3 : Pos} (ha : PE X a (tEX X cal W true ia)) : PE X (.Subscript a (.Slice none none (some (.UnaryOp .USub (.Constant (.int 1) k p1) p2)) p3) pos) (tEX X cal W q (.rev ia)) :=
  pe_imp (pe_revL ha) fun σ H Q ⟨F, α, ρ, S, st, en, w⟩ => by
    simp only [evE, wp_bind, wp_getS, wp_ofO, wp_pure] at w
    refine ⟨F, α, ρ, S, st, en, w.mono (fun x S1 c F1 α1 H1 v e st1 r => ?_) fun _ _ z => z⟩
    obtain ⟨xs, hx, f⟩ := c
    obtain ⟨a, vs, rfl, h1, h2⟩ := r.lstOf st1 hx
    exact ⟨a, vs, rfl, SqL.of h1, fun p hp => fin_lst (q := q) st1 (Fin.behind f e) h2.reverse hp⟩
/-! ### isinstance, join -/
theorem any_isSub {K : PySem.W.Frag} {t : String} : ∀ {ts : List String}, t ∈ ["NoneType", "bool", "int", "str", "tuple", "list"] → (∀ c ∈ ts, c ∈ ["bool", "int", "str", "tuple", "list"]) → PySem.W.kitAny K (.type t) (ts.map Value.type) = some (ts.any (isSub t))
  | [], _, _ => rfl
  | c :: r, h, g => by
    have h1 := isSub_ok (K := K) h (g c (List.mem_cons_self ..))
    rw [List.map_cons, List.any_cons]
    refine kitAny_cons h1 (fun e => ?_) fun e => ?_
    · rw [e, Bool.false_or]
      exact any_isSub h fun c hc => g c (List.mem_cons_of_mem _ hc)
    · rw [e, Bool.true_or]
theorem f_isi1 {a b : Expr} {ia : E} {c : String} {p : Pos} (hc : c ∈ ["bool", "int", "str", "tuple", "list"]) (ha : PE X a (tEX X cal W true ia)) (hb : PE X b (tC (.ty c))) (hg : Gl X "isinstance") (hm : X.mg "isinstance" = none)
    (sa : ∀ x p, a ≠ .Starred x p) (sb : ∀ x p, b ≠ .Starred x p) : PE X (.Call (.Name "isinstance" p) [a, b] [] pos) (tEX X cal W q (.isi ia [c])) :=
  pe_imp (pe_callB call_isi hg hm boot_isinstance (pa_cons ha (pa_cons hb pa_nil (noStar sb _ _)) (noStar sa _ _)) (he := noStar sa _ _) (hpl := noStars _ _ _ (by intro e he; rw [List.mem_singleton.mp he]; exact sb)))
    fun σ H Q ⟨F, α, ρ, S, st, en, w⟩ => by
      simp only [evE, wp_bind, wp_getS, wp_ofO, wp_pure] at w
      refine ⟨F, α, ρ, S, st, en, w.mono (fun x S1 k F1 α1 H1 v e st1 r => ?_) fun _ _ z => z⟩
      obtain ⟨t, ht, f⟩ := k
      refine ⟨v, .ty c, .type t, .type c, isSub t c, rfl, .ty c, tyP_ok ht st1 r, isSub_ok (tyP_mem ht) hc, ?_⟩
      have e1 : [c].any (isSub t) = isSub t c := by simp
      rw [e1] at f
      exact Fin.here (R := fun F' α' H' => RpQ X.K F' α' H' q) (Fin.behind f e) st1 (.inl (.bl _))
theorem f_join {a b : Expr} {ia ib : E} {ap : Pos} (ha : PE X a (tEX X cal W false ia)) (hb : PE X b (tEX X cal W true ib)) (sb : ∀ x p, b ≠ .Starred x p) (hbase : attributeBase a "join" X.env (eval a X.env) = eval a X.env) (hl : (ap.endLine == pos.line) = true) :
    PE X (.Call (.Attribute a "join" ap) [b] [] pos) (tEX X cal W q (.join ia ib)) :=
  pe_imp (pe_join ha hb (by rw [noStar sb]; rfl) hbase hl) fun σ H Q ⟨F, α, ρ, S, st, en, w⟩ => by
    simp only [evE, wp_bind, wp_getS, wp_ofO, wp_pure] at w
    refine ⟨F, α, ρ, S, st, en, w.mono (fun x S1 c F1 α1 H1 v e st1 r => ?_) fun _ _ z => z⟩
    obtain ⟨sep, hk, c'⟩ := asStr_wp c
    clear c
    subst hk
    have c := c'
    clear c'
    refine ⟨⟨sep, r.str⟩, F1, α1, ρ, S1, st1, en.ext e, c.mono (fun y S2 d F2 α2 H2 w2 g st2 r2 => ?_) fun _ _ z => z.behind e⟩
    obtain ⟨ys, hy, z, hz, f⟩ := d
    obtain ⟨xs, h1, h2⟩ := bindO_inv hy
    obtain ⟨p, vs, rfl, h3, h4⟩ := r2.lstOf st2 h1
    have e5 := h4.strsOf h2
    unfold joinP at hz
    by_cases h6 : (ys.map fun y => y.length).sum + ys.length * sep.length ≤ 16777216
    · rw [if_pos h6] at hz
      cases hz
      exact ⟨sep, p, ys, r.str, rfl, .inl (by rw [← e5]; exact SqL.of h3), h6, Fin.here (R := fun F' α' H' => RpQ X.K F' α' H' q) (Fin.behind f (e.trans g)) st2 (.inl (.str _))⟩
    · rw [if_neg h6] at hz; cases hz
end
end EV

/-! EvH: defs, their calls; built-ins by name; comprehensions. -/
namespace EV
open PySem PySem.Spec PyProof.Rows L2
/-- what a def promises, where nothing is being shown by repr -/
structure FnG (P : Program) (w : World) (K : PySem.W.Frag) (mg : Str → Option Value) (base : Heap) (k : Nat) (f : Addr) (fd : FuncData) (ps : List Str) (sp : Sp) : Prop where
  len : ∀ vs H Q E, sp vs H Q E → vs.length = ps.length
  go : ∀ (A : Around) (outer : List PySem.Env) (s : Shared) (H : Hp) (args : Args) (us : List Value) (vs : List V) (Q : VK) (E : XK),
    Room k A → A.guards = some [] → Env0 P w K mg base A outer s H → BindsTo s fd args (ps.zip us) → Vals vs us → sp vs H Q E → codeAny (model P w) A (.call (.ref f) args) (CR CX0 outer P w H s Q E) s
/-- the promise that the evaluator tells of the i-th def -/
def spOf (K : PySem.W.Frag) (cal : Nat → List PV → M PV) (i : Nat) : Sp := fun vs H Q E =>
  ∃ F α xs S, StR K F α S H ∧ RpL K F α xs vs ∧ (cal i xs S).wp (fun r S' => Fin K (fun F' α' _ => Rp K F' α') F α H r S' Q) (FinX K E F α H)
section
variable {X : Cx} {cal : Nat → List PV → M PV} {W : XW} {q : Bool} {pos : Pos}
theorem goFn {k : Nat} {f : Addr} {fd : FuncData} {ps : List Str} {sp : Sp} {pins : List (Addr × Obj)} {σ : L2.St} {H : Hp} {s : Shared} {Q : VK} {E : XK} {us : List Value} {vs : List V} (G : FnG X.prog X.w X.K X.mg X.base k f fd ps sp) (hr : Room k X.A) (hg : X.A.guards = some [])
    (hb : Binds X.K fd ps []) (I : Inv X pins σ H s) (r : Vals vs us) (h : sp vs H Q E) : wpAny (model X.prog X.w) X.A (call (.ref f) us) (EP X pins σ Q) X.xe s := by
  have hl : (us ++ []).length = ps.length := by rw [List.append_nil, ← r.length]; exact G.len _ _ _ _ h
  have B := hb s us I.kIn hl
  rw [List.append_nil] at B
  refine wpAny_call (codeAny_mono (G.go X.A X.stack s H ⟨us, []⟩ us vs Q E hr hg I.env0 B r h) fun res s' hq => ?_)
  match res, hq with
  | .ok (.ret u), hq => exact I.after hq
theorem f_call {k : Nat} {f : Addr} {fd : FuncData} {ps : List Str} {i : Nat} {x : Str} {p : Pos} {e : Expr} {es : List Expr} {is : Es} (G : FnG X.prog X.w X.K X.mg X.base k f fd ps (spOf X.K cal i)) (hr : Room k X.A) (hd : X.A.guards = some []) (hb : Binds X.K fd ps [])
    (hg : Gl X x) (hm : X.mg x = some (.ref f)) (hk : PySem.W.keepIn X.K (.ref f) = true) (hdb : (x == ("__debug__" : Str)) = false) (hp : plainEs (e :: es)) (ha : PA X (e :: es) (tEs X.K cal W is)) : PE X (.Call (.Name x p) (e :: es) [] pos) (tEX X cal W q (.call i is)) := by
  refine ⟨fun pins s σ H Q I ⟨F, α, ρ, S, st, en, w⟩ => ?_⟩
  simp only [evE, wp_bind] at w
  have spo : tEs X.K cal W is σ H fun vs H1 => spOf X.K cal i vs H1 Q W :=
    ⟨F, α, ρ, S, st, en, w.mono (fun xs S1 c F1 α1 H1 vs e st1 r => ⟨F1, α1, xs, S1, st1, r, c.mono (fun r2 S2 d F2 α2 H2 v g st2 hr => d F2 α2 H2 v (e.trans g) st2 (.inl hr)) fun _ _ z => z.behind e⟩) fun _ _ z => z⟩
  refine wpAny_Call_Name_kw (ld_glob I hg hm ?_ hdb)
  refine PySem.W.callWith_K (h₀ := X.base) I.ok.mod.kin hk (thn (ha.run pos pins s σ H _ I spo) fun us s1 ⟨vs, H1, I1, r, hq⟩ => ⟨I1.kIn, ?_⟩) (noStar (hp e (List.mem_cons_self ..)) _ _) (noStars _ _ _ fun e' h' => hp e' (List.mem_cons_of_mem _ h'))
  exact goFn G hr hd hb I1 r hq
theorem f_call0 {k : Nat} {f : Addr} {fd : FuncData} {ps : List Str} {i : Nat} {x : Str} {p : Pos} (G : FnG X.prog X.w X.K X.mg X.base k f fd ps (spOf X.K cal i)) (hr : Room k X.A) (hd : X.A.guards = some []) (hb : Binds X.K fd ps [])
    (hg : Gl X x) (hm : X.mg x = some (.ref f)) (hk : PySem.W.keepIn X.K (.ref f) = true) (hdb : (x == ("__debug__" : Str)) = false) : PE X (.Call (.Name x p) [] [] pos) (tEX X cal W q (.call i .nil)) := by
  refine ⟨fun pins s σ H Q I ⟨F, α, ρ, S, st, en, w⟩ => ?_⟩
  simp only [evE, evEs, wp_bind, wp_pure] at w
  refine wpAny_Call_Name_kw (ld_glob I hg hm ?_ hdb)
  refine PySem.W.callWith_K0 I.kIn hk ?_
  exact goFn (us := []) G hr hd hb I .nil ⟨F, α, [], S, st, .nil, w.mono (fun r2 S2 d F2 α2 H2 v g st2 hr => d F2 α2 H2 v g st2 (.inl hr)) fun _ _ z => z⟩
/-! ### built-ins -/
def biVal : BI → Value
  | .len => .builtin "len"
  | .abs => .builtin "abs"
  | .int => .type "int"
  | .tuple => .type "tuple"
  | .list => .type "list"
  | .ord => .builtin "ord"
  | .repr => .builtin "repr"
  | .any => .builtin "any"
  | .all => .builtin "all"
  | .sum => .builtin "sum"
theorem call_shown {d : PyData} {v : V} {u : Value} {pins : List (Addr × Obj)} {s : Shared} {σ : L2.St} {H : Hp} {Q : VK} (hg : X.A.guards = some []) (hu : X.A.units + 65 < cLine) (I : Inv X pins σ H s) (h : Dp X.K H v d) (r : RelV v u) (h1 : d.showable = true) (h2 : d.hasDict = false) (h3 : d.depth ≤ 64) (h4 : d.shown.length ≤ sizeLine)
    (f : Q (.str d.shown) H) : wpAny (model X.prog X.w) X.A (call (.builtin "repr") [u]) (EP X pins σ Q) X.xe s := by
  have refs : ∀ a, v = .ref a → wpAny (model X.prog X.w) X.A (call (.builtin "repr") [u]) (EP X pins σ Q) X.xe s := by
    rintro a rfl
    obtain ⟨as, R⟩ := Dp.reads I d _ u h r
    cases r
    exact repr_of_reads' R h1 (fun z => by rw [h2] at z; cases z) hg (by omega) (fun _ _ z => z) (fun h' t k hk => ⟨.str d.shown, H, I.kept hk, ⟨_, rfl⟩, f⟩) h4
  cases h with
  | non => cases r; exact P.repr_of_none ⟨.str (PyData.shown .none), H, I.tok _, ⟨_, rfl⟩, f⟩
  | bl b => cases r; exact P.repr_of_bool ⟨.str (PyData.shown (.bool b)), H, I.tok _, ⟨s.toks, by simp only [PyData.shown]⟩, f⟩
  | int i =>
    obtain ⟨t, rfl⟩ := r
    exact P.repr_of_int (by simp only [PyData.showable] at h1; exact of_decide_eq_true h1) ⟨.str (PyData.shown (.int i)), H, I.tok _, ⟨s.toks, by simp only [PyData.shown]⟩, f⟩
  | str x =>
    obtain ⟨t, rfl⟩ := r
    exact P.repr_of_str ⟨.str (PyData.shown (.str x)), H, I.tok _, ⟨s.toks, by simp only [PyData.shown]⟩, f⟩ (by simp only [PyData.shown] at h4; exact h4)
  | lst _ _ => exact refs _ rfl
  | tup _ _ => exact refs _ rfl
theorem reprP_inv {x : PV} {z : Str} (h : reprP x = some z) : ∃ d, toD x = some d ∧ d.showable = true ∧ d.hasDict = false ∧ d.depth ≤ 64 ∧ d.shown.length ≤ sizeLine ∧ z = d.shown := by
  unfold reprP at h
  cases e : toD x with
  | none => rw [e] at h; cases h
  | some d =>
    rw [e] at h
    simp only at h
    by_cases c : d.showable = true ∧ d.hasDict = false ∧ d.depth ≤ 64 ∧ d.shown.length ≤ sizeLine
    · rw [if_pos c] at h
      cases h
      exact ⟨d, rfl, c.1, c.2.1, c.2.2.1, c.2.2.2, rfl⟩
    · rw [if_neg c] at h; cases h
theorem bltOp_ok {F : Hp} {α : List Addr} {H : Hp} {S : Sto} {f : BI} {xs : List PV} {z : PV} {vs : List V} {us : List Value} {pins : List (Addr × Obj)} {s : Shared} {σ : L2.St} {Q : VK} (hg : X.A.guards = some []) (hu : X.A.units + 65 < cLine) (hc : X.calm = true) (hl : f ≠ .list) (he : bltOp S f xs = some z) (st : StR X.K F α S H) (I : Inv X pins σ H s)
    (rx : RqL X.K F α H xs vs) (ru : Vals vs us) (fin : FinE X q F α H z S Q) : wpAny (model X.prog X.w) X.A (call (biVal f) us) (EP X pins σ Q) X.xe s := by
  cases rx with
  | nil => cases f <;> cases he
  | @cons x v xs vs rx rr =>
    cases rr with
    | cons _ _ => cases f <;> cases x <;> cases he
    | nil =>
      have lens : ∀ ys, seqOf S x = some ys → z = .int ys.length → wpAny (model X.prog X.w) X.A (call (.builtin "len") us) (EP X pins σ Q) X.xe s := by
        rintro ys h rfl
        obtain ⟨a, ws, rfl, h1, h2⟩ := rx.seqOf st h
        refine call_len pins s σ H _ us Q I ru ⟨.ref a, ws.length, rfl, ?_, Fin.here (R := fun F α H => RpQ X.K F α H q) (by rw [h2.length] at fin; exact fin) st (.inl (.int _))⟩
        rcases h1 with h1 | h1
        · exact .inl ⟨ws, SqL.of h1, rfl⟩
        · exact .inr ⟨ws, h1, rfl⟩
      have seqs : ∀ o : Option (List PV), seqOf S x = o → True := fun _ _ => trivial
      cases f with
      | len =>
        cases x with
        | str y =>
          have he' : (if y.length ≤ sizeLine then some (PV.int y.length) else none) = some z := he
          by_cases h : y.length ≤ sizeLine
          · rw [if_pos h] at he'
            cases he'
            rw [rx.str] at ru
            exact call_len pins s σ H _ us Q I ru ⟨.str y, y.length, rfl, ⟨h, rfl⟩, Fin.here (R := fun F α H => RpQ X.K F α H q) fin st (.inl (.int _))⟩
          · rw [if_neg h] at he'; cases he'
        | tup ys => cases he; exact lens ys rfl rfl
        | lst ys => cases he; exact lens ys rfl rfl
        | ref n =>
          obtain ⟨ys, h1, h2⟩ := map_inv (show (seqOf S (.ref n)).map (fun xs => PV.int xs.length) = some z from he)
          exact lens ys h1 h2.symm
        | _ => cases he
      | abs =>
        cases x with
        | int i =>
          cases he
          rw [rx.int] at ru
          exact call_abs pins s σ H _ us Q I ru ⟨i, rfl, Fin.here (R := fun F α H => RpQ X.K F α H q) fin st (.inl (.int _))⟩
        | _ => cases he
      | int =>
        cases x with
        | int i =>
          cases he
          rw [rx.int] at ru
          exact call_int1 pins s σ H _ us Q I ru (.inl ⟨i, rfl, Fin.here (R := fun F α H => RpQ X.K F α H q) fin st (.inl (.int _))⟩)
        | bl i =>
          cases he
          rw [rx.bl] at ru
          exact call_int1 pins s σ H _ us Q I ru (.inr ⟨i, rfl, Fin.here (R := fun F α H => RpQ X.K F α H q) fin st (.inl (.int _))⟩)
        | _ => cases he
      | tuple =>
        have he' : (seqOf S x).map PV.tup = some z := by cases x <;> exact he
        obtain ⟨ys, h1, rfl⟩ := map_inv he'
        cases x with
        | tup zs =>
          cases h1
          obtain ⟨a, ws, rfl, h3, h4⟩ := rx.tup
          exact call_tuple_of pins s σ H _ us Q I ru ⟨a, ws, rfl, .inr ⟨Same.seqT st.sub h3, Fin.here (R := fun F α H => RpQ X.K F α H q) fin st (.inl (.tup h3 h4))⟩⟩
        | lst zs =>
          obtain ⟨a, ws, rfl, h3, h4⟩ := rx.lstOf st (show lstOf S (.lst zs) = some ys from h1)
          exact call_tuple_of pins s σ H _ us Q I ru ⟨a, ws, rfl, .inl ⟨SqL.of h3, fun p hp => fin_tup (q := q) st fin h4 hp⟩⟩
        | ref n =>
          obtain ⟨a, ws, rfl, h3, h4⟩ := rx.lstOf st (show lstOf S (.ref n) = some ys from h1)
          exact call_tuple_of pins s σ H _ us Q I ru ⟨a, ws, rfl, .inl ⟨SqL.of h3, fun p hp => fin_tup (q := q) st fin h4 hp⟩⟩
        | _ => cases h1
      | list => exact absurd rfl hl
      | ord =>
        cases x with
        | str y =>
          have he' : (if y.length = 1 then some (PV.int (y.cps.getD 0 0 : Nat)) else none) = some z := he
          by_cases h : y.length = 1
          · rw [if_pos h] at he'
            cases he'
            rw [rx.str] at ru
            exact call_ord pins s σ H _ us Q I ru ⟨y, rfl, h, Fin.here (R := fun F α H => RpQ X.K F α H q) fin st (.inl (.int _))⟩
          · rw [if_neg h] at he'; cases he'
        | _ => cases he
      | repr =>
        have he' : (reprP x).map PV.str = some z := by cases x <;> exact he
        obtain ⟨t, h1, rfl⟩ := map_inv he'
        obtain ⟨d, h2, h3, h4, h5, h6, rfl⟩ := reprP_inv h1
        obtain ⟨u, rfl, r1⟩ := vals1 ru
        refine call_shown hg hu I (rx.dp st (d := d) ?_) r1 h3 h4 h5 h6 (Fin.here (R := fun F α H => RpQ X.K F α H q) fin st (.inl (.str _)))
        cases x with
        | ref n => simp only [toD] at h2; cases h2
        | _ => exact h2
      | any =>
        have he' : ((lstOf S x).bind blsOf).map (fun bs => PV.bl (bs.any id)) = some z := by cases x <;> exact he
        obtain ⟨bs, h1, rfl⟩ := map_inv he'
        obtain ⟨ys, h2, h3⟩ := bindO_inv h1
        obtain ⟨a, ws, rfl, h4, h5⟩ := rx.lstOf st h2
        have e := h5.bls h3
        subst e
        exact cr_any hc pins s σ H _ us Q I ru ⟨a, bs, rfl, SqL.of h4, Fin.here (R := fun F α H => RpQ X.K F α H q) fin st (.inl (.bl _))⟩
      | all =>
        have he' : ((lstOf S x).bind blsOf).map (fun bs => PV.bl (bs.all id)) = some z := by cases x <;> exact he
        obtain ⟨bs, h1, rfl⟩ := map_inv he'
        obtain ⟨ys, h2, h3⟩ := bindO_inv h1
        obtain ⟨a, ws, rfl, h4, h5⟩ := rx.lstOf st h2
        have e := h5.bls h3
        subst e
        exact cr_all hc pins s σ H _ us Q I ru ⟨a, bs, rfl, SqL.of h4, Fin.here (R := fun F α H => RpQ X.K F α H q) fin st (.inl (.bl _))⟩
      | sum =>
        have he' : ((lstOf S x).bind EV.intsOf).map (fun ns => PV.int ns.sum) = some z := by cases x <;> exact he
        obtain ⟨bs, h1, rfl⟩ := map_inv he'
        obtain ⟨ys, h2, h3⟩ := bindO_inv h1
        obtain ⟨a, ws, rfl, h4, h5⟩ := rx.lstOf st h2
        have e := h5.intsOf h3
        subst e
        exact cr_sum hc pins s σ H _ us Q I ru ⟨a, bs, rfl, SqL.of h4, Fin.here (R := fun F α H => RpQ X.K F α H q) fin st (.inl (.int _))⟩
end
end EV

/-! EvI: built-ins by name, what a loop walks, comprehensions. -/
namespace EV
open PySem PySem.Spec PyProof.Rows L2
section
variable {X : Cx} {cal : Nat → List PV → M PV} {W : XW} {q : Bool} {pos : Pos}
theorem wsF {e : Expr} (h : ∀ x p, e ≠ .Starred x p) (env : PySem.Env) (pos : Pos) : (backTo pos (starEach [] env)).any (·.1) = false := rfl
theorem run_blt {f : BI} {x : Str} {p : Pos} {e : Expr} {t : TA} {pins : List (Addr × Obj)} {s : Shared} {σ : L2.St} {H : Hp} {Q : VK} (I : Inv X pins σ H s) (hg : Gl X x) (hm : X.mg x = none) (hv : bootBuiltins x = some (biVal f)) (hn : x ≠ "__name__") (hdb : (x == ("__debug__" : Str)) = false)
    (ns : ∀ x p, e ≠ .Starred x p) (ha : PA X [e] t) (h : t σ H fun vs H1 => ∀ s1 us, Inv X pins σ H1 s1 → Vals vs us → wpAny (model X.prog X.w) X.A (call (biVal f) us) (EP X pins σ Q) X.xe s1) :
    wpAny (model X.prog X.w) X.A (eval (.Call (.Name x p) [e] [] pos) X.env) (EP X pins σ Q) X.xe s := by
  refine wpAny_Call_Name_kw (ld_blt I hg hm hv ?_ hn hdb)
  have go := thn (ha.run pos pins s σ H _ I h) fun us s1 ⟨vs, H1, I1, r, hq⟩ => hq s1 us I1 r
  have e1 := noStar ns X.env []
  cases f with
  | int => exact PyProof.Rows.callWith_type1 (T := "int") go e1 rfl
  | tuple => exact PyProof.Rows.callWith_type1 (T := "tuple") go e1 rfl
  | list => exact PyProof.Rows.callWith_type1 (T := "list") go e1 rfl
  | len => exact PyProof.Rows.callWith_builtin1 (id := "len") go e1 rfl
  | abs => exact PyProof.Rows.callWith_builtin1 (id := "abs") go e1 rfl
  | ord => exact PyProof.Rows.callWith_builtin1 (id := "ord") go e1 rfl
  | repr => exact PyProof.Rows.callWith_builtin1 (id := "repr") go e1 rfl
  | any => exact PyProof.Rows.callWith_builtin1 (id := "any") go e1 rfl
  | all => exact PyProof.Rows.callWith_builtin1 (id := "all") go e1 rfl
  | sum => exact PyProof.Rows.callWith_builtin1 (id := "sum") go e1 rfl
theorem f_blt {f : BI} {x : Str} {p : Pos} {e : Expr} {i : E} (hgd : X.A.guards = some []) (hu : X.A.units + 65 < cLine) (hc : X.calm = true) (hl : f ≠ .list) (hg : Gl X x) (hm : X.mg x = none) (hv : bootBuiltins x = some (biVal f)) (hn : x ≠ "__name__") (hdb : (x == ("__debug__" : Str)) = false)
    (ns : ∀ x p, e ≠ .Starred x p) (he : PE X e (tEX X cal W true i)) : PE X (.Call (.Name x p) [e] [] pos) (tEX X cal W q (.blt f (.cons i .nil))) := by
  refine ⟨fun pins s σ H Q I ⟨F, α, ρ, S, st, en, w⟩ => ?_⟩
  simp only [evE, evEq, wp_bind, wp_getS, wp_ofO, wp_pure] at w
  have ha : PA X [e] (tEq X.K cal W (.cons i .nil)) := f_consQ ns he f_nilQ
  refine run_blt I hg hm hv hn hdb ns ha ⟨F, α, ρ, S, st, en, ?_⟩
  simp only [evEq, wp_bind, wp_pure]
  refine w.mono (fun x1 S1 ⟨z, hz, fz⟩ F1 α1 H1 vs e1 st1 r s1 us I1 ru => ?_) fun _ _ z => z
  exact bltOp_ok hgd hu hc hl hz st1 I1 r ru (Fin.behind (R := fun F α H => RpQ X.K F α H q) fz e1)
theorem u_list {x : Str} {p : Pos} {e : Expr} {i : E} (hg : Gl X x) (hm : X.mg x = none) (hv : bootBuiltins x = some (biVal .list)) (hn : x ≠ "__name__") (hdb : (x == ("__debug__" : Str)) = false)
    (ns : ∀ x p, e ≠ .Starred x p) (he : PE X e (tEX X cal W true i)) : PE X (.Call (.Name x p) [e] [] pos) (tU X.K cal W (.blt .list (.cons i .nil))) := by
  refine ⟨fun pins s σ H Q I ⟨F, α, ρ, S, st, en, w⟩ => ?_⟩
  simp only [evE, evEq, wp_bind, wp_getS, wp_ofO, wp_pure] at w
  have ha : PA X [e] (tEq X.K cal W (.cons i .nil)) := f_consQ ns he f_nilQ
  refine run_blt I hg hm hv hn hdb ns ha ⟨F, α, ρ, S, st, en, ?_⟩
  simp only [evEq, wp_bind, wp_pure]
  refine w.mono (fun x1 S1 ⟨z, hz, xs, hx, fz⟩ F1 α1 H1 vs e1 st1 r s1 us I1 ru => ?_) fun _ _ z => z
  subst hx
  cases r with
  | @cons _ v _ vs rx rr =>
    cases rr
    have seqs : ∀ ys, seqOf S1 x1 = some ys → xs = ys → wpAny (model X.prog X.w) X.A (call (biVal .list) us) (EP X pins σ Q) X.xe s1 := by
      rintro ys h rfl
      obtain ⟨a, ws, rfl, h3, h4⟩ := rx.seqOf st1 h
      refine call_list_of pins s1 σ H1 _ us Q I1 ru ⟨a, ws, rfl, ?_, fun l hl => fin_unf fz e1 st1 h4 hl⟩
      rcases h3 with h3 | h3
      · exact .inl (SqL.of h3)
      · exact .inr h3
    cases x1 with
    | scr ns =>
      cases hz
      rcases rx with rx | ⟨_, ys, hy, _⟩
      · cases rx with
        | scr h => exact call_list_of pins s1 σ H1 _ us Q I1 ru ⟨_, _, rfl, .inl (st1.sub.seq h), fun l hl => fin_unf fz e1 st1 .ints hl⟩
      · cases hy
    | tup ys => cases hz; exact seqs _ rfl rfl
    | lst ys => cases hz; exact seqs _ rfl rfl
    | ref n =>
      obtain ⟨ys, h1, h2⟩ := map_inv (show (seqOf S1 (.ref n)).map PV.lst = some (.lst xs) from hz)
      cases h2
      exact seqs _ h1 rfl
    | _ => cases hz
/-! ### what a loop walks -/
def pinOk (pin : Option (Addr × List V)) (H : Hp) : Prop := ∀ a vs, pin = some (a, vs) → H a = some (.lst vs)
/-- the walk J yields the items, as long as the guard and the pin stand -/
def JOk (K : PySem.W.Frag) (F0 : Hp) (α0 : List Addr) (J : It) (items : List PV) (g : Gd) (pin : Option (Addr × List V)) : Prop :=
  ∀ F α S H, Same F0 F → Pre α0 α → StR K F α S H → g.ok S → pinOk pin H →
    (∀ i x, items[i]? = some x → J.go i H ∧ ∀ v H2, J.yld i H v H2 → ∃ F2, Ext F α H F2 α H2 ∧ StR K F2 α S H2 ∧ Rp K F2 α x v) ∧ J.stop items.length H
/-- the pin is a list that only the frame knows -/
def PinR (q : Bool) (F : Hp) (α : List Addr) (H : Hp) (pin : Option (Addr × List V)) : Prop := ∀ a vs, pin = some (a, vs) → q = true ∧ H a = some (.lst vs) ∧ F a = none ∧ a ∉ α
def FinJ (K : PySem.W.Frag) (q : Bool) (F : Hp) (α : List Addr) (H : Hp) (x : List PV × Gd) (S' : Sto) (R : It → Hp → Prop) : Prop :=
  ∀ F' α' H' J pin, Ext F α H F' α' H' → StR K F' α' S' H' → JOk K F' α' J x.1 x.2 pin → PinR q F' α' H' pin → R J H'
def tI (K : PySem.W.Frag) (cal : Nat → List PV → M PV) (W : XW) (q : Bool) (it : IT) : TI := fun σ H R =>
  ∃ F α ρ S, StR K F α S H ∧ EnR K F α ρ σ H ∧ (evI cal q it ρ S).wp (fun x S' => FinJ K q F α H x S' R) (FinX K W F α H)
theorem yld_ext {K : PySem.W.Frag} {F : Hp} {α : List Addr} {S : Sto} {H : Hp} {x : PV} {v : V} (st : StR K F α S H) (r : Rp K F α x v) : ∃ F2, Ext F α H F2 α H ∧ StR K F2 α S H ∧ Rp K F2 α x v := ⟨F, Ext.refl F α H, st, r⟩
theorem j_tup {K : PySem.W.Frag} {F0 : Hp} {α0 : List Addr} {a : Addr} {xs : List PV} {vs : List V} (h : SqT K F0 a vs) (r : RpL K F0 α0 xs vs) {g : Gd} : JOk K F0 α0 (Itt K a) xs g none := by
  intro F α S H hF hα st hg _
  have hs : SqT K H a vs := Same.seqT (hF.trans st.sub) h
  refine ⟨fun i x hx => ?_, ⟨vs, hs, by rw [r.length]; exact Nat.le_refl _⟩⟩
  obtain ⟨v, h1, h2⟩ := r.get hx
  refine ⟨⟨vs, v, hs, h1⟩, fun u H2 ⟨e, hy⟩ => ?_⟩
  subst e
  have h3 := hy vs hs
  rw [h1] at h3
  cases h3
  exact yld_ext st (h2.mono hF hα)
theorem j_lst {K : PySem.W.Frag} {F0 : Hp} {α0 : List Addr} {a : Addr} {xs : List PV} {g : Gd} {pin : Option (Addr × List V)} (h : ∀ F α S H, Same F0 F → Pre α0 α → StR K F α S H → g.ok S → pinOk pin H → ∃ vs, H a = some (.lst vs) ∧ RpL K F α xs vs) : JOk K F0 α0 (Itl K a) xs g pin := by
  intro F α S H hF hα st hg hp
  obtain ⟨vs, hs, r⟩ := h F α S H hF hα st hg hp
  refine ⟨fun i x hx => ?_, ⟨vs, SqL.of hs, by rw [r.length]; exact Nat.le_refl _⟩⟩
  obtain ⟨v, h1, h2⟩ := r.get hx
  refine ⟨⟨vs, v, SqL.of hs, h1⟩, fun u H2 ⟨e, hy⟩ => ?_⟩
  subst e
  have h3 := hy vs (SqL.of hs)
  rw [h1] at h3
  cases h3
  exact yld_ext st h2
theorem j_str {K : PySem.W.Frag} {F0 : Hp} {α0 : List Addr} {z : Str} {g : Gd} : JOk K F0 α0 (Its z) (chars z) g none := by
  intro F α S H hF hα st hg hp
  have hl : (chars z).length = z.cps.size := by unfold chars; rw [List.length_map, Array.length_toList]
  refine ⟨fun i x hx => ?_, by rw [hl]; exact Nat.le_refl _⟩
  have hi := (List.getElem?_eq_some_iff.mp hx).1
  rw [hl] at hi
  refine ⟨hi, fun u H2 ⟨e, c, hc, hu⟩ => ?_⟩
  subst e hu
  have e2 : x = .str ⟨#[c]⟩ := by
    unfold chars at hx
    rw [List.getElem?_map, Array.getElem?_toList, hc] at hx
    exact (Option.some.inj hx).symm
  subst e2
  exact yld_ext st (.str _)
theorem j_rng {K : PySem.W.Frag} {F0 : Hp} {α0 : List Addr} {n : Int} {g : Gd} : JOk K F0 α0 (Itr 0 n.toNat) (rangeL n) g none := by
  intro F α S H hF hα st hg hp
  have hl : (rangeL n).length = n.toNat := by unfold rangeL; rw [List.length_map, List.length_range]
  refine ⟨fun i x hx => ?_, by rw [hl]; exact Nat.le_refl _⟩
  have hi := (List.getElem?_eq_some_iff.mp hx).1
  rw [hl] at hi
  refine ⟨hi, fun u H2 ⟨e, hu⟩ => ?_⟩
  subst e hu
  have e2 : x = .int (i : Int) := by
    unfold rangeL at hx
    rw [List.getElem?_map, List.getElem?_range hi] at hx
    exact (Option.some.inj hx).symm
  subst e2
  rw [Int.zero_add]
  exact yld_ext st (.int _)
theorem no_pin {q : Bool} {F : Hp} {α : List Addr} {H : Hp} : PinR q F α H none := fun _ _ h => nomatch h
theorem f_rng {e tg : Expr} {ie : E} {p : Pos} (hg : Gl X "range") (hm : X.mg "range" = none) (ns : ∀ x p, e ≠ .Starred x p) (he : PE X e (tEX X cal W false ie)) : PI X tg (.Call (.Name "range" p) [e] [] pos) (tI X.K cal W q (.rng ie)) := by
  refine ⟨fun pins s σ H R I ⟨F, α, ρ, S, st, en, w⟩ => (pi_range1 hg hm (pa_cons he pa_nil (noStar ns _ _)) (by rw [noStar ns]; rfl)).run pins s σ H R I ?_⟩
  simp only [evI, wp_bind, wp_ite, wp_pure, wp_stuck] at w
  refine ⟨F, α, ρ, S, st, en, w.mono (fun x S1 c F1 α1 H1 v e st1 r => ?_) fun _ _ z => z⟩
  obtain ⟨n, hn, c'⟩ := asInt_wp c
  subst hn
  by_cases h : rngOk n
  · rw [if_pos h] at c'
    exact ⟨n, by rw [r.int], h.le, h.lt, c' _ _ _ _ none e st1 j_rng no_pin⟩
  · rw [if_neg h] at c'; exact c'.elim
theorem f_seq {e tg : Expr} {ie : E} (he : PE X e (tEX X cal W q ie)) : PI X tg e (tI X.K cal W q (.seq ie)) := by
  refine ⟨fun pins s σ H R I ⟨F, α, ρ, S, st, en, w⟩ => ?_⟩
  simp only [evI, wp_bind, wp_getS, wp_ofO] at w
  cases h : evE cal q ie ρ S with
  | stuck => rw [h] at w; exact w.elim
  | exc x S1 =>
    refine (pi_tup he).run pins s σ H R I ⟨F, α, ρ, S, st, en, ?_⟩
    rw [h] at w ⊢
    exact w
  | ok x S1 =>
    rw [h] at w
    obtain ⟨r, hr, fj⟩ := w
    cases x with
    | tup xs =>
      cases hr
      refine (pi_tup he).run pins s σ H R I ⟨F, α, ρ, S, st, en, ?_⟩
      rw [h]
      intro F1 α1 H1 v e1 st1 rv
      obtain ⟨a, vs, rfl, h1, h2⟩ := RpQ.tup rv
      exact ⟨a, rfl, ⟨vs, Same.seqT st1.sub h1⟩, fj F1 α1 H1 _ none e1 st1 (j_tup h1 h2) no_pin⟩
    | str z =>
      cases hr
      refine (pi_str he).run pins s σ H R I ⟨F, α, ρ, S, st, en, ?_⟩
      rw [h]
      intro F1 α1 H1 v e1 st1 rv
      exact ⟨z, RpQ.str rv, fj F1 α1 H1 _ none e1 st1 j_str no_pin⟩
    | lst xs =>
      cases hr
      refine (pi_list he).run pins s σ H R I ⟨F, α, ρ, S, st, en, ?_⟩
      rw [h]
      intro F1 α1 H1 v e1 st1 rv
      rcases rv with rv | ⟨hq, ys, hy, a, vs, hv, h1, h2, h3, h4⟩
      · cases rv with
        | @lst _ vs a h1 h2 =>
          refine ⟨a, rfl, ⟨vs, SqL.of (st1.sub _ _ h1)⟩, fj F1 α1 H1 _ none e1 st1 (j_lst fun F α S H hF hα st hg _ => ⟨vs, st.sub _ _ (hF _ _ h1), h2.mono hF hα⟩) no_pin⟩
      · cases hy
        subst hv
        refine ⟨a, rfl, ⟨vs, SqL.of h1⟩, fj F1 α1 H1 _ (some (a, vs)) e1 st1 (j_lst fun F α S H hF hα st hg hp => ⟨vs, hp a vs rfl, h2.mono hF hα⟩) fun b ws hb => ?_⟩
        cases hb
        exact ⟨hq, h1, h3, h4⟩
    | ref n =>
      have hr' : (match S1[n]? with
        | some (.lst xs) => some (xs, Gd.sto n xs)
        | none => none) = some r := hr
      cases hs : S1[n]? with
      | none => rw [hs] at hr'; cases hr'
      | some so =>
        rw [hs] at hr'
        cases so with
        | lst xs =>
          cases hr'
          refine (pi_list he).run pins s σ H R I ⟨F, α, ρ, S, st, en, ?_⟩
          rw [h]
          intro F1 α1 H1 v e1 st1 rv
          rcases rv with rv | ⟨hq, ys, hy, _⟩
          · cases rv with
            | @ref _ a hn =>
              obtain ⟨vs, h1, h2⟩ := st1.ob n _ _ hs hn
              exact ⟨a, rfl, ⟨vs, SqL.of h1⟩, fj F1 α1 H1 _ none e1 st1 (j_lst fun F α S H hF hα st hg hp => st.ob n _ _ hg (hα.get hn)) no_pin⟩
          · cases hy
    | _ => cases hr
end
end EV

/-! EvJ: targets, comprehensions. -/
namespace EV
open PySem PySem.Spec PyProof.Rows L2
def gOf (K : PySem.W.Frag) : TG → L2.TG
  | .nm i => gName i
  | .two a b => gTup K 2 (gCons (gName a) (gCons (gName b) gNil))
def TG.slots : TG → List Nat
  | .nm i => [i]
  | .two a b => [a, b]
section
variable {X : Cx} {cal : Nat → List PV → M PV} {W : XW} {q : Bool} {pos : Pos}
/-- storing at a target -/
theorem ass_ok {K : PySem.W.Frag} {F : Hp} {α : List Addr} {H : Hp} {S : Sto} {g : TG} {x : PV} {v : V} {ρ ρ1 : Env} {σ : L2.St} {k : L2.St → Hp → Prop} (ha : assG g x ρ = some ρ1) (st : StR K F α S H) (en : EnR K F α ρ σ H) (r : Rp K F α x v)
    (h : ∀ σ1, EnR K F α ρ1 σ1 H → (∀ i, i ∉ g.slots → σ1[i]? = σ[i]?) → σ1.length = σ.length → k σ1 H) : gOf K g v σ H k := by
  cases g with
  | nm i =>
    cases ha
    exact h _ (en.set r) (fun j hj => List.getElem?_set_ne (fun e => hj (by rw [e]; exact List.mem_singleton.mpr rfl))) (List.length_set ..)
  | two a b =>
    cases x with
    | tup xs =>
      match xs, ha with
      | [x, y], ha =>
        cases ha
        cases r with
        | @tup _ vs p hs rs =>
          cases rs with
          | cons r1 rs =>
            cases rs with
            | cons r2 rs =>
              cases rs
              refine ⟨p, _, rfl, Same.seqT st.sub hs, rfl, _, _, rfl, _, _, rfl, rfl, ?_⟩
              refine h _ ((en.set r1).set r2) (fun j hj => ?_) (by rw [List.length_set, List.length_set])
              rw [List.getElem?_set_ne (fun e => hj (by rw [e]; simp [TG.slots])), List.getElem?_set_ne (fun e => hj (by rw [e]; simp [TG.slots]))]
    | _ => cases ha
/-- [elt for tg in it if c] -/
theorem u_lc {elt tg it : Expr} {ifs : List Expr} {scope : Scope} {own : List (Str × Nat)} {g : TG} {ii : IT} {ic : To} {ie : E} (hc : X.calm = true) (hN : X.N.Nodup) (hi : PI X tg it (tI X.K cal W true ii)) (ok : BlkOk X.N X.env.scope scope own)
    (hg : ∀ (s : Shared) (H : Hp) (C : Addr) (cl : List (Str × Addr)) (fp : List Addr), PG (X.blk s H scope (compEnvC scope cl C X.env) fp) tg (gOf X.K g))
    (ht : ∀ (s : Shared) (H : Hp) (C : Addr) (cl : List (Str × Addr)) (fp : List Addr), PTs (X.blk s H scope (compEnvC scope cl C X.env) fp) ifs (tTo X.K cal (fun _ _ _ => False) ic))
    (he : ∀ (s : Shared) (H : Hp) (C : Addr) (cl : List (Str × Addr)) (fp : List Addr), PE (X.blk s H scope (compEnvC scope cl C X.env) fp) elt (tE X.K cal (fun _ _ _ => False) false ie))
    (hs : ∀ x, foldedSetIterable it X.env x = pure x) (hsl : ∀ i ∈ g.slots, i ∈ own.map (·.2)) :
    ∀ σ H Q, tU X.K cal W (.lc g ii ic ie (own.map (·.2))) σ H Q → tLc (tI X.K cal W true ii) (gOf X.K g) (tTo X.K cal (fun _ _ _ => False) ic) (tE X.K cal (fun _ _ _ => False) false ie) (own.map (·.2)) σ H Q := by
  intro σ H0 Q ⟨F, α, ρ, S, st, en, w⟩
  simp only [evE, wp_bind, wp_ite, wp_stuck, wp_pure] at w
  refine ⟨F, α, ρ, S, st, en, w.mono (fun r S1 c F1 α1 H1 J pin e1 st1 jok pr => ?_) fun _ _ z => z⟩
  obtain ⟨items, gd⟩ := r
  by_cases hl : items.length ≤ sizeLine
  · rw [if_pos hl] at c
    intro D hD
    have en1 := (en.ext e1).wiped (own.map (·.2))
    have pinS : ∀ {F2 α2 H}, Ext F1 α1 H1 F2 α2 H → pinOk pin H := fun e a vs h => (e.free (pr a vs h).2.1 (pr a vs h).2.2.1 (pr a vs h).2.2.2).1
    refine ⟨fun i m H => m = items.length - i ∧ i ≤ items.length ∧ ∃ F2 α2 S2 acc vs, Ext F1 α1 H1 F2 α2 H ∧ StR X.K F2 α2 S2 H ∧ H D = some (.lst vs) ∧ RpL X.K F2 α2 acc vs ∧ F2 D = none ∧ D ∉ α2 ∧ acc.length ≤ i ∧
      (lcGo g (evTo cal ic) (evE cal false ie) gd (wipe ρ (own.map (·.2))) (items.drop i) acc S2).wp (fun ys S' => FinU X.K F α H0 ys S' Q) (FinX X.K W F α H0), ⟨items.length, ?_⟩, ?_⟩
    · obtain ⟨e2, st2⟩ := allocU (o := .lst []) st1 hD
      refine ⟨by omega, by omega, F1, α1, S1, [], [], e2, st2, upd_same, .nil, st1.none_F hD, st1.none_mem hD, Nat.zero_le _, ?_⟩
      refine Res.wp.mono c (fun ys S' ⟨xs, hx, f⟩ => ?_) fun _ _ z => z
      cases hx
      exact f
    · rintro i m H ⟨rfl, hi, F2, α2, S2, acc, vs, e2, st2, hDv, racc, fD, nD, hacc, w2⟩
      by_cases hlt : i < items.length
      · rw [List.drop_eq_getElem_cons hlt] at w2
        simp only [lcGo, wp_bind, wp_getS, wp_ite, wp_stuck, wp_ofO, wp_noX] at w2
        by_cases hgd : gd.ok S2
        · rw [if_pos hgd] at w2
          obtain ⟨ρ1, hρ1, w3⟩ := w2
          obtain ⟨turn, _⟩ := jok F2 α2 S2 H e2.f e2.pre st2 hgd (pinS e2)
          obtain ⟨go, yl⟩ := turn i items[i] (List.getElem?_eq_getElem hlt)
          refine .inr ⟨go, fun H' => ∃ F2 α2 S2 acc vs, Ext F1 α1 H1 F2 α2 H' ∧ StR X.K F2 α2 S2 H' ∧ H' D = some (.lst vs) ∧ RpL X.K F2 α2 acc vs ∧ F2 D = none ∧ D ∉ α2 ∧ acc.length ≤ i + 1 ∧
            (lcGo g (evTo cal ic) (evE cal false ie) gd (wipe ρ (own.map (·.2))) (items.drop (i + 1)) acc S2).wp (fun ys S' => FinU X.K F α H0 ys S' Q) (FinX X.K W F α H0), fun H' h => ⟨items.length - (i + 1), by omega, rfl, by omega, h⟩, fun v H2 hy => ?_⟩
          obtain ⟨F3, e3, st3, r3⟩ := yl v H2 hy
          obtain ⟨hDv3, fD3, nD3⟩ := e3.free hDv fD nD
          refine ass_ok hρ1 st3 ((en1.ext e2).ext e3) r3 fun σ1 en3 hσ hlen => ?_
          refine ⟨?_, ?_⟩
          · refine (wipeV_ext (by rw [hlen, L2.wipe_length]) fun j hj => ?_)
            rw [hσ j (fun z => hj (hsl j z)), wipeV_get hj]
          · refine ⟨F3, α2, ρ1, S2, st3, en3, Res.wp.mono w3 (fun b S4 w4 F4 α4 H4 b' e4 st4 rb => ?_) fun _ _ z => z.elim⟩
            subst rb
            obtain ⟨hDv4, fD4, nD4⟩ := e4.free hDv3 fD3 nD3
            have e14 := (e2.trans e3).trans e4
            cases b' with
            | false =>
              rw [if_neg Bool.false_ne_true] at w4 ⊢
              exact ⟨F4, α4, S4, acc, vs, e14, st4, hDv4, (e3.trans e4).rpl racc, fD4, nD4, by omega, w4⟩
            | true =>
              rw [if_pos rfl] at w4 ⊢
              refine ⟨F4, α4, ρ1, S4, st4, en3.ext e4, Res.wp.mono w4 (fun y S5 w5 F5 α5 H5 yv e5 st5 ry => ?_) fun _ _ z => z.elim⟩
              obtain ⟨hDv5, fD5, nD5⟩ := e5.free hDv4 fD4 nD4
              have racc5 := ((e3.trans e4).trans e5).rpl racc
              refine ⟨vs, hDv5, by rw [← racc.length]; omega, F5, α5, S5, acc ++ [y], vs ++ [yv], (e14.trans e5).unf hD, st5.unf fD5 nD5, upd_same, racc5.append (.one ry.val), fD5, nD5, by rw [List.length_append, List.length_singleton]; omega, w5⟩
        · rw [if_neg hgd] at w2; exact w2.elim
      · have e : i = items.length := by omega
        subst e
        rw [List.drop_length] at w2
        simp only [lcGo] at w2
        by_cases hgd : gd.ok S2
        · have w3 := w2
          rw [if_pos hgd] at w3
          obtain ⟨_, stp⟩ := jok F2 α2 S2 H e2.f e2.pre st2 hgd (pinS e2)
          exact .inl ⟨stp, w3 F2 α2 H D vs (e1.trans e2) st2 (e1.som D hD) hDv fD nD racc⟩
        · rw [if_neg hgd] at w2; exact w2.elim
  · rw [if_neg hl] at c; exact c.elim
end
end EV

/-! EvK: statements. -/
namespace EV
open PySem PySem.Spec PyProof.Rows L2
/-- a def's entry -/
structure En where
  F : Hp
  α : List Addr
  H : Hp
  Fb : Hp
  αb : List Addr
structure ExtB (N : En) (F : Hp) (α : List Addr) (H : Hp) : Prop where
  e : Ext N.F N.α N.H F α H
  bs : Same N.Fb F
  bp : Pre N.αb α
theorem ExtB.trans {N : En} {F : Hp} {α : List Addr} {H F' : Hp} {α' : List Addr} {H' : Hp} (x : ExtB N F α H) (g : Ext F α H F' α' H') : ExtB N F' α' H' := ⟨x.e.trans g, x.bs.trans g.f, x.bp.trans g.pre⟩
theorem ExtB.unf {N : En} {F : Hp} {α : List Addr} {H : Hp} {p : Addr} {o : HO} (x : ExtB N F α H) (hp : N.H p = none) : ExtB N F α (upd H p o) := ⟨x.e.unf hp, x.bs, x.bp⟩
theorem ExtB.som {N : En} {F : Hp} {α : List Addr} {H : Hp} (x : ExtB N F α H) (a : Addr) (h : H a = none) : N.H a = none := x.e.som a h
/-- where a body stands -/
structure StE (K : PySem.W.Frag) (N : En) (F : Hp) (α : List Addr) (ρ : Env) (S : Sto) (σ : L2.St) (H : Hp) : Prop where
  st : StR K F α S H
  en : EnR K F α ρ σ H
  ex : ExtB N F α H
  ow : ∀ (i : Nat) (xs : List PV) (a : Addr), ρ[i]? = some (some (.own xs)) → σ[i]? = some (some (.ref a)) → N.H a = none
section
variable {K : PySem.W.Frag} {N : En} {F F' : Hp} {α α' : List Addr} {ρ : Env} {S S' : Sto} {σ : L2.St} {H H' : Hp}
theorem StE.ext (z : StE K N F α ρ S σ H) (e : Ext F α H F' α' H') (st : StR K F' α' S' H') : StE K N F' α' ρ S' σ H' := ⟨st, z.en.ext e, z.ex.trans e, z.ow⟩
end
section
variable (K : PySem.W.Frag) (W : XW) (N : En)
def FinO (D : Ends) (o : Out) (S' : Sto) : Prop := match o with
  | .next ρ' => ∀ F' α' σ' H', StE K N F' α' ρ' S' σ' H' → D.nx σ' H'
  | .ret v => ∀ F' α' H' v', Ext N.F N.α N.H F' α' H' → StR K F' α' S' H' → Rp K F' α' v v' → D.rt v' H'
def tS (m : Env → M Out) : TS := fun D σ H => ∃ F α ρ S, StE K N F α ρ S σ H ∧ (m ρ S).wp (FinO K N D) (FinX K W N.F N.α N.H)
/-- a value that is to be stored: o: the name alone will know it -/
def tV (cal : Nat → List PV → M PV) (o : Bool) (e : E) : TE := fun σ H Q => ∃ F α ρ S, StR K F α S H ∧ EnR K F α ρ σ H ∧ (evE cal false e ρ S).wp (fun x S' => ∃ sv, svOf o x = some sv ∧
  ∀ F' α' H' v, Ext F α H F' α' H' → StR K F' α' S' H' → SvR K F' α' H' sv v → (∀ xs a, sv = .own xs → v = .ref a → H a = none) → Q v H') (FinX K W F α H)
end
section
variable {X : Cx} {cal : Nat → List PV → M PV} {W : XW} {N : En} {q : Bool} {pos : Pos}
theorem v_of_E {e : Expr} {ie : E} (h : PE X e (tEX X cal W false ie)) : PE X e (tV X.K W cal false ie) :=
  pe_imp h fun σ H Q ⟨F, α, ρ, S, st, en, w⟩ => ⟨F, α, ρ, S, st, en, w.mono (fun x S' ⟨sv, hs, c⟩ F1 α1 H1 v e st1 r => by
    cases hs
    exact c F1 α1 H1 v e st1 r.val (fun xs a h => nomatch h)) fun _ _ z => z⟩
theorem v_of_U {σ : L2.St} {H : Hp} {Q : VK} {ie : E} (h : tV X.K W cal true ie σ H Q) : tU X.K cal W ie σ H Q :=
  let ⟨F, α, ρ, S, st, en, w⟩ := h
  ⟨F, α, ρ, S, st, en, w.mono (fun x S' ⟨sv, hs, c⟩ => by
    cases x with
    | lst xs =>
      cases hs
      exact ⟨xs, rfl, fun F1 α1 H1 p vs e st1 hp h1 h2 h3 r => c F1 α1 H1 _ e st1 ⟨p, vs, rfl, h1, r, h2, h3⟩ fun ys a _ ha => by cases ha; exact hp⟩
    | _ => cases hs) fun _ _ z => z⟩
/-- a fresh list as a value -/
theorem E_of_U {σ : L2.St} {H : Hp} {Q : VK} {ie : E} (hl : ∀ ρ S x S', evE cal false ie ρ S = .ok x S' → ∃ xs, x = .lst xs) (h : tE X.K cal W false ie σ H Q) : tU X.K cal W ie σ H Q :=
  let ⟨F, α, ρ, S, st, en, w⟩ := h
  ⟨F, α, ρ, S, st, en, by
    cases r : evE cal false ie ρ S with
    | ok x S' =>
      rw [r] at w
      obtain ⟨xs, rfl⟩ := hl ρ S x S' r
      exact ⟨xs, rfl, FinU.of w⟩
    | exc x S' => rw [r] at w; exact w
    | stuck => rw [r] at w; exact w⟩
theorem ps_imp {st : Stmt} {t t' : TS} (h : PS X st t) (m : ∀ D σ H, t' D σ H → t D σ H) : PS X st t' := ⟨fun pins s σ H D I hq => h.run pins s σ H D I (m D σ H hq)⟩
theorem pss_imp {st : List Stmt} {t t' : TS} (h : PSs X st t) (m : ∀ D σ H, t' D σ H → t D σ H) : PSs X st t' := ⟨fun pins s σ H D I hq => h.run pins s σ H D I (m D σ H hq)⟩
theorem tAsg_imp {te te' : TE} {g : L2.TG} (m : ∀ σ H Q, te' σ H Q → te σ H Q) : ∀ D σ H, tAsg te' g D σ H → tAsg te g D σ H := fun D σ H h => m σ H _ h
/-! ### stores -/
theorem EnR.setO {K : PySem.W.Frag} {F : Hp} {α : List Addr} {ρ : Env} {σ : L2.St} {H : Hp} (r : EnR K F α ρ σ H) {i : Nat} {xs : List PV} {v : V} (h : SvR K F α H (.own xs) v)
    (hn : ∀ (j : Nat) (ys : List PV), j ≠ i → ρ[j]? = some (some (SV.own ys)) → σ[j]? ≠ some (some v)) : EnR K F α (ρ.set i (some (.own xs))) (σ.set i (some v)) H := by
  refine ⟨by rw [List.length_set, List.length_set, r.ln], fun j sv h1 => ?_, fun j k ys zs a h1 h2 h3 h4 => ?_⟩
  · by_cases e : i = j
    · subst e
      by_cases hl : i < ρ.length
      · rw [List.getElem?_set_self hl] at h1
        cases h1
        exact ⟨v, List.getElem?_set_self (by rw [← r.ln]; exact hl), h⟩
      · rw [List.getElem?_eq_none (by rw [List.length_set]; omega)] at h1; cases h1
    · rw [List.getElem?_set_ne e] at h1
      obtain ⟨u, h2, h3⟩ := r.sl j sv h1
      exact ⟨u, by rw [List.getElem?_set_ne e]; exact h2, h3⟩
  · have self : ∀ {m : Nat} {ws : List PV}, (ρ.set i (some (.own xs)))[m]? = some (some (.own ws)) → (σ.set i (some v))[m]? = some (some (.ref a)) → (m = i ∧ v = .ref a) ∨ (m ≠ i ∧ ρ[m]? = some (some (.own ws)) ∧ σ[m]? = some (some (.ref a))) := fun {m ws} g1 g2 => by
      by_cases e : i = m
      · subst e
        by_cases hl : i < σ.length
        · rw [List.getElem?_set_self hl] at g2
          cases g2
          exact .inl ⟨rfl, rfl⟩
        · rw [List.getElem?_eq_none (by rw [List.length_set]; omega)] at g2; cases g2
      · rw [List.getElem?_set_ne e] at g1 g2
        exact .inr ⟨Ne.symm e, g1, g2⟩
    rcases self h1 h3 with ⟨e1, e2⟩ | ⟨n1, g1, g2⟩
    · rcases self h2 h4 with ⟨e3, e4⟩ | ⟨n3, g3, g4⟩
      · rw [e1, e3]
      · rw [← e2] at g4
        exact absurd g4 (hn k zs n3 g3)
    · rcases self h2 h4 with ⟨e3, e4⟩ | ⟨n3, g3, g4⟩
      · rw [← e4] at g2
        exact absurd g2 (hn j ys n1 g1)
      · exact r.ap j k ys zs a g1 g3 g2 g4
/-- a store of a value that just came -/
theorem StE.store {K : PySem.W.Frag} {F : Hp} {α : List Addr} {ρ : Env} {S : Sto} {σ : L2.St} {H : Hp} (z : StE K N F α ρ S σ H) {i : Nat} {sv : SV} {v : V} (h : SvR K F α H sv v)
    (hn : ∀ xs a, sv = .own xs → v = .ref a → N.H a = none ∧ ∀ (j : Nat) (ys : List PV), j ≠ i → ρ[j]? = some (some (SV.own ys)) → σ[j]? ≠ some (some v)) : StE K N F α (ρ.set i (some sv)) S (σ.set i (some v)) H := by
  cases sv with
  | val x =>
    refine ⟨z.st, z.en.set h, z.ex, fun j xs a h1 h2 => ?_⟩
    by_cases e : i = j
    · subst e
      by_cases hl : i < ρ.length
      · rw [List.getElem?_set_self hl] at h1; cases h1
      · rw [List.getElem?_eq_none (by rw [List.length_set]; omega)] at h1; cases h1
    · rw [List.getElem?_set_ne e] at h1 h2
      exact z.ow j xs a h1 h2
  | own xs =>
    obtain ⟨a, vs, rfl, h1, h2, h3, h4⟩ := id h
    obtain ⟨g1, g2⟩ := hn xs a rfl rfl
    refine ⟨z.st, z.en.setO h g2, z.ex, fun j ys b k1 k2 => ?_⟩
    by_cases e : i = j
    · subst e
      by_cases hl : i < σ.length
      · rw [List.getElem?_set_self hl] at k2
        cases k2
        exact g1
      · rw [List.getElem?_eq_none (by rw [List.length_set]; omega)] at k2; cases k2
    · rw [List.getElem?_set_ne e] at k1 k2
      exact z.ow j ys b k1 k2
/-- a new address is no slot's -/
theorem StE.new {K : PySem.W.Frag} {F : Hp} {α : List Addr} {ρ : Env} {S : Sto} {σ : L2.St} {H : Hp} (z : StE K N F α ρ S σ H) {a : Addr} (h : H a = none) : N.H a = none ∧ ∀ (j : Nat) (ys : List PV), ρ[j]? = some (some (SV.own ys)) → σ[j]? ≠ some (some (V.ref a)) := by
  refine ⟨z.ex.som a h, fun j ys h1 h2 => ?_⟩
  obtain ⟨v, h3, b, vs, h4, h5, _⟩ := z.en.sl j _ h1
  rw [h2] at h3
  cases h3
  cases h4
  rw [h] at h5; cases h5
theorem s_name {st : Stmt} {i : Nat} {o : Bool} {ie : E} (h : PS X st (tAsg (tV X.K W cal o ie) (gName i))) :
    PS X st (tS X.K W N fun ρ => do let x ← evE cal false ie ρ; let v ← ofO (svOf o x); pure (.next (ρ.set i (some v)))) :=
  ps_imp h fun D σ H ⟨F, α, ρ, S, z, w⟩ => by
    simp only [wp_bind, wp_ofO, wp_pure] at w
    refine ⟨F, α, ρ, S, z.st, z.en, w.mono (fun x S' ⟨sv, hs, f⟩ => ⟨sv, hs, fun F' α' H' v e st r hn => ?_⟩) fun _ _ x => FinX.behind x z.ex.e⟩
    exact f F' α' _ H' ((z.ext e st).store r fun xs a h1 h2 => by
      subst h2
      obtain ⟨g1, g2⟩ := z.new (hn xs a h1 rfl)
      exact ⟨g1, fun j ys _ => g2 j ys⟩)
theorem s_set {st : Stmt} {i : Nat} {ie : E} (h : PS X st (tAsg (tV X.K W cal false ie) (gName i))) : PS X st (tS X.K W N (exS cal (.set (.nm i) ie))) :=
  ps_imp (s_name h) fun D σ H ⟨F, α, ρ, S, z, w⟩ => ⟨F, α, ρ, S, z, by
    simp only [exS, wp_bind, wp_ofO, wp_pure] at w ⊢
    exact w.mono (fun x S' ⟨ρ1, h1, f⟩ => ⟨.val x, rfl, by cases h1; exact f⟩) fun _ _ x => x⟩
theorem s_own {st : Stmt} {i : Nat} {ie : E} (h : PS X st (tAsg (tV X.K W cal true ie) (gName i))) : PS X st (tS X.K W N (exS cal (.own i ie))) :=
  ps_imp (s_name h) fun D σ H ⟨F, α, ρ, S, z, w⟩ => ⟨F, α, ρ, S, z, by
    simp only [exS, wp_bind, wp_ofO, wp_pure] at w ⊢
    exact w⟩
theorem assG_own {g : TG} {x : PV} {ρ ρ1 : Env} {k : Nat} {xs : List PV} (h1 : assG g x ρ = some ρ1) (g1 : ρ1[k]? = some (some (.own xs))) : ρ[k]? = some (some (.own xs)) ∧ k ∉ g.slots := by
  have one : ∀ {j : Nat} {v : PV} {ρ : Env}, (ρ.set j (some (.val v)))[k]? = some (some (.own xs)) → ρ[k]? = some (some (.own xs)) ∧ k ≠ j := fun {j v ρ} g => by
    by_cases e : j = k
    · subst e
      by_cases hl : j < ρ.length
      · rw [List.getElem?_set_self hl] at g; cases g
      · rw [List.getElem?_eq_none (by rw [List.length_set]; omega)] at g; cases g
    · rw [List.getElem?_set_ne e] at g
      exact ⟨g, Ne.symm e⟩
  cases g with
  | nm j =>
    cases h1
    obtain ⟨a, b⟩ := one g1
    exact ⟨a, by simp [TG.slots]; exact b⟩
  | two j l =>
    cases x with
    | tup ys =>
      match ys, h1 with
      | [x1, x2], h1 =>
        cases h1
        obtain ⟨a, b⟩ := one g1
        obtain ⟨c, d⟩ := one a
        exact ⟨c, by simp [TG.slots]; exact ⟨d, b⟩⟩
    | _ => cases h1
theorem StE.ass {K : PySem.W.Frag} {F : Hp} {α : List Addr} {ρ ρ1 : Env} {S : Sto} {σ σ1 : L2.St} {H : Hp} {g : TG} {x : PV} (z : StE K N F α ρ S σ H) (h1 : assG g x ρ = some ρ1) (en1 : EnR K F α ρ1 σ1 H) (hσ : ∀ i, i ∉ g.slots → σ1[i]? = σ[i]?) : StE K N F α ρ1 S σ1 H :=
  ⟨z.st, en1, z.ex, fun k xs a g1 g2 => by
    obtain ⟨o1, o2⟩ := assG_own h1 g1
    rw [hσ k o2] at g2
    exact z.ow k xs a o1 g2⟩
/-- a, b = e -/
theorem s_two {st : Stmt} {i j : Nat} {ie : E} (h : PS X st (tAsg (tE X.K cal W false ie) (gOf X.K (.two i j)))) : PS X st (tS X.K W N (exS cal (.set (.two i j) ie))) :=
  ps_imp h fun D σ H ⟨F, α, ρ, S, z, w⟩ => by
    simp only [exS, wp_bind, wp_ofO, wp_pure] at w
    refine ⟨F, α, ρ, S, z.st, z.en, w.mono (fun x S' ⟨ρ1, h1, f⟩ F' α' H' v e st r => ?_) fun _ _ x => FinX.behind x z.ex.e⟩
    have z1 := z.ext e st
    exact ass_ok h1 st z1.en r.val fun σ1 en1 hσ hlen => f F' α' σ1 H' (z1.ass h1 en1 hσ)
end
end EV

/-! EvL: further statements, loops, blocks. -/
namespace EV
open PySem PySem.Spec PyProof.Rows L2
section
variable {X : Cx} {cal : Nat → List PV → M PV} {W : XW} {N : En} {q : Bool} {pos : Pos}
theorem tV_mono {K : PySem.W.Frag} {o : Bool} {e : E} {σ : L2.St} {H : Hp} {Q Q' : VK} (h : tV K W cal o e σ H Q) (m : ∀ v H, Q v H → Q' v H) : tV K W cal o e σ H Q' :=
  let ⟨F, α, ρ, S, st, en, w⟩ := h
  ⟨F, α, ρ, S, st, en, w.mono (fun x S1 ⟨sv, hs, c⟩ => ⟨sv, hs, fun F1 α1 H1 v e st1 r hn => m v H1 (c F1 α1 H1 v e st1 r hn)⟩) fun _ _ z => z⟩
/-- a, b = x, y -/
theorem s_par {st : Stmt} {i j : Nat} {oi oj : Bool} {ia ib : E} (hij : i ≠ j) (h : PS X st (tPar i j (tCons (tV X.K W cal oi ia) (tCons (tV X.K W cal oj ib) tNil)))) : PS X st (tS X.K W N (exS cal (.par i j oi oj ia ib))) :=
  ps_imp h fun D σ H ⟨F, α, ρ, S, z, w⟩ => by
    simp only [exS, wp_bind, wp_ofO, wp_pure] at w
    refine ⟨F, α, ρ, S, z.st, z.en, w.mono (fun x S1 ⟨sx, hx, c⟩ => ⟨sx, hx, fun F1 α1 H1 v e1 st1 r1 hn1 => ?_⟩) fun _ _ x => FinX.behind x z.ex.e⟩
    refine ⟨F1, α1, ρ, S1, st1, z.en.ext e1, c.mono (fun y S2 ⟨sy, hy, f⟩ => ⟨sy, hy, fun F2 α2 H2 u e2 st2 r2 hn2 => ⟨v, u, rfl, ?_⟩⟩) fun _ _ x => FinX.behind x (z.ex.trans e1).e⟩
    have z1 := z.ext e1 st1
    have z2 := z1.ext e2 st2
    have s1 := z2.store (i := i) (e2.sv r1) fun xs a h1 h2 => by
      subst h2
      obtain ⟨g1, g2⟩ := z.new (hn1 xs a h1 rfl)
      exact ⟨g1, fun k ys _ => g2 k ys⟩
    refine f F2 α2 _ H2 (s1.store r2 fun xs a h1 h2 => ?_)
    subst h2
    have na := hn2 xs a h1 rfl
    obtain ⟨g1, g2⟩ := z1.new na
    refine ⟨g1, fun k ys hk h3 h4 => ?_⟩
    by_cases e : i = k
    · subst e
      by_cases hl : i < ρ.length
      · rw [List.getElem?_set_self hl] at h3
        rw [List.getElem?_set_self (by rw [← z.en.ln]; exact hl)] at h4
        cases h3
        cases h4
        obtain ⟨b, vs, h5, h6, _⟩ := r1
        cases h5
        rw [na] at h6; cases h6
      · rw [List.getElem?_eq_none (by rw [List.length_set]; omega)] at h3; cases h3
    · rw [List.getElem?_set_ne e] at h3 h4
      exact g2 k ys h3 h4
theorem ownOf_inv {ρ : Env} {i : Nat} {xs : List PV} (h : ownOf ρ i = some xs) : ρ[i]? = some (some (.own xs)) := by
  unfold ownOf at h
  cases e : ρ[i]? with
  | none => rw [e] at h; cases h
  | some o =>
    rw [e] at h
    cases o with
    | none => cases h
    | some sv =>
      cases sv with
      | val x => cases h
      | own ys => cases h; rfl
/-- the frame's own list is changed in place -/
theorem StE.grow {K : PySem.W.Frag} {F : Hp} {α : List Addr} {ρ : Env} {S : Sto} {σ : L2.St} {H : Hp} (z : StE K N F α ρ S σ H) {i : Nat} {xs ys : List PV} {a : Addr} {ws : List V} (h : ρ[i]? = some (some (.own xs))) (hv : σ[i]? = some (some (.ref a))) (r : RpL K F α ys ws) :
    StE K N F α (ρ.set i (some (.own ys))) S σ (upd H a (.lst ws)) := by
  obtain ⟨v, h1, b, vs, h2, h3, h4, h5, h6⟩ := z.en.sl i _ h
  rw [hv] at h1
  cases h1
  cases h2
  have hN := z.ow i xs a h hv
  have hi : i < ρ.length := (List.getElem?_eq_some_iff.mp h).1
  have other : ∀ {j : Nat} {zs : List PV}, (ρ.set i (some (.own ys)))[j]? = some (some (.own zs)) → ∃ zs', ρ[j]? = some (some (.own zs')) := fun {j zs} g => by
    by_cases e : i = j
    · subst e; exact ⟨xs, h⟩
    · rw [List.getElem?_set_ne e] at g; exact ⟨zs, g⟩
  refine ⟨z.st.unf h5 h6, ⟨by rw [List.length_set, z.en.ln], fun j sv g => ?_, fun j k us zs b g1 g2 g3 g4 => ?_⟩, z.ex.unf hN, fun j zs b g1 g2 => ?_⟩
  · by_cases e : i = j
    · subst e
      rw [List.getElem?_set_self hi] at g
      cases g
      exact ⟨_, hv, a, ws, rfl, upd_same, r, h5, h6⟩
    · rw [List.getElem?_set_ne e] at g
      obtain ⟨u, k1, k2⟩ := z.en.sl j sv g
      refine ⟨u, k1, ?_⟩
      cases sv with
      | val x => exact k2
      | own us =>
        obtain ⟨b, ts, rfl, k3, k4⟩ := k2
        refine ⟨b, ts, rfl, ?_, k4⟩
        rw [upd_ne (fun q => e (z.en.ap i j xs us a h g hv (by rw [← q]; exact k1)))]
        exact k3
  · obtain ⟨us', g1⟩ := other g1
    obtain ⟨zs', g2⟩ := other g2
    exact z.en.ap j k us' zs' b g1 g2 g3 g4
  · obtain ⟨zs', g1⟩ := other g1
    exact z.ow j zs' b g1 g2
theorem own_at {ρ : Env} {F : Hp} {α : List Addr} {S : Sto} {σ : L2.St} {H : Hp} {i : Nat} {xs : List PV} (z : StE X.K N F α ρ S σ H) (h : ρ[i]? = some (some (.own xs))) : ∃ a vs, σ[i]? = some (some (.ref a)) ∧ H a = some (.lst vs) ∧ RpL X.K F α xs vs ∧ F a = none ∧ a ∉ α := by
  obtain ⟨v, h1, a, vs, h2, h3⟩ := z.en.sl i _ h
  subst h2
  exact ⟨a, vs, h1, h3⟩
/-- x.append(e) -/
theorem s_app {st : Stmt} {i : Nat} {ie : E} (h : PS X st (tDrop (tBM X.K "list" rAppend (tVar i) (tCons (tE X.K cal W false ie) tNil)))) : PS X st (tS X.K W N (exS cal (.app i ie))) :=
  ps_imp h fun D σ H ⟨F, α, ρ, S, z, w⟩ => by
    simp only [exS, wp_bind, wp_ofO, wp_ite, wp_pure, wp_stuck] at w
    obtain ⟨xs, hx, w⟩ := w
    have hi := ownOf_inv hx
    obtain ⟨a, vs, h1, h2, h3, h4, h5⟩ := own_at z hi
    refine ⟨_, h1, .inl ⟨rfl, vs, SqL.of h2⟩, F, α, ρ, S, z.st, z.en, w.mono (fun y S1 c F1 α1 H1 v e st r => ?_) fun _ _ x => FinX.behind x z.ex.e⟩
    by_cases hl : xs.length < sizeLine
    · rw [if_pos hl] at c
      obtain ⟨g1, g2, g3⟩ := e.free h2 h4 h5
      exact ⟨a, vs, v, rfl, rfl, g1, by rw [← h3.length]; exact hl, c F1 α1 σ _ ((z.ext e st).grow hi h1 ((e.rpl h3).append (.one r.val)))⟩
    · rw [if_neg hl] at c; exact c.elim
/-- x op= e -/
theorem bop_int {op : Operator} {o : BOp} {S : Sto} {i j : Int} {z : PV} (hop : bopOf op = some o) (h : binOp S o (.int i) (.int j) = some z) : ∃ k, z = .int k ∧ ∀ (X : Cx) (pins : List (Addr × Obj)) (s : Shared) (σ : L2.St) (H : Hp) (v u : Value) (Q : VK),
    Inv X pins σ H s → RelV (.int i) v → RelV (.int j) u → o ≠ .pow → Q (.int k) H → wpAny (model X.prog X.w) X.A (inplaceOp op v u) (EP X pins σ Q) X.xe s := by
  cases op with
  | Add => cases hop; cases h; exact ⟨_, rfl, fun X pins s σ H v u Q I r1 r2 _ f => iop_add pins s σ H _ _ v u Q I r1 r2 ⟨i, j, rfl, rfl, f⟩⟩
  | Sub => cases hop; cases h; exact ⟨_, rfl, fun X pins s σ H v u Q I r1 r2 _ f => iop_sub pins s σ H _ _ v u Q I r1 r2 ⟨i, j, rfl, rfl, f⟩⟩
  | Mult =>
    cases hop
    have h' : (if (i.natAbs < 2 ^ 64) ∨ (j.natAbs < 2 ^ 64) then some (PV.int (i * j)) else none) = some z := h
    by_cases h3 : (i.natAbs < 2 ^ 64) ∨ (j.natAbs < 2 ^ 64)
    · rw [if_pos h3] at h'
      cases h'
      refine ⟨_, rfl, fun X pins s σ H v u Q I r1 r2 _ f => iop_mul pins s σ H _ _ v u Q I r1 r2 ⟨i, j, rfl, rfl, ?_, f⟩⟩
      rcases h3 with h3 | h3
      · exact .inl (by omega)
      · exact .inr (by omega)
    · rw [if_neg h3] at h'; cases h'
  | FloorDiv =>
    cases hop
    have h' : (if 0 < j ∧ j < 1073741824 then some (PV.int (i / j)) else none) = some z := h
    by_cases h3 : 0 < j ∧ j < 1073741824
    · rw [if_pos h3] at h'
      cases h'
      exact ⟨_, rfl, fun X pins s σ H v u Q I r1 r2 _ f => iop_fdiv pins s σ H _ _ v u Q I r1 r2 ⟨i, j, rfl, rfl, h3, f⟩⟩
    · rw [if_neg h3] at h'; cases h'
  | Mod =>
    cases hop
    have h' : (if 0 < j then some (PV.int (i % j)) else none) = some z := h
    by_cases h3 : 0 < j
    · rw [if_pos h3] at h'
      cases h'
      exact ⟨_, rfl, fun X pins s σ H v u Q I r1 r2 _ f => iop_mod pins s σ H _ _ v u Q I r1 r2 ⟨i, j, rfl, rfl, h3, f⟩⟩
    · rw [if_neg h3] at h'; cases h'
  | Pow =>
    cases hop
    have h' : (if 0 ≤ j ∧ j ≤ 1000000 ∧ i.natAbs < 2 ^ 64 then some (PV.int (i ^ j.toNat)) else none) = some z := h
    by_cases h3 : 0 ≤ j ∧ j ≤ 1000000 ∧ i.natAbs < 2 ^ 64
    · rw [if_pos h3] at h'
      cases h'
      exact ⟨_, rfl, fun X pins s σ H v u Q I r1 r2 np f => absurd rfl np⟩
    · rw [if_neg h3] at h'; cases h'
  | _ => cases hop
theorem s_aug {st : Stmt} {i : Nat} {ie : E} {op : Operator} {o : BOp} (hop : bopOf op = some o) (np : o ≠ .pow) (h : ∀ ti, PIp X op ti → PS X st (tAug i (tE X.K cal W true ie) ti)) : PS X st (tS X.K W N (exS cal (.aug i o ie))) := by
  refine ⟨fun pins s σ H D I ⟨F, α, ρ, S, z, w⟩ => ?_⟩
  simp only [exS] at w
  cases hi : ρ[i]? with
  | none => rw [hi] at w; exact w.elim
  | some ov =>
    rw [hi] at w
    cases ov with
    | none => exact w.elim
    | some sv =>
      cases sv with
      | val x =>
        cases x with
        | int x =>
          have w' : (evE cal true ie ρ S).wp (fun y S1 => (asInt y S1).wp (fun j S2 => ∃ r, binOp S2 o (.int x) (.int j) = some r ∧ FinO X.K N D (.next (ρ.set i (some (.val r)))) S2) (FinX X.K W N.F N.α N.H)) (FinX X.K W N.F N.α N.H) := by
            simp only [wp_bind, wp_getS, wp_ofO, wp_pure] at w
            exact w
          obtain ⟨v, h1, h2⟩ := z.en.sl i _ hi
          have hv : v = .int x := by cases h2; rfl
          subst hv
          -- the operator's answer, told of any two ints
          refine (h (fun a b H Q => ∃ x j S r, a = .int x ∧ b = .int j ∧ binOp S o (.int x) (.int j) = some r ∧ ∀ k, r = .int k → Q (.int k) H) (fun pins s σ H a b va vb Q I ra rb hh => ?_)).run pins s σ H D I ⟨_, h1, F, α, ρ, S, z.st, z.en, w'.mono (fun y S1 c F1 α1 H1 u e st r => ?_) fun _ _ x => FinX.behind x z.ex.e⟩
          · obtain ⟨x, j, S, r, rfl, rfl, hb, f⟩ := hh
            obtain ⟨k, rfl, run⟩ := bop_int hop hb
            exact run X pins s σ H va vb Q I ra rb np (f k rfl)
          · obtain ⟨j, hj, r2, hb, f⟩ := asInt_wp c
            subst hj
            refine ⟨x, j, S1, r2, rfl, r.int, hb, fun k hk => ?_⟩
            subst hk
            exact f F1 α1 _ H1 ((z.ext e st).store (sv := .val (.int k)) (.int k) fun xs a h _ => nomatch h)
        | _ => exact w.elim
      | own xs =>
        obtain ⟨a, vs, h1, h2, h3, h4, h5⟩ := own_at z hi
        have w' : (evE cal true ie ρ S).wp (fun y S1 => ∃ ys, lstOf S1 y = some ys ∧ (if o = .add ∧ xs.length + ys.length ≤ sizeLine then FinO X.K N D (.next (ρ.set i (some (.own (xs ++ ys))))) S1 else False)) (FinX X.K W N.F N.α N.H) := by
          simp only [wp_bind, wp_getS, wp_ofO, wp_ite, wp_pure, wp_stuck] at w
          exact w
        by_cases ho : op = .Add
        · subst ho
          cases hop
          refine (h _ iop_ext).run pins s σ H D I ⟨_, h1, F, α, ρ, S, z.st, z.en, w'.mono (fun y S1 ⟨ys, hy, c⟩ F1 α1 H1 u e st r => ?_) fun _ _ x => FinX.behind x z.ex.e⟩
          by_cases hl : BOp.add = .add ∧ xs.length + ys.length ≤ sizeLine
          · rw [if_pos hl] at c
            obtain ⟨g1, g2, g3⟩ := e.free h2 h4 h5
            obtain ⟨b, ws, rfl, k1, k2⟩ := r.lstOf st hy
            refine ⟨a, b, vs, ws, rfl, rfl, g1, k1, by rw [← h3.length, ← k2.length]; exact hl.2, ?_⟩
            have e1 : σ.set i (some (.ref a)) = σ := by
              have hi' := List.getElem?_eq_some_iff.mp h1
              rw [← hi'.2, List.set_getElem_self]
            show D.nx (σ.set i (some (.ref a))) _
            rw [e1]
            exact c F1 α1 σ _ ((z.ext e st).grow hi h1 ((e.rpl h3).append k2))
          · rw [if_neg hl] at c; exact c.elim
        · have hno : o ≠ .add := fun e => ho (by
            subst e
            cases op <;> first
              | rfl
              | cases hop)
          refine (h (fun _ _ _ _ => False) (fun _ _ _ _ _ _ _ _ _ _ _ _ hh => hh.elim)).run pins s σ H D I ⟨_, h1, F, α, ρ, S, z.st, z.en, w'.mono (fun y S1 ⟨ys, hy, c⟩ F1 α1 H1 u e st r => ?_) fun _ _ x => FinX.behind x z.ex.e⟩
          rw [if_neg (fun hh => hno hh.1)] at c
          exact c.elim
/-- tg = x.pop() -/
theorem s_pop {st : Stmt} {i : Nat} {g : TG} (h : PS X st (tAsg (tBM0 X.K "list" rPop (tVar i)) (gOf X.K g))) : PS X st (tS X.K W N (exS cal (.pop g i))) :=
  ps_imp h fun D σ H ⟨F, α, ρ, S, z, w⟩ => by
    simp only [exS, wp_bind, wp_ofO, wp_pure] at w
    obtain ⟨xs, hx, y, hy, ρ1, h1, f⟩ := w
    have hi := ownOf_inv hx
    obtain ⟨a, vs, k1, k2, k3, k4, k5⟩ := own_at z hi
    rw [List.getLast?_eq_getElem?] at hy
    obtain ⟨v, hv, rv⟩ := k3.get hy
    refine ⟨_, k1, .inl ⟨rfl, vs, SqL.of k2⟩, a, vs, v, rfl, rfl, k2, by rw [← k3.length]; exact hv, ?_⟩
    have z1 := z.grow hi k1 k3.dropLast
    exact ass_ok h1 z1.st z1.en rv fun σ1 en1 hσ hlen => f F α σ1 _ (z1.ass h1 en1 hσ)
/-- o[i] = e -/
theorem s_put {st : Stmt} {ia ib ie : E} (h : PS X st (tAsg (tE X.K cal W false ie) (gSub (tE X.K cal W false ia) (tE X.K cal W false ib) rSetL))) : PS X st (tS X.K W N (exS cal (.put ia ib ie))) :=
  ps_imp h fun D σ H ⟨F, α, ρ, S, z, w⟩ => by
    simp only [exS, wp_bind, wp_ofO, wp_getS] at w
    refine ⟨F, α, ρ, S, z.st, z.en, w.mono (fun v S1 c F1 α1 H1 v' e st r => ?_) fun _ _ x => FinX.behind x z.ex.e⟩
    have z1 := z.ext e st
    refine ⟨F1, α1, ρ, S1, st, z1.en, c.mono (fun x S2 c F2 α2 H2 x' e2 st2 r2 => ?_) fun _ _ x => FinX.behind x z1.ex.e⟩
    have z2 := z1.ext e2 st2
    refine ⟨F2, α2, ρ, S2, st2, z2.en, c.mono (fun k S3 c F3 α3 H3 k' e3 st3 r3 => ?_) fun _ _ x => FinX.behind x z2.ex.e⟩
    have z3 := z2.ext e3 st3
    obtain ⟨S4, hS, f⟩ := c
    cases x with
    | ref n =>
      cases k with
      | int k =>
        have hS' : (match S3[n]? with
          | some (.lst xs) => (ixN xs.length k).map fun j => S3.set n (.lst (xs.set j v))
          | none => none) = some S4 := hS
        cases hn : S3[n]? with
        | none => rw [hn] at hS'; cases hS'
        | some so =>
          rw [hn] at hS'
          cases so with
          | lst xs =>
            obtain ⟨j, hj, rfl⟩ := map_inv hS'
            have hr := (e3.rpq r2).val
            cases hr with
            | @ref _ a ha =>
              obtain ⟨vs, h1, h2⟩ := st3.ob n _ _ hn ha
              obtain ⟨e4, st4⟩ := putS st3 (List.getElem?_eq_some_iff.mp hn).1 ha (h2.set (((e2.trans e3).rpq r).val) j)
              exact ⟨a, vs, k, j, rfl, r3.int, h1, by rw [← h2.length]; exact hj, f F3 α3 σ _ (z3.ext e4 st4)⟩
      | _ => cases hS
    | _ => cases hS
/-- e; return e -/
theorem s_exp {st : Stmt} {ie : E} (h : PS X st (tDrop (tE X.K cal W false ie))) : PS X st (tS X.K W N (exS cal (.exp ie))) :=
  ps_imp h fun D σ H ⟨F, α, ρ, S, z, w⟩ => by
    simp only [exS, wp_bind, wp_pure] at w
    exact ⟨F, α, ρ, S, z.st, z.en, w.mono (fun x S1 c F1 α1 H1 v e st r => c F1 α1 σ H1 (z.ext e st)) fun _ _ x => FinX.behind x z.ex.e⟩
theorem s_ret {st : Stmt} {ie : E} (h : PS X st (tRet (tE X.K cal W false ie))) : PS X st (tS X.K W N (exS cal (.ret ie))) :=
  ps_imp h fun D σ H ⟨F, α, ρ, S, z, w⟩ => by
    simp only [exS, wp_bind, wp_pure] at w
    exact ⟨F, α, ρ, S, z.st, z.en, w.mono (fun x S1 c F1 α1 H1 v e st r => c F1 α1 H1 v (z.ex.trans e).e st r.val) fun _ _ x => FinX.behind x z.ex.e⟩
theorem s_cnd {st : Stmt} {it : T} {a b : Ss} (h : PS X st (tIfS (tT X.K cal W it) (tS X.K W N (exSs cal a)) (tS X.K W N (exSs cal b)))) : PS X st (tS X.K W N (exS cal (.cnd it a b))) :=
  ps_imp h fun D σ H ⟨F, α, ρ, S, z, w⟩ => by
    simp only [exS, wp_bind, wp_ite] at w
    refine ⟨F, α, ρ, S, z.st, z.en, w.mono (fun k S1 c F1 α1 H1 v e st r => ?_) fun _ _ x => FinX.behind x z.ex.e⟩
    subst r
    cases v with
    | true => rw [if_pos rfl] at c ⊢; exact ⟨F1, α1, ρ, S1, z.ext e st, c⟩
    | false => rw [if_neg Bool.false_ne_true] at c ⊢; exact ⟨F1, α1, ρ, S1, z.ext e st, c⟩
end
end EV

/-! EvM: loops, blocks. -/
namespace EV
open PySem PySem.Spec PyProof.Rows L2
section
variable {X : Cx} {cal : Nat → List PV → M PV} {W : XW} {N : En} {q : Bool} {pos : Pos}
theorem wp_andThen (o : Out) (f : Env → M Out) (s : Sto) (Nn : Out → Sto → Prop) (Ee : Exc → Sto → Prop) : ((o.andThen f) s).wp Nn Ee = match o with
    | .next ρ => (f ρ s).wp Nn Ee
    | .ret v => Nn (.ret v) s := by
  cases o <;> rfl
theorem whileM_wp {t : Env → M Bool} {b : Env → M Out} {ρ : Env} {S : Sto} {Nn : Out → Sto → Prop} {Ee : Exc → Sto → Prop} (h : (whileM t b ρ S).wp Nn Ee) : ∃ n, (whileN t b n ρ S).wp Nn Ee := by
  unfold whileM at h
  split at h
  · rename_i hx
    exact ⟨_, h⟩
  · exact h.elim
theorem s_whl {st : Stmt} {it : T} {b : Ss} (h : PS X st (tWhile (tT X.K cal W it) (tS X.K W N (exSs cal b)))) : PS X st (tS X.K W N (exS cal (.whl it b))) :=
  ps_imp h fun D σ H ⟨F, α, ρ, S, z, w⟩ => by
    simp only [exS] at w
    obtain ⟨n0, w⟩ := whileM_wp w
    refine ⟨fun n σ H => ∃ F α ρ S, StE X.K N F α ρ S σ H ∧ (whileN (evT cal it) (exSs cal b) n ρ S).wp (FinO X.K N D) (FinX X.K W N.F N.α N.H), ⟨n0, F, α, ρ, S, z, w⟩, ?_⟩
    rintro n σ H ⟨F, α, ρ, S, z, w⟩
    cases n with
    | zero => exact w.elim
    | succ n =>
      simp only [whileN, wp_bind, wp_ite, wp_pure] at w
      refine ⟨F, α, ρ, S, z.st, z.en, w.mono (fun k S1 c F1 α1 H1 v e st r => ?_) fun _ _ x => FinX.behind x z.ex.e⟩
      subst r
      have z1 := z.ext e st
      cases v with
      | false =>
        rw [if_neg Bool.false_ne_true] at c ⊢
        exact c F1 α1 σ H1 z1
      | true =>
        rw [if_pos rfl] at c ⊢
        refine ⟨fun σ H => ∃ F α ρ S, StE X.K N F α ρ S σ H ∧ (whileN (evT cal it) (exSs cal b) n ρ S).wp (FinO X.K N D) (FinX X.K W N.F N.α N.H), fun σ' H' g => ⟨n, Nat.lt_succ_self n, g⟩, F1, α1, ρ, S1, z1, c.mono (fun o S2 c => ?_) fun _ _ x => x⟩
        rw [wp_andThen] at c
        cases o with
        | next ρ2 => exact fun F2 α2 σ2 H2 z2 => ⟨F2, α2, ρ2, S2, z2, c⟩
        | ret v => exact c
/-- a block, from any entry -/
def tA (K : PySem.W.Frag) (W : XW) (m : Env → M Out) : TS := fun D σ H => ∃ N, tS K W N m D σ H
theorem s_for {st : Stmt} {g : TG} {it : IT} {b : Ss} (h : PS X st (tFor (tI X.K cal W false it) (gOf X.K g) (tA X.K W (exSs cal b)))) : PS X st (tS X.K W N (exS cal (.for g it b))) :=
  ps_imp h fun D σ H ⟨F, α, ρ, S, z, w⟩ => by
    simp only [exS, wp_bind] at w
    refine ⟨F, α, ρ, S, z.st, z.en, w.mono (fun r S1 c F1 α1 H1 J pin e st jok pr => ?_) fun _ _ x => FinX.behind x z.ex.e⟩
    obtain ⟨items, gd⟩ := r
    have z1 := z.ext e st
    have pn : ∀ H, pinOk pin H := fun H a vs h => absurd (pr a vs h).1 Bool.false_ne_true
    refine ⟨fun i m σ H => m = items.length - i ∧ i ≤ items.length ∧ ∃ F2 α2 ρ2 S2, StE X.K N F2 α2 ρ2 S2 σ H ∧ Same F1 F2 ∧ Pre α1 α2 ∧ (forGo g (exSs cal b) gd (items.drop i) ρ2 S2).wp (FinO X.K N D) (FinX X.K W N.F N.α N.H),
      ⟨items.length, by omega, Nat.zero_le _, F1, α1, ρ, S1, z1, Same.refl _, Pre.refl _, c⟩, ?_⟩
    rintro i m σ2 H2 ⟨rfl, hi, F2, α2, ρ2, S2, z2, sF, pα, w2⟩
    by_cases hlt : i < items.length
    · rw [List.drop_eq_getElem_cons hlt] at w2
      simp only [forGo, wp_bind, wp_getS, wp_ite, wp_stuck, wp_ofO] at w2
      by_cases hgd : gd.ok S2
      · rw [if_pos hgd] at w2
        obtain ⟨ρ3, h3, w3⟩ := w2
        obtain ⟨turn, _⟩ := jok F2 α2 S2 H2 sF pα z2.st hgd (pn H2)
        obtain ⟨go, yl⟩ := turn i items[i] (List.getElem?_eq_getElem hlt)
        refine .inr ⟨go, fun σ H => ∃ F2 α2 ρ2 S2, StE X.K N F2 α2 ρ2 S2 σ H ∧ Same F1 F2 ∧ Pre α1 α2 ∧ (forGo g (exSs cal b) gd (items.drop (i + 1)) ρ2 S2).wp (FinO X.K N D) (FinX X.K W N.F N.α N.H), fun σ' H' g => ⟨items.length - (i + 1), by omega, rfl, by omega, g⟩, fun v H3 hy => ?_⟩
        obtain ⟨F3, e3, st3, r3⟩ := yl v H3 hy
        have z3 := z2.ext e3 st3
        refine ass_ok h3 st3 z3.en r3 fun σ1 en1 hσ hlen => ?_
        have z4 : StE X.K N F3 α2 ρ3 S2 σ1 H3 := z3.ass h3 en1 hσ
        refine ⟨{ N with Fb := F1, αb := α1 }, F3, α2, ρ3, S2, ⟨z4.st, z4.en, ⟨z4.ex.e, sF.trans e3.f, pα⟩, z4.ow⟩, w3.mono (fun o S5 c5 => ?_) fun _ _ x => x⟩
        rw [wp_andThen] at c5
        cases o with
        | next ρ5 => exact fun F5 α5 σ5 H5 z5 => ⟨F5, α5, ρ5, S5, ⟨z5.st, z5.en, ⟨z5.ex.e, z1.ex.bs.trans z5.ex.bs, z1.ex.bp.trans z5.ex.bp⟩, z5.ow⟩, z5.ex.bs, z5.ex.bp, c5⟩
        | ret v => exact c5
      · rw [if_neg hgd] at w2; exact w2.elim
    · have ei : i = items.length := by omega
      subst ei
      rw [List.drop_length] at w2
      simp only [forGo] at w2
      by_cases hgd : gd.ok S2
      · rw [if_pos hgd] at w2
        obtain ⟨_, stp⟩ := jok F2 α2 S2 H2 sF pα z2.st hgd (pn H2)
        exact .inl ⟨stp, w2 F2 α2 σ2 H2 z2⟩
      · rw [if_neg hgd] at w2; exact w2.elim
end
end EV

/-! EvN: what compile says of an expression holds. -/
namespace EV
open PySem PySem.Spec PyProof.Rows L2
def bltNames : List Str := ["len", "abs", "int", "tuple", "list", "ord", "repr", "any", "all", "sum", "isinstance", "range", "bool", "str"]
/-- what the module's names are, for X -/
structure GG (g : Cfg) (cal : Nat → List PV → M PV) (X : Cx) : Prop where
  calm : X.calm = true
  room : Room 0 X.A
  gd : X.A.guards = some []
  free : ∀ x, x ∈ bltNames → g.free x = true → X.mg x = none
  con : ∀ x pv, g.con.lookup x = some pv → ∃ u v, X.mg x = some u ∧ RelV v u ∧ ∀ F α, Rp X.K F α pv v
  fns : ∀ (i : Nat) (x : Str), g.fns[i]? = some x → ∃ k f fd ps, Room k X.A ∧ X.mg x = some (.ref f) ∧ PySem.W.keepIn X.K (.ref f) = true ∧ Binds X.K fd ps [] ∧ FnG X.prog X.w X.K X.mg X.base k f fd ps (spOf X.K cal i)
structure GX (g : Cfg) (cal : Nat → List PV → M PV) (c : CC) (X : Cx) : Prop where
  gg : GG g cal X
  nm : X.N = c.N
  nd : X.N.Nodup
  sc : X.env.scope = c.sc
  kind : c.sc.kind = .function
  hasg : ∀ x i, c.asg x = some i → Loc X.env.scope x ∧ (X.fn x = true ∨ X.env.scope.names.lookup x = some .local)
theorem slotIn_ok : ∀ {l : List Str} {x : Str} {i : Nat}, slotIn l x = some i → l[i]? = some x
  | [], _, _, h => nomatch h
  | y :: r, x, i, h => by
    have h' : (if x = y then some 0 else (slotIn r x).map (· + 1)) = some i := h
    by_cases e : x = y
    · rw [if_pos e] at h'
      cases h'
      rw [e]
      rfl
    · rw [if_neg e] at h'
      obtain ⟨j, h1, rfl⟩ := map_inv h'
      rw [List.getElem?_cons_succ]
      exact slotIn_ok h1
theorem okNm_ok {x : Str} (h : okNm x = true) : (x == ("__debug__" : Str)) = false ∧ (x == ("__classdict__" : Str)) = false ∧ x ≠ "__name__" := by
  unfold okNm at h
  simp only [Bool.and_eq_true, Bool.not_eq_true'] at h
  exact ⟨h.1.1, h.1.2, fun e => by rw [e] at h; simp at h⟩
theorem isVis_ok {sc : Scope} {x : Str} (h : isVis sc x = true) : Vis sc x := by
  unfold isVis at h
  split at h
  · exact .inl (by assumption)
  · exact .inr (.inl (by assumption))
  · exact .inr (.inr (by assumption))
  · cases h
theorem slot_ok {c : CC} {x : Str} {i : Nat} (h : c.slot x = some i) : Vis c.sc x ∧ okNm x = true ∧ c.N[i]? = some x := by
  unfold CC.slot at h
  by_cases e : (isVis c.sc x && okNm x) = true
  · rw [if_pos e] at h
    rw [Bool.and_eq_true] at e
    exact ⟨isVis_ok e.1, e.2, slotIn_ok h⟩
  · rw [if_neg e] at h; cases h
theorem asg_ok {c : CC} {x : Str} {i : Nat} (h : c.asg x = some i) : okNm x = true ∧ c.N[i]? = some x := by
  unfold CC.asg at h
  by_cases e : (okNm x && c.asgB x) = true
  · rw [if_pos e] at h
    rw [Bool.and_eq_true] at e
    exact ⟨e.1, slotIn_ok h⟩
  · rw [if_neg e] at h; cases h
section
variable {g : Cfg} {cal : Nat → List PV → M PV} {W : XW} {c : CC} {X : Cx}
theorem GX.units (G : GX g cal c X) : X.A.units + 65 < cLine := by have := G.gg.room.un; omega
theorem GX.gl (G : GX g cal c X) {x : Str} (h : isGl c.sc x = true) : Gl X x := by
  have : X.env.scope.names.lookup x = some .globalImplicit := by rw [G.sc]; exact beq_iff_eq.mp h
  exact this
theorem GX.blk (G : GX g cal c X) {s : Shared} {H : Hp} {scope : Scope} {C : Addr} {cl : List (Str × Addr)} {fp : List Addr} (hk : scope.kind = .function) : GX g cal { c with sc := relS scope c.sc, inb := some scope } (X.blk s H scope (compEnvC scope cl C X.env) fp) where
  gg := ⟨G.gg.calm, G.gg.room, G.gg.gd, G.gg.free, G.gg.con, G.gg.fns⟩
  nm := G.nm
  nd := G.nd
  sc := by
    show relS scope X.env.scope = relS scope c.sc
    rw [G.sc]
  kind := hk
  hasg := fun x i h => by
    have hs : (compEnvC scope cl C X.env).scope = relS scope c.sc := by
      show relS scope X.env.scope = relS scope c.sc
      rw [G.sc]
    unfold CC.asg at h
    by_cases e : (okNm x && CC.asgB { c with sc := relS scope c.sc, inb := some scope } x) = true
    · simp only [CC.asgB, Bool.and_eq_true, Bool.or_eq_true, beq_iff_eq] at e
      rcases e.2 with ⟨e1, e2⟩ | ⟨e1, e2⟩
      · exact ⟨.inl (by show (compEnvC scope cl C X.env).scope.names.lookup x = _; rw [hs]; exact e2), .inr (by show (compEnvC scope cl C X.env).scope.names.lookup x = _; rw [hs]; exact e2)⟩
      · exact ⟨.inr (by show (compEnvC scope cl C X.env).scope.names.lookup x = _; rw [hs]; exact e2), .inl (by show (scope.names.lookup x == some .cell) = true; rw [e1]; rfl)⟩
    · rw [if_neg e] at h; cases h
/-- targets -/
theorem dst_ok (G : GX g cal c X) {e : Expr} {tg : TG} (h : dstOf c e = some tg) : PG X e (gOf X.K tg) := by
  have one : ∀ {x : Str} {i : Nat} {p : Pos}, c.asg x = some i → PG X (.Name x p) (gName i) := fun {x i p} h => by
    obtain ⟨h1, h2⟩ := asg_ok h
    obtain ⟨h3, h4⟩ := G.hasg x i h
    exact pg_name G.nd (by rw [G.nm]; exact h2) h3 h4
  cases e with
  | Name x p =>
    obtain ⟨i, h1, rfl⟩ := map_inv (show (c.asg x).map TG.nm = some tg from h)
    exact one h1
  | Tuple es k p =>
    match es, h with
    | [.Name x p1, .Name y p2], h =>
      obtain ⟨i, h1, h⟩ := bindO_inv (show (c.asg x).bind (fun i => (c.asg y).bind fun j => if i ≠ j then some (TG.two i j) else none) = some tg from h)
      obtain ⟨j, h2, h⟩ := bindO_inv h
      by_cases e : i ≠ j
      · rw [if_pos e] at h
        cases h
        exact pg_tup G.gg.calm (pgs_cons (one h1) (pgs_cons (one h2) pgs_nil)) rfl rfl
      · rw [if_neg e] at h; cases h
  | _ => cases h
theorem tyOf_ok {x : Str} {t : String} (h : tyOf x = some t) : x ∈ bltNames ∧ bootBuiltins x = some (.type t) ∧ t ∈ ["bool", "int", "str", "tuple", "list"] := by
  unfold tyOf at h
  split at h
  · rename_i e; subst e; cases h; exact ⟨by decide +kernel, boot_int, by simp⟩
  split at h
  · rename_i e; subst e; cases h; exact ⟨by decide +kernel, boot_bool, by simp⟩
  split at h
  · rename_i e; subst e; cases h; exact ⟨by decide +kernel, boot_str, by simp⟩
  split at h
  · rename_i e; subst e; cases h; exact ⟨by decide +kernel, boot_tuple, by simp⟩
  split at h
  · rename_i e; subst e; cases h; exact ⟨by decide +kernel, boot_list, by simp⟩
  · cases h
theorem biOf_ok {x : Str} {f : BI} (h : biOf x = some f) : x ∈ bltNames ∧ bootBuiltins x = some (biVal f) := by
  unfold biOf at h
  split at h
  · rename_i e; subst e; cases h; exact ⟨by decide +kernel, by decide +kernel⟩
  split at h
  · rename_i e; subst e; cases h; exact ⟨by decide +kernel, by decide +kernel⟩
  split at h
  · rename_i e; subst e; cases h; exact ⟨by decide +kernel, by decide +kernel⟩
  split at h
  · rename_i e; subst e; cases h; exact ⟨by decide +kernel, by decide +kernel⟩
  split at h
  · rename_i e; subst e; cases h; exact ⟨by decide +kernel, by decide +kernel⟩
  split at h
  · rename_i e; subst e; cases h; exact ⟨by decide +kernel, by decide +kernel⟩
  split at h
  · rename_i e; subst e; cases h; exact ⟨by decide +kernel, by decide +kernel⟩
  split at h
  · rename_i e; subst e; cases h; exact ⟨by decide +kernel, by decide +kernel⟩
  split at h
  · rename_i e; subst e; cases h; exact ⟨by decide +kernel, by decide +kernel⟩
  split at h
  · rename_i e; subst e; cases h; exact ⟨by decide +kernel, by decide +kernel⟩
  · cases h
theorem noStarE {n : Nat} {e : Expr} {i : E} (h : cE g n c e = some i) : ∀ x p, e ≠ .Starred x p := by
  rintro x p rfl
  cases n with
  | zero => simp only [cE] at h; cases h
  | succ n => simp only [cE] at h; cases h
theorem plainIxE {n : Nat} {e : Expr} {i : E} (h : cE g n c e = some i) : PlainIx e := by
  cases n with
  | zero => simp only [cE] at h; cases h
  | succ n =>
    cases e with
    | Slice a b d p => simp only [cE] at h; cases h
    | _ => exact fun _ _ => rfl
theorem plainEsE : ∀ {n : Nat} {es : List Expr} {is : Es}, cEs g n c es = some is → plainEs es
  | 0, _, _, h => by simp only [cEs] at h; cases h
  | n + 1, [], _, _ => fun e he => by cases he
  | n + 1, e :: r, is, h => by
    simp only [cEs] at h
    obtain ⟨i, h1, h⟩ := bindO_inv h
    obtain ⟨j, h2, _⟩ := map_inv h
    intro e' he
    rcases List.mem_cons.mp he with rfl | he
    · exact noStarE h1
    · exact plainEsE h2 e' he
theorem base_ok {o : Expr} {m : Str} {env : PySem.Env} (h : baseOk o = true) : attributeBase o m env (eval o env) = eval o env := by
  cases o with
  | Call f as ks p =>
    cases f with
    | Name id q =>
      cases as with
      | nil =>
        cases ks with
        | nil =>
          have h' : (!(id == ("super" : Str))) = true := h
          unfold attributeBase
          have e : (id != ("super" : Str)) = true := h'
          simp only [e, Bool.true_or, if_true]
          first | done | exact bind_pure _
        | cons _ _ => rfl
      | cons _ _ => rfl
    | _ => rfl
  | _ => rfl
end
end EV

/-! EvO: what compile says of an expression holds: the induction. -/
namespace EV
open PySem PySem.Spec PyProof.Rows L2
section
variable {g : Cfg} {cal : Nat → List PV → M PV}
theorem ok_bind {A B : Type} {m : M A} {f : A → M B} {S S' : Sto} {b : B} (h : (m >>= f) S = .ok b S') : ∃ a S1, m S = .ok a S1 ∧ f a S1 = .ok b S' := bind_inv h
theorem fresh_lst {i : E} (hf : isFresh i = true) {ρ : Env} {S S' : Sto} {x : PV} (h : evE cal false i ρ S = .ok x S') : ∃ xs, x = .lst xs := by
  cases i with
  | lst es =>
    simp only [evE] at h
    obtain ⟨xs, S1, h1, h2⟩ := ok_bind h
    by_cases hl : xs.length ≤ sizeLine
    · rw [if_pos hl] at h2; cases h2; exact ⟨xs, rfl⟩
    · rw [if_neg hl] at h2; cases h2
  | lc tg it c elt own =>
    simp only [evE] at h
    obtain ⟨r, S1, h1, h2⟩ := ok_bind h
    by_cases hl : r.1.length ≤ sizeLine
    · rw [if_pos hl] at h2
      obtain ⟨ys, S2, h3, h4⟩ := ok_bind h2
      cases h4
      exact ⟨ys, rfl⟩
    · rw [if_neg hl] at h2; cases h2
  | blt f es =>
    cases f with
    | list =>
      simp only [evE] at h
      obtain ⟨xs, S1, h1, h2⟩ := ok_bind h
      obtain ⟨S2, S3, h3, h4⟩ := ok_bind h2
      obtain ⟨h5, _⟩ := ofO_inv h4
      match xs, h5 with
      | [], h5 => cases h5
      | a :: b :: r, h5 => cases a <;> cases h5
      | [y], h5 =>
        cases y with
        | scr ns => cases h5; exact ⟨_, rfl⟩
        | tup ys => cases h5; exact ⟨_, rfl⟩
        | lst ys => cases h5; exact ⟨_, rfl⟩
        | ref n => obtain ⟨ys, _, e⟩ := map_inv (show (seqOf S2 (.ref n)).map PV.lst = some x from h5); exact ⟨ys, e.symm⟩
        | _ => cases h5
    | _ => cases hf
  | _ => cases hf
theorem fresh_q {i : E} (hf : isFresh i = true) (q : Bool) (ρ : Env) : evE cal q i ρ = evE cal false i ρ := by
  cases i with
  | lst es => simp only [evE]
  | lc tg it c elt own => simp only [evE]
  | blt f es => simp only [evE]
  | _ => cases hf
theorem e_of_u {X : Cx} {W : XW} {e : Expr} {i : E} (hf : isFresh i = true) (h : PE X e (tU X.K cal W i)) (q : Bool) : PE X e (tE X.K cal W q i) :=
  pe_frozen h (fresh_q hf q) fun ρ S x S' hx => fresh_lst hf hx
structure PP (g : Cfg) (cal : Nat → List PV → M PV) (n : Nat) : Prop where
  e : ∀ {c : CC} {X : Cx} (W : XW), GX g cal c X → ∀ {e : Expr} {i : E}, cE g n c e = some i → (∀ q, PE X e (tE X.K cal W q i)) ∧ (isFresh i = true → PE X e (tU X.K cal W i))
  es : ∀ {c : CC} {X : Cx} (W : XW), GX g cal c X → ∀ {es : List Expr} {i : Es}, cEs g n c es = some i → PA X es (tEs X.K cal W i)
  eo : ∀ {c : CC} {X : Cx} (W : XW), GX g cal c X → ∀ {e : Option Expr} {i : Eo}, cEo g n c e = some i → PO X e (tEo X.K cal W i)
  an : ∀ {c : CC} {X : Cx} (W : XW), GX g cal c X → ∀ {es : List Expr} {i : E}, cAnd g n c es = some i → ∀ q pos, PE X (.BoolOp .And es pos) (tE X.K cal W q i)
  or : ∀ {c : CC} {X : Cx} (W : XW), GX g cal c X → ∀ {es : List Expr} {i : E}, cOr g n c es = some i → ∀ q pos, PE X (.BoolOp .Or es pos) (tE X.K cal W q i)
  t : ∀ {c : CC} {X : Cx} (W : XW), GX g cal c X → ∀ {e : Expr} {i : T}, cT g n c e = some i → PT X e (tT X.K cal W i)
  anT : ∀ {c : CC} {X : Cx} (W : XW), GX g cal c X → ∀ {es : List Expr} {i : T}, cAndT g n c es = some i → ∀ pos, PW X (.BoolOp .And es pos) (tT X.K cal W i)
  orT : ∀ {c : CC} {X : Cx} (W : XW), GX g cal c X → ∀ {es : List Expr} {i : T}, cOrT g n c es = some i → ∀ pos, PW X (.BoolOp .Or es pos) (tT X.K cal W i)
  to : ∀ {c : CC} {X : Cx} (W : XW), GX g cal c X → ∀ {es : List Expr} {i : To}, cTo g n c es = some i → PTs X es (tTo X.K cal W i)
  it : ∀ {c : CC} {X : Cx} (W : XW), GX g cal c X → ∀ {e : Expr} {i : IT}, cI g n c e = some i → ∀ q tg, PI X tg e (tI X.K cal W q i)
theorem foldSet {e : Expr} (h : ∀ es k p, e ≠ .Set es k p) (env : PySem.Env) : ∀ x, foldedSetIterable e env x = pure x := by
  cases e with
  | Set es k p => exact absurd rfl (h es k p)
  | _ => exact fun _ => rfl
theorem noSetI {n : Nat} {c : CC} {e : Expr} {i : IT} (h : cI g n c e = some i) : ∀ es k p, e ≠ .Set es k p := by
  rintro es k p rfl
  cases n with
  | zero => simp only [cI] at h; cases h
  | succ n => simp only [cI] at h; cases h
theorem own_sub {l : List Nat} {tg : TG} (h : tgIn l tg = true) : ∀ i ∈ tg.slots, i ∈ l := by
  cases tg with
  | nm i =>
    intro j hj
    rw [List.mem_singleton.mp hj]
    exact List.contains_iff_mem.mp h
  | two a b =>
    have h' : (l.contains a && l.contains b) = true := h
    rw [Bool.and_eq_true] at h'
    intro j hj
    simp only [TG.slots, List.mem_cons, List.mem_nil_iff, or_false] at hj
    rcases hj with rfl | rfl
    · exact List.contains_iff_mem.mp h'.1
    · exact List.contains_iff_mem.mp h'.2
/-- a comprehension: as a value, and stored at a name -/
theorem lc_all {n : Nat} (P : PP g cal n) {c : CC} {X : Cx} (W : XW) (G : GX g cal c X) {elt tg it : Expr} {ifs : List Expr} {s : Scope} {pos : Pos} {i : E} (h : cE g (n + 1) c (.ListComp elt [⟨tg, it, ifs, 0⟩] s pos) = some i) :
    isFresh i = true ∧ PE X (.ListComp elt [⟨tg, it, ifs, 0⟩] s pos) (tU X.K cal W i) ∧ ∀ (y : Str) (k : Nat) (py spos : Pos), X.N[k]? = some y → X.env.scope.names.lookup y = some .local →
      swapsWith (.ListComp elt [⟨tg, it, ifs, 0⟩] s pos) (some (.Name y py)) spos.line X.env = pure true → PS X (.Assign [.Name y py] (.ListComp elt [⟨tg, it, ifs, 0⟩] s pos) spos) (tAsg (tU X.K cal W i) (gName k)) := by
  simp only [cE] at h
  by_cases hb : blkC c.N c.sc s (ownOfB c.N s) = true
  · rw [if_pos ⟨trivial, hb⟩] at h
    obtain ⟨ii, h1, h⟩ := bindO_inv h
    obtain ⟨tg', h2, h⟩ := bindO_inv h
    obtain ⟨ic, h3, h⟩ := bindO_inv h
    obtain ⟨ie, h4, h⟩ := bindO_inv h
    by_cases ht : tgIn ((ownOfB c.N s).map fun p => p.2) tg' = true
    · rw [if_pos ht] at h
      cases h
      have ok : BlkOk X.N X.env.scope s (ownOfB c.N s) := by rw [G.nm, G.sc]; exact blkOk_by hb
      have hk : s.kind = .function := ok.kind
      have hi := P.it W G h1 true tg
      have hg : ∀ (sh : Shared) (H : Hp) (C : Addr) (cl : List (Str × Addr)) (fp : List Addr), PG (X.blk sh H s (compEnvC s cl C X.env) fp) tg (gOf X.K tg') := fun sh H C cl fp => dst_ok (G.blk hk) h2
      have hc : ∀ (sh : Shared) (H : Hp) (C : Addr) (cl : List (Str × Addr)) (fp : List Addr), PTs (X.blk sh H s (compEnvC s cl C X.env) fp) ifs (tTo X.K cal (fun _ _ _ => False) ic) := fun sh H C cl fp => P.to _ (G.blk hk) h3
      have he : ∀ (sh : Shared) (H : Hp) (C : Addr) (cl : List (Str × Addr)) (fp : List Addr), PE (X.blk sh H s (compEnvC s cl C X.env) fp) elt (tE X.K cal (fun _ _ _ => False) false ie) := fun sh H C cl fp => (P.e _ (G.blk hk) h4).1 false
      have hs := foldSet (noSetI h1) X.env
      have core := u_lc (W := W) G.gg.calm G.nd hi ok hg hc he hs (own_sub ht)
      refine ⟨rfl, pe_imp (pe_lc G.gg.calm G.nd hi ok hg hc he hs) core, fun y k py spos hy hyl hsw => ?_⟩
      exact ps_imp (ps_setLc G.gg.calm G.nd hy hyl hsw hi ok hg hc he hs) (tAsg_imp core)
    · rw [if_neg ht] at h; cases h
  · rw [if_neg (fun z => hb z.2)] at h; cases h

theorem revB_inv {b : Expr} (h : revB b = true) : ∃ k p1 p2 p3, b = .Slice none none (some (.UnaryOp .USub (.Constant (.int 1) k p1) p2)) p3 := by
  unfold revB at h
  split at h
  · have e := of_decide_eq_true h
    subst e
    exact ⟨_, _, _, _, rfl⟩
  · cases h
theorem pp_e {n : Nat} (P : PP g cal n) {c : CC} {X : Cx} (W : XW) (G : GX g cal c X) {e : Expr} {i : E} (h : cE g (n + 1) c e = some i) : (∀ q, PE X e (tE X.K cal W q i)) ∧ (isFresh i = true → PE X e (tU X.K cal W i)) := by
  have nf : ∀ {i : E} {e : Expr}, (∀ q, PE X e (tE X.K cal W q i)) → isFresh i = false → (∀ q, PE X e (tE X.K cal W q i)) ∧ (isFresh i = true → PE X e (tU X.K cal W i)) := fun a b => ⟨a, fun z => by rw [b] at z; cases z⟩
  have fr : ∀ {i : E} {e : Expr}, PE X e (tU X.K cal W i) → isFresh i = true → (∀ q, PE X e (tE X.K cal W q i)) ∧ (isFresh i = true → PE X e (tU X.K cal W i)) := fun a b => ⟨e_of_u b a, fun _ => a⟩
  cases e with
  | Constant v k p =>
    cases v with
    | int v => simp only [cE] at h; cases h; exact nf (fun q => f_cst pe_int fun F α => .int v) rfl
    | bool v => simp only [cE] at h; cases h; exact nf (fun q => f_cst pe_bl fun F α => .bl v) rfl
    | none => simp only [cE] at h; cases h; exact nf (fun q => f_cst pe_non fun F α => .non) rfl
    | str v => simp only [cE] at h; cases h; exact nf (fun q => f_cst pe_str fun F α => .str v) rfl
    | _ => simp only [cE] at h; cases h
  | Name x p =>
    simp only [cE] at h
    by_cases hg : isGl c.sc x = true
    · rw [if_pos hg] at h
      by_cases hn : okNm x = true
      · rw [if_pos hn] at h
        obtain ⟨pv, h1, rfl⟩ := map_inv h
        obtain ⟨u, v, h2, h3, h4⟩ := G.gg.con x pv h1
        exact nf (fun q => f_cst (pe_glob (G.gl hg) h2 h3 (okNm_ok hn).1) h4) rfl
      · rw [if_neg hn] at h; cases h
    · rw [if_neg hg] at h
      obtain ⟨k, h1, rfl⟩ := map_inv h
      obtain ⟨h2, h3, h4⟩ := slot_ok h1
      exact nf (fun q => f_var (by rw [G.nm]; exact h4) (by rw [G.sc]; exact h2) (okNm_ok h3).1 (okNm_ok h3).2.1) rfl
  | BinOp a o b p =>
    simp only [cE] at h
    obtain ⟨o', h1, h⟩ := bindO_inv h
    obtain ⟨ia, h2, h⟩ := bindO_inv h
    obtain ⟨ib, h3, rfl⟩ := map_inv h
    exact nf (fun q => f_bin h1 ((P.e W G h2).1 true) ((P.e W G h3).1 true)) rfl
  | UnaryOp o a p =>
    cases o with
    | USub =>
      simp only [cE] at h
      obtain ⟨ia, h1, rfl⟩ := map_inv h
      exact nf (fun q => f_neg ((P.e W G h1).1 false)) rfl
    | Not =>
      simp only [cE] at h
      obtain ⟨ia, h1, rfl⟩ := map_inv h
      exact nf (fun q => f_not ((P.e W G h1).1 false)) rfl
    | _ => simp only [cE] at h; cases h
  | BoolOp o es p =>
    cases o with
    | And =>
      simp only [cE] at h
      by_cases hl : 2 ≤ es.length
      · rw [if_pos hl] at h
        match es, hl, h with
        | a :: b :: r, _, h =>
          refine nf (fun q => P.an W G h q p) ?_
          cases n with
          | zero => simp only [cAnd] at h; cases h
          | succ n =>
            simp only [cAnd] at h
            obtain ⟨ia, _, h⟩ := bindO_inv h
            obtain ⟨ib, _, rfl⟩ := map_inv h
            rfl
      · rw [if_neg hl] at h; cases h
    | Or =>
      simp only [cE] at h
      by_cases hl : 2 ≤ es.length
      · rw [if_pos hl] at h
        match es, hl, h with
        | a :: b :: r, _, h =>
          refine nf (fun q => P.or W G h q p) ?_
          cases n with
          | zero => simp only [cOr] at h; cases h
          | succ n =>
            simp only [cOr] at h
            obtain ⟨ia, _, h⟩ := bindO_inv h
            obtain ⟨ib, _, rfl⟩ := map_inv h
            rfl
      · rw [if_neg hl] at h; cases h
  | IfExp t a b p =>
    simp only [cE] at h
    obtain ⟨it, h1, h⟩ := bindO_inv h
    obtain ⟨ia, h2, h⟩ := bindO_inv h
    obtain ⟨ib, h3, rfl⟩ := map_inv h
    exact nf (fun q => f_ite (P.t W G h1) ((P.e W G h2).1 q) ((P.e W G h3).1 q)) rfl
  | Compare a os bs p =>
    simp only [cE] at h
    match os, bs, h with
    | [o], [b], h =>
      simp only at h
      by_cases hm : behindInMarks o b = true
      · rw [if_pos hm] at h; cases h
      · rw [if_neg hm] at h
        obtain ⟨o', h1, h⟩ := bindO_inv h
        obtain ⟨ia, h2, h⟩ := bindO_inv h
        obtain ⟨ib, h3, rfl⟩ := map_inv h
        exact nf (fun q => f_cmp G.units (Bool.not_eq_true _ ▸ hm) h1 ((P.e W G h2).1 true) ((P.e W G h3).1 true)) rfl
    | [o1, o2], [b, d], h =>
      simp only at h
      by_cases hm : lastMarks [o1, o2] [b, d] = true
      · rw [if_pos hm] at h; cases h
      · rw [if_neg hm] at h
        obtain ⟨o1', h1, h⟩ := bindO_inv h
        obtain ⟨o2', h2, h⟩ := bindO_inv h
        obtain ⟨ia, h3, h⟩ := bindO_inv h
        obtain ⟨ib, h4, h⟩ := bindO_inv h
        obtain ⟨id, h5, rfl⟩ := map_inv h
        exact nf (fun q => f_chn G.units (Bool.not_eq_true _ ▸ hm) h1 h2 ((P.e W G h3).1 true) ((P.e W G h4).1 true) ((P.e W G h5).1 true)) rfl
    | [], _, h => cases h
    | [o], [], h => cases h
    | [o], _ :: _ :: _, h => cases h
    | [o1, o2], [], h => cases h
    | [o1, o2], [_], h => cases h
    | [o1, o2], _ :: _ :: _ :: _, h => cases h
    | _ :: _ :: _ :: _, _, h => cases h
  | Tuple es k p =>
    simp only [cE] at h
    obtain ⟨is, h1, rfl⟩ := map_inv h
    exact nf (fun q => f_tup (P.es W G h1)) rfl
  | List es p =>
    simp only [cE] at h
    obtain ⟨is, h1, h⟩ := map_inv h
    by_cases hs : c.sto.contains (p.line, p.col) = true
    · rw [if_pos hs] at h
      subst h
      exact nf (fun q => f_newl (P.es W G h1)) rfl
    · rw [if_neg hs] at h
      subst h
      exact fr (u_lst (P.es W G h1)) rfl
  | Subscript a b p =>
    simp only [cE] at h
    by_cases hr : revB b = true
    · rw [if_pos hr] at h
      obtain ⟨ia, h1, rfl⟩ := map_inv h
      obtain ⟨k, p1, p2, p3, rfl⟩ := revB_inv hr
      exact nf (fun q => f_rev ((P.e W G h1).1 true)) rfl
    · rw [if_neg hr] at h
      have plain : (∀ lo hi p, b ≠ .Slice lo hi none p) → ((cE g n c a).bind fun a => (cE g n c b).map fun b => E.idx a b) = some i → (∀ q, PE X (.Subscript a b p) (tE X.K cal W q i)) ∧ (isFresh i = true → PE X (.Subscript a b p) (tU X.K cal W i)) := fun _ h => by
        obtain ⟨ia, h1, h⟩ := bindO_inv h
        obtain ⟨ib, h2, rfl⟩ := map_inv h
        exact nf (fun q => f_idx ((P.e W G h1).1 true) ((P.e W G h2).1 false) (plainIxE h2)) rfl
      cases b with
      | Slice lo hi st p2 =>
        cases st with
        | none =>
          simp only at h
          obtain ⟨ia, h1, h⟩ := bindO_inv h
          obtain ⟨il, h2, h⟩ := bindO_inv h
          obtain ⟨ih, h3, rfl⟩ := map_inv h
          exact nf (fun q => f_sli ((P.e W G h1).1 true) (P.eo W G h2) (P.eo W G h3)) rfl
        | some st => exact plain (fun _ _ _ z => nomatch z) h
      | _ => exact plain (fun _ _ _ z => nomatch z) h
  | Call f es ks p =>
    cases ks with
    | cons k ks => simp only [cE] at h; cases h
    | nil =>
      simp only [cE] at h
      cases f with
      | Name x px =>
        simp only at h
        by_cases hx : (isGl c.sc x && okNm x) = true
        · rw [if_pos hx] at h
          rw [Bool.and_eq_true] at hx
          have hg := G.gl hx.1
          obtain ⟨n1, n2, n3⟩ := okNm_ok hx.2
          cases hs : slotIn g.fns x with
          | some k =>
            rw [hs] at h
            obtain ⟨is, h1, rfl⟩ := map_inv h
            obtain ⟨kk, fa, fd, ps, hr, hm, hk, hb, F⟩ := G.gg.fns k x (slotIn_ok hs)
            refine nf (fun q => ?_) rfl
            cases es with
            | nil =>
              have e0 : is = .nil := by
                cases n with
                | zero => simp only [cEs] at h1; cases h1
                | succ n => simp only [cEs] at h1; cases h1; rfl
              subst e0
              exact f_call0 F hr G.gg.gd hb hg hm hk n1
            | cons e es => exact f_call F hr G.gg.gd hb hg hm hk n1 (plainEsE h1) (P.es W G h1)
          | none =>
            rw [hs] at h
            simp only at h
            by_cases hf : g.free x = true
            · rw [if_pos hf] at h
              match es, h with
              | [], h => cases h
              | [a], h =>
                obtain ⟨f, h1, h⟩ := bindO_inv h
                obtain ⟨ia, h2, rfl⟩ := map_inv h
                obtain ⟨b1, b2⟩ := biOf_ok h1
                have hm := G.gg.free x b1 hf
                by_cases hl : f = .list
                · subst hl
                  exact fr (u_list hg hm b2 n3 n1 (noStarE h2) ((P.e W G h2).1 true)) rfl
                · refine nf (fun q => f_blt G.gg.gd G.units G.gg.calm hl hg hm b2 n3 n1 (noStarE h2) ((P.e W G h2).1 true)) ?_
                  cases f <;> first
                    | rfl
                    | exact absurd rfl hl
              | [a, b], h =>
                simp only at h
                by_cases hi : x = "isinstance"
                · have h0 := h
                  clear h
                  rw [if_pos hi] at h0
                  subst hi
                  obtain ⟨ts, h1, h0⟩ := bindO_inv h0
                  obtain ⟨ia, h2, rfl⟩ := map_inv h0
                  have hm := G.gg.free "isinstance" (by decide +kernel) hf
                  cases b with
                  | Name t pt =>
                    simp only [cTy] at h1
                    by_cases ht : (isGl c.sc t && okNm t && g.free t) = true
                    · rw [if_pos ht] at h1
                      simp only [Bool.and_eq_true] at ht
                      obtain ⟨ty, h3, rfl⟩ := map_inv h1
                      obtain ⟨b1, b2, b3⟩ := tyOf_ok h3
                      obtain ⟨m1, m2, m3⟩ := okNm_ok ht.1.2
                      refine nf (fun q => f_isi1 b3 ((P.e W G h2).1 true) (pe_bltn (G.gl ht.1.1) (G.gg.free t b1 ht.2) b2 rfl m3 m1) hg hm (noStarE h2) fun _ _ z => nomatch z) rfl
                    · rw [if_neg ht] at h1; cases h1
                  | _ => simp only [cTy] at h1; cases h1
                · rw [if_neg hi] at h; cases h
              | _ :: _ :: _ :: _, h => cases h
            · rw [if_neg hf] at h; cases h
        · rw [if_neg hx] at h; cases h
      | Attribute o m ap =>
        match es, h with
        | [a], h =>
          simp only at h
          by_cases hj : (decide (m = "join") && baseOk o && (ap.endLine == p.line)) = true
          · rw [if_pos hj] at h
            simp only [Bool.and_eq_true] at hj
            obtain ⟨io, h1, h⟩ := bindO_inv h
            obtain ⟨ia, h2, rfl⟩ := map_inv h
            have em := of_decide_eq_true hj.1.1
            subst em
            exact nf (fun q => f_join ((P.e W G h1).1 false) ((P.e W G h2).1 true) (noStarE h2) (base_ok hj.1.2) hj.2) rfl
          · rw [if_neg hj] at h; cases h
        | [], h => cases h
        | _ :: _ :: _, h => cases h
      | _ => cases h
  | ListComp elt gs s p =>
    match gs, h with
    | [⟨tg, it, ifs, k⟩], h =>
      have hk : k = 0 := by
        have h' := h
        simp only [cE] at h'
        by_cases e : k = 0 ∧ blkC c.N c.sc s (ownOfB c.N s) = true
        · exact e.1
        · rw [if_neg e] at h'; cases h'
      subst hk
      obtain ⟨h1, h2, _⟩ := lc_all P W G h
      exact fr h2 h1
    | [], h => simp only [cE] at h; cases h
    | _ :: _ :: _, h => simp only [cE] at h; cases h
  | _ => simp only [cE] at h; cases h
end
end EV

/-! EvP: the other readings, and the induction closed. -/
namespace EV
open PySem PySem.Spec PyProof.Rows L2
section
variable {g : Cfg} {cal : Nat → List PV → M PV}
theorem pp_es {n : Nat} (P : PP g cal n) {c : CC} {X : Cx} (W : XW) (G : GX g cal c X) : ∀ {es : List Expr} {i : Es}, cEs g (n + 1) c es = some i → PA X es (tEs X.K cal W i)
  | [], i, h => by simp only [cEs] at h; cases h; exact f_nil
  | e :: r, i, h => by
    simp only [cEs] at h
    obtain ⟨ie, h1, h⟩ := bindO_inv h
    obtain ⟨ir, h2, rfl⟩ := map_inv h
    exact f_cons (noStarE h1) ((P.e W G h1).1 false) (P.es W G h2)
theorem pp_eo {n : Nat} (P : PP g cal n) {c : CC} {X : Cx} (W : XW) (G : GX g cal c X) : ∀ {e : Option Expr} {i : Eo}, cEo g (n + 1) c e = some i → PO X e (tEo X.K cal W i)
  | none, i, h => by simp only [cEo] at h; cases h; exact f_eo0
  | some e, i, h => by
    simp only [cEo] at h
    obtain ⟨ie, h1, rfl⟩ := map_inv h
    exact f_eo1 ((P.e W G h1).1 false)
theorem pp_an {n : Nat} (P : PP g cal n) {c : CC} {X : Cx} (W : XW) (G : GX g cal c X) : ∀ {es : List Expr} {i : E}, cAnd g (n + 1) c es = some i → ∀ q pos, PE X (.BoolOp .And es pos) (tE X.K cal W q i)
  | [], i, h => by simp only [cAnd] at h; cases h
  | [e], i, h => fun q pos => by
    simp only [cAnd] at h
    exact pe_one ((P.e W G h).1 q)
  | a :: b :: r, i, h => fun q pos => by
    simp only [cAnd] at h
    obtain ⟨ia, h1, h⟩ := bindO_inv h
    obtain ⟨ib, h2, rfl⟩ := map_inv h
    exact f_and ((P.e W G h1).1 false) (P.an W G h2 false pos)
theorem pp_or {n : Nat} (P : PP g cal n) {c : CC} {X : Cx} (W : XW) (G : GX g cal c X) : ∀ {es : List Expr} {i : E}, cOr g (n + 1) c es = some i → ∀ q pos, PE X (.BoolOp .Or es pos) (tE X.K cal W q i)
  | [], i, h => by simp only [cOr] at h; cases h
  | [e], i, h => fun q pos => by
    simp only [cOr] at h
    exact pe_one ((P.e W G h).1 q)
  | a :: b :: r, i, h => fun q pos => by
    simp only [cOr] at h
    obtain ⟨ia, h1, h⟩ := bindO_inv h
    obtain ⟨ib, h2, rfl⟩ := map_inv h
    exact f_or ((P.e W G h1).1 false) (P.or W G h2 false pos)
theorem pp_anT {n : Nat} (P : PP g cal n) {c : CC} {X : Cx} (W : XW) (G : GX g cal c X) : ∀ {es : List Expr} {i : T}, cAndT g (n + 1) c es = some i → ∀ pos, PW X (.BoolOp .And es pos) (tT X.K cal W i)
  | [], i, h => by simp only [cAndT] at h; cases h
  | [e], i, h => fun pos => by
    simp only [cAndT] at h
    exact pw_and1 (P.t W G h)
  | a :: b :: r, i, h => fun pos => by
    simp only [cAndT] at h
    obtain ⟨ia, h1, h⟩ := bindO_inv h
    obtain ⟨ib, h2, rfl⟩ := map_inv h
    exact f_andT (P.t W G h1) (P.anT W G h2 pos)
theorem pp_orT {n : Nat} (P : PP g cal n) {c : CC} {X : Cx} (W : XW) (G : GX g cal c X) : ∀ {es : List Expr} {i : T}, cOrT g (n + 1) c es = some i → ∀ pos, PW X (.BoolOp .Or es pos) (tT X.K cal W i)
  | [], i, h => by simp only [cOrT] at h; cases h
  | [e], i, h => fun pos => by
    simp only [cOrT] at h
    exact pw_or1 (P.t W G h)
  | a :: b :: r, i, h => fun pos => by
    simp only [cOrT] at h
    obtain ⟨ia, h1, h⟩ := bindO_inv h
    obtain ⟨ib, h2, rfl⟩ := map_inv h
    exact f_orT (P.t W G h1) (P.orT W G h2 pos)
theorem pp_to {n : Nat} (P : PP g cal n) {c : CC} {X : Cx} (W : XW) (G : GX g cal c X) : ∀ {es : List Expr} {i : To}, cTo g (n + 1) c es = some i → PTs X es (tTo X.K cal W i)
  | [], i, h => by simp only [cTo] at h; cases h; exact f_to0
  | [e], i, h => by
    simp only [cTo] at h
    obtain ⟨ie, h1, rfl⟩ := map_inv h
    exact f_to1 (P.t W G h1)
  | a :: b :: r, i, h => by simp only [cTo] at h; cases h
theorem pp_cmpT {n : Nat} (P : PP g cal n) {c : CC} {X : Cx} (W : XW) (G : GX g cal c X) {a : Expr} {os : List CmpOp} {bs : List Expr} {p : Pos} {i : E} (h : cE g (n + 1) c (.Compare a os bs p) = some i) : PT X (.Compare a os bs p) (tT X.K cal W (.val i)) := by
  simp only [cE] at h
  match os, bs, h with
  | [o], [b], h =>
    simp only at h
    by_cases hm : behindInMarks o b = true
    · rw [if_pos hm] at h; cases h
    · rw [if_neg hm] at h
      obtain ⟨o', h1, h⟩ := bindO_inv h
      obtain ⟨ia, h2, h⟩ := bindO_inv h
      obtain ⟨ib, h3, rfl⟩ := map_inv h
      exact f_cmpT G.units (Bool.not_eq_true _ ▸ hm) h1 ((P.e W G h2).1 true) ((P.e W G h3).1 true)
  | [o1, o2], [b, d], h =>
    simp only at h
    by_cases hm : lastMarks [o1, o2] [b, d] = true
    · rw [if_pos hm] at h; cases h
    · rw [if_neg hm] at h
      obtain ⟨o1', h1, h⟩ := bindO_inv h
      obtain ⟨o2', h2, h⟩ := bindO_inv h
      obtain ⟨ia, h3, h⟩ := bindO_inv h
      obtain ⟨ib, h4, h⟩ := bindO_inv h
      obtain ⟨id, h5, rfl⟩ := map_inv h
      exact f_chnT G.units (Bool.not_eq_true _ ▸ hm) h1 h2 ((P.e W G h3).1 true) ((P.e W G h4).1 true) ((P.e W G h5).1 true)
  | [], _, h => cases h
  | [o], [], h => cases h
  | [o], _ :: _ :: _, h => cases h
  | [o1, o2], [], h => cases h
  | [o1, o2], [_], h => cases h
  | [o1, o2], _ :: _ :: _ :: _, h => cases h
  | _ :: _ :: _ :: _, _, h => cases h
theorem pp_t {n : Nat} (P : PP g cal n) (P' : ∀ m, n = m + 1 → PP g cal m) {c : CC} {X : Cx} (W : XW) (G : GX g cal c X) {e : Expr} {i : T} (h : cT g (n + 1) c e = some i) : PT X e (tT X.K cal W i) := by
  have cmp : ∀ {a os bs p} {i : E}, cE g n c (.Compare a os bs p) = some i → PT X (.Compare a os bs p) (tT X.K cal W (.val i)) := fun {a os bs p i} h => by
    cases n with
    | zero => simp only [cE] at h; cases h
    | succ m => exact pp_cmpT (P' m rfl) W G h
  cases e with
  | BoolOp o es p =>
    cases o with
    | And => simp only [cT] at h; exact (P.anT W G h p).pt
    | Or => simp only [cT] at h; exact (P.orT W G h p).pt
  | UnaryOp o a p =>
    cases o with
    | Not =>
      simp only [cT] at h
      obtain ⟨ia, h1, rfl⟩ := map_inv h
      exact f_notT (P.t W G h1)
    | _ =>
      simp only [cT] at h
      obtain ⟨ia, h1, rfl⟩ := map_inv h
      exact f_val ((P.e W G h1).1 true) fun _ => rfl
  | Compare a os bs p =>
    simp only [cT] at h
    obtain ⟨ia, h1, rfl⟩ := map_inv h
    exact cmp h1
  | IfExp t a b p => simp only [cT] at h; cases h
  | Constant v k p => simp only [cT] at h; cases h
  | _ =>
    simp only [cT] at h
    obtain ⟨ia, h1, rfl⟩ := map_inv h
    exact f_val ((P.e W G h1).1 true) fun _ => rfl
theorem pp_it {n : Nat} (P : PP g cal n) {c : CC} {X : Cx} (W : XW) (G : GX g cal c X) {e : Expr} {i : IT} (h : cI g (n + 1) c e = some i) : ∀ q tg, PI X tg e (tI X.K cal W q i) := by
  have sq : ∀ {e : Expr} {i : IT}, (cE g n c e).map IT.seq = some i → ∀ q tg, PI X tg e (tI X.K cal W q i) := fun {e i} h q tg => by
    obtain ⟨ie, h1, rfl⟩ := map_inv h
    exact f_seq ((P.e W G h1).1 q)
  cases e with
  | Set es k p => simp only [cI] at h; cases h
  | Call f es ks p =>
    cases ks with
    | cons k ks => simp only [cI] at h; exact sq h
    | nil =>
      simp only [cI] at h
      cases f with
      | Name x px =>
        match es, h with
        | [a], h =>
          simp only at h
          by_cases hr : x = "range" ∧ (isGl c.sc x && g.free x) = true
          · rw [if_pos hr] at h
            obtain ⟨ia, h1, rfl⟩ := map_inv h
            obtain ⟨rfl, h2⟩ := hr
            rw [Bool.and_eq_true] at h2
            exact fun q tg => f_rng (G.gl h2.1) (G.gg.free "range" (by decide +kernel) h2.2) (noStarE h1) ((P.e W G h1).1 false)
          · rw [if_neg hr] at h
            exact sq h
        | [], h => exact sq h
        | _ :: _ :: _, h => exact sq h
      | _ => exact sq h
  | _ => simp only [cI] at h; exact sq h
theorem pp_zero : PP g cal 0 := by
  constructor
  · intro c X W G e i h; simp only [cE] at h; cases h
  · intro c X W G e i h; simp only [cEs] at h; cases h
  · intro c X W G e i h; simp only [cEo] at h; cases h
  · intro c X W G e i h; simp only [cAnd] at h; cases h
  · intro c X W G e i h; simp only [cOr] at h; cases h
  · intro c X W G e i h; simp only [cT] at h; cases h
  · intro c X W G e i h; simp only [cAndT] at h; cases h
  · intro c X W G e i h; simp only [cOrT] at h; cases h
  · intro c X W G e i h; simp only [cTo] at h; cases h
  · intro c X W G e i h; simp only [cI] at h; cases h
theorem pp_all : ∀ n, PP g cal n ∧ ∀ m, n = m + 1 → PP g cal m
  | 0 => ⟨pp_zero, fun m h => nomatch h⟩
  | n + 1 =>
    have ⟨P, P'⟩ := pp_all n
    ⟨{ e := fun W G _ _ h => pp_e P W G h
       es := fun W G _ _ h => pp_es P W G h
       eo := fun W G _ _ h => pp_eo P W G h
       an := fun W G _ _ h => pp_an P W G h
       or := fun W G _ _ h => pp_or P W G h
       t := fun W G _ _ h => pp_t P P' W G h
       anT := fun W G _ _ h => pp_anT P W G h
       orT := fun W G _ _ h => pp_orT P W G h
       to := fun W G _ _ h => pp_to P W G h
       it := fun W G _ _ h => pp_it P W G h }, fun m h => by cases h; exact P⟩
theorem pp (g : Cfg) (cal : Nat → List PV → M PV) (n : Nat) : PP g cal n := (pp_all n).1
end
end EV

/-! EvQ: statements: what compile says holds. -/
namespace EV
open PySem PySem.Spec PyProof.Rows L2
section
variable {K : PySem.W.Frag} {N : En} {F : Hp} {α : List Addr} {ρ : Env} {S : Sto} {σ : L2.St} {H : Hp}
/-- a slot's own list is handed on -/
theorem StE.frz (z : StE K N F α ρ S σ H) {i : Nat} {xs : List PV} (h : ρ[i]? = some (some (.own xs))) : ∃ F1, StE K N F1 α (ρ.set i (some (.val (.lst xs)))) S σ H := by
  obtain ⟨v, h1, a, vs, rfl, h2, h3, h4, h5⟩ := z.en.sl i _ h
  obtain ⟨st, sm⟩ := freeze z.st h2 h4 h5
  have hi : i < ρ.length := (List.getElem?_eq_some_iff.mp h).1
  have hN := z.ow i xs a h h1
  have pr := Pre.refl α
  have one : ∀ {j : Nat} {ys : List PV}, (ρ.set i (some (.val (.lst xs))))[j]? = some (some (.own ys)) → i ≠ j ∧ ρ[j]? = some (some (.own ys)) := fun {j ys} g => by
    by_cases e : i = j
    · subst e; rw [List.getElem?_set_self hi] at g; cases g
    · rw [List.getElem?_set_ne e] at g; exact ⟨e, g⟩
  refine ⟨_, st, ⟨by rw [List.length_set]; exact z.en.ln, fun j sv g => ?_, fun j k us zs b g1 g2 g3 g4 => z.en.ap j k us zs b (one g1).2 (one g2).2 g3 g4⟩, ⟨⟨z.ex.e.f.trans sm, fun b o g => ?_, z.ex.e.al, z.ex.e.keep, z.ex.e.som⟩, z.ex.bs.trans sm, z.ex.bp⟩, fun j ys b g1 g2 => z.ow j ys b (one g1).2 g2⟩
  · by_cases e : i = j
    · subst e
      rw [List.getElem?_set_self hi] at g
      cases g
      exact ⟨_, h1, .lst (upd_same) (h3.mono sm pr)⟩
    · rw [List.getElem?_set_ne e] at g
      obtain ⟨u, k1, k2⟩ := z.en.sl j sv g
      refine ⟨u, k1, ?_⟩
      cases sv with
      | val x => exact Rp.mono sm pr k2
      | own us =>
        obtain ⟨b, ts, rfl, m1, m2, m3, m4⟩ := k2
        exact ⟨b, ts, rfl, m1, m2.mono sm pr, by rw [upd_ne (fun q => e (z.en.ap i j xs us a h g h1 (by rw [← q]; exact k1)))]; exact m3, m4⟩
  · by_cases e : b = a
    · subst e; exact .inr hN
    · rw [upd_ne e] at g; exact z.ex.e.fn b o g
end
section
variable {X : Cx} {cal : Nat → List PV → M PV} {W : XW}
theorem r_frz {N : En} {i : Nat} {b : Ss} {D : Ends} {σ : L2.St} {H : Hp} (h : tS X.K W N (exSs cal (.cons (.frz i) b)) D σ H) : tS X.K W N (exSs cal b) D σ H := by
  obtain ⟨F, α, ρ, S, z, w⟩ := h
  simp only [exSs, exS, wp_bind] at w
  have keep : ((pure (.next ρ) : M Out) S).wp (fun o S1 => (o.andThen (exSs cal b) S1).wp (FinO X.K N D) (FinX X.K W N.F N.α N.H)) (FinX X.K W N.F N.α N.H) → tS X.K W N (exSs cal b) D σ H := fun w => ⟨F, α, ρ, S, z, by simpa only [wp_pure, wp_andThen] using w⟩
  cases e : ρ[i]? with
  | none => rw [e] at w; exact keep w
  | some o =>
    rw [e] at w
    cases o with
    | none => exact keep w
    | some sv =>
      cases sv with
      | val x => exact keep w
      | own xs =>
        obtain ⟨F1, z1⟩ := z.frz e
        exact ⟨F1, α, _, S, z1, by simpa only [wp_pure, wp_andThen] using w⟩
theorem r_frzAll {N : En} {b : Ss} {D : Ends} {σ : L2.St} {H : Hp} : ∀ {is : List Nat}, tS X.K W N (exSs cal (frzAll is b)) D σ H → tS X.K W N (exSs cal b) D σ H
  | [], h => h
  | i :: is, h => r_frzAll (is := is) (r_frz h)
theorem r_cons {N : En} {s : S} {b : Ss} {D : Ends} {σ : L2.St} {H : Hp} (h : tS X.K W N (exSs cal (.cons s b)) D σ H) : tSeq (tS X.K W N (exS cal s)) (tS X.K W N (exSs cal b)) D σ H := by
  obtain ⟨F, α, ρ, S, z, w⟩ := h
  simp only [exSs, wp_bind] at w
  refine ⟨F, α, ρ, S, z, w.mono (fun o S1 c => ?_) fun _ _ x => x⟩
  rw [wp_andThen] at c
  cases o with
  | next ρ2 => exact fun F2 α2 σ2 H2 z2 => ⟨F2, α2, ρ2, S1, z2, c⟩
  | ret v => exact c
theorem b_cons {st : Stmt} {rest : List Stmt} {s : S} {b : Ss} {N : En} {c : CC} {is : List Nat} (h1 : PS X st (tS X.K W N (exS cal s))) (h2 : PSs X rest (tS X.K W N (exSs cal b))) : PSs X (st :: rest) (tS X.K W N (exSs cal (withF c is s b))) :=
  pss_imp (pss_cons h1 h2) fun D σ H h => r_cons (r_frzAll h)
theorem b_cons0 {st : Stmt} {rest : List Stmt} {s : S} {b : Ss} {N : En} (h1 : PS X st (tS X.K W N (exS cal s))) (h2 : PSs X rest (tS X.K W N (exSs cal b))) : PSs X (st :: rest) (tS X.K W N (exSs cal (.cons s b))) :=
  pss_imp (pss_cons h1 h2) fun D σ H h => r_cons h
theorem any_block {b : List Stmt} {m : Env → M Out} (h : ∀ N, PSs X b (tS X.K W N m)) : PSs X b (tA X.K W m) := ⟨fun pins s σ H D I ⟨N, q⟩ => (h N).run pins s σ H D I q⟩
theorem b_nil {N : En} : PSs X [] (tS X.K W N (exSs cal .nil)) :=
  pss_imp pss_nil fun D σ H ⟨F, α, ρ, S, z, w⟩ => by
    simp only [exSs, wp_pure] at w
    exact w F α σ H z
theorem E_of_V {σ : L2.St} {H : Hp} {Q : VK} {ie : E} (h : tV X.K W cal false ie σ H Q) : tE X.K cal W false ie σ H Q :=
  let ⟨F, α, ρ, S, st, en, w⟩ := h
  ⟨F, α, ρ, S, st, en, w.mono (fun x S' ⟨sv, hs, c⟩ F1 α1 H1 v e st1 r => by
    cases hs
    exact c F1 α1 H1 v e st1 r.val (fun xs a h => nomatch h)) fun _ _ z => z⟩
end
section
variable {g : Cfg} {cal : Nat → List PV → M PV} {c : CC} {X : Cx}
structure GS (g : Cfg) (cal : Nat → List PV → M PV) (c : CC) (X : Cx) : Prop where
  gx : GX g cal c X
  inb : c.inb = none
  hp : PassesOwn (model X.prog X.w) X.A X.env X.xe
theorem GS.at (G : GS g cal c X) {x : Str} {i : Nat} (h : c.asg x = some i) : X.N[i]? = some x ∧ Loc X.env.scope x ∧ (X.fn x = true ∨ X.env.scope.names.lookup x = some .local) := by
  obtain ⟨h1, h2⟩ := asg_ok h
  obtain ⟨h3, h4⟩ := G.gx.hasg x i h
  exact ⟨by rw [G.gx.nm]; exact h2, h3, h4⟩
theorem sw_no {e : Expr} (h : isLcE e = false) {n : Nat} {i : E} (he : cE g n c e = some i) (tg : Option Expr) (l : Nat) : swapsWith e tg l X.env = pure false := by
  cases n with
  | zero => simp only [cE] at he; cases he
  | succ n =>
    cases e with
    | ListComp a b d f => cases h
    | SetComp a b d f => simp only [cE] at he; cases he
    | DictComp a b d f k => simp only [cE] at he; cases he
    | _ => rfl
theorem sw_oth {e tg : Expr} (h : ∀ x p, tg ≠ .Name x p) (l : Nat) : swapsWith e (some tg) l X.env = pure false := by
  cases tg with
  | Name x p => exact absurd rfl (h x p)
  | _ => cases e <;> rfl
theorem sole_oth {e tg : Expr} (h : ∀ x p, tg ≠ .Name x p) (l : Nat) : swapsWithSole [tg] e l X.env = pure false := sw_oth h l
theorem sw_lcv {a : Expr} {gs : List Comprehension} {s : Scope} {pos py : Pos} {t : Str} {l : Nat} : ∃ b : Bool, swapsWith (.ListComp a gs s pos) (some (.Name t py)) l X.env = pure b ∧ (b = true → X.env.scope.names.lookup t = some .local) := by
  refine ⟨(X.env.blockKind == .function && X.env.kindOf t == some .local && py.line == pos.line && !(s.names.any fun (n, k) => n == t && (k == .local || k == .cell))), rfl, fun h => ?_⟩
  simp only [Bool.and_eq_true, beq_iff_eq] at h
  exact h.1.1.2
/-- x = e -/
theorem asg_all (W : XW) (G : GS g cal c X) {n : Nat} {x : Str} {px pos : Pos} {e : Expr} {i : Nat} {ie : E} (hx : c.asg x = some i) (h : cE g n c e = some ie) :
    PS X (.Assign [.Name x px] e pos) (tAsg (tE X.K cal W false ie) (gName i)) ∧ (isFresh ie = true → PS X (.Assign [.Name x px] e pos) (tAsg (tU X.K cal W ie) (gName i))) := by
  obtain ⟨k1, k2, k3⟩ := G.at hx
  obtain ⟨pe, pu⟩ := (pp g cal n).e W G.gx h
  have plain : swapsWith e (some (.Name x px)) pos.line X.env = pure false → PS X (.Assign [.Name x px] e pos) (tAsg (tE X.K cal W false ie) (gName i)) ∧ (isFresh ie = true → PS X (.Assign [.Name x px] e pos) (tAsg (tU X.K cal W ie) (gName i))) :=
    fun hs => ⟨ps_set G.gx.nd k1 k2 (pe false) hs k3, fun hf => ps_set G.gx.nd k1 k2 (pu hf) hs k3⟩
  by_cases hl : isLcE e = true
  · cases e with
    | ListComp a gs s p =>
      obtain ⟨b, hb, hlc⟩ := sw_lcv (X := X) (a := a) (gs := gs) (s := s) (pos := p) (py := px) (t := x) (l := pos.line)
      cases b with
      | false => exact plain hb
      | true =>
        cases n with
        | zero => simp only [cE] at h; cases h
        | succ n =>
          match gs, h with
          | [⟨tg, it, ifs, k⟩], h =>
            have hk : k = 0 := by
              have h' := h
              simp only [cE] at h'
              by_cases e : k = 0 ∧ blkC c.N c.sc s (ownOfB c.N s) = true
              · exact e.1
              · rw [if_neg e] at h'; cases h'
            subst hk
            obtain ⟨h1, h2, h3⟩ := lc_all (pp g cal n) W G.gx h
            have hloc := hlc rfl
            have ps := h3 x i px pos k1 hloc hb
            exact ⟨ps_imp ps (tAsg_imp fun σ H Q q => E_of_U (fun ρ S y S' hy => fresh_lst h1 hy) q), fun _ => ps⟩
          | [], h => simp only [cE] at h; cases h
          | _ :: _ :: _, h => simp only [cE] at h; cases h
    | _ => cases hl
  · exact plain (sw_no (Bool.not_eq_true _ ▸ hl) h _ _)
end
end EV

/-! EvR: blocks: what compile says holds. -/
namespace EV
open PySem PySem.Spec PyProof.Rows L2
section
variable {g : Cfg} {cal : Nat → List PV → M PV} {c : CC} {X : Cx}
theorem dst_nm {x : Str} {i : Nat} {p : Pos} (h : c.asg x = some i) : dstOf c (.Name x p) = some (.nm i) := by
  show (c.asg x).map TG.nm = _
  rw [h]; rfl
theorem dst_two {x y : Str} {i j : Nat} {p q r : Pos} {k} (h : c.asg x = some i) (h2 : c.asg y = some j) (ne : i ≠ j) : dstOf c (.Tuple [.Name x p, .Name y q] k r) = some (.two i j) := by
  show ((c.asg x).bind fun i => (c.asg y).bind fun j => if i ≠ j then some (TG.two i j) else none) = _
  rw [h, h2]
  show (if i ≠ j then some (TG.two i j) else none) = _
  rw [if_pos ne]
theorem few1 {e : Expr} {env : PySem.Env} (hs : ∀ x p, e ≠ .Starred x p) (pos : Pos) : ((backTo pos (starEach [e] env)).all (fun x => !x.1) && (backToKw pos (keywordEach [] env)).all (fun x => x.1.isSome)
      && decide ([e].length + ([] : List Keyword).length + (if ([] : List Keyword).isEmpty then 0 else 1) < 30)) = true := by
  rw [noStar hs]
  rfl
theorem asg_pop (W : XW) (G : GS g cal c X) {N : En} {tgE : Expr} {tg : TG} {y m : Str} {py ap p pos : Pos} {j : Nat} (hm : m = "pop") (hl : (ap.endLine == p.line) = true) (hd : dstOf c tgE = some tg) (hj : c.slot y = some j)
    (hs : swapsWithSole [tgE] (.Call (.Attribute (.Name y py) m ap) [] [] p) pos.line X.env = pure false) (hw : swappedStores [tgE] (.Call (.Attribute (.Name y py) m ap) [] [] p) X.env = pure none)
    (ha : (assignEach [tgE] X.env).map (·.2) = [assign tgE X.env]) :
    PS X (.Assign [tgE] (.Call (.Attribute (.Name y py) m ap) [] [] p) pos) (tS X.K W N (exS cal (.pop tg j))) := by
  subst hm
  obtain ⟨h1, h2, h3⟩ := slot_ok hj
  refine s_pop (ps_asg (pe_bm0 F.plainAttrs_list F.slot_list_pop F.type_list_pop mt_pop (pe_var (by rw [G.gx.nm]; exact h3) (by rw [G.gx.sc]; exact h1) (okNm_ok h2).1 (okNm_ok h2).2.1) rfl hl) (dst_ok G.gx hd) hs hw ha)
theorem swap_par {x y : Str} {px py : Pos} {a b : Expr} {kt pt k2 pt2} (G : GS g cal c X) (h : parOk c x y px py a b = true) :
    swappedStores [.Tuple [.Name x px, .Name y py] kt pt] (.Tuple [a, b] k2 pt2) X.env = pure (some [x, y]) := by
  unfold parOk at h
  simp only [Bool.and_eq_true, Bool.not_eq_true'] at h
  obtain ⟨⟨⟨⟨⟨⟨⟨h1, h2⟩, h3⟩, h4⟩, h5⟩, h6⟩, h7⟩, h8⟩ := h
  have e0 : X.env.scope = c.sc := G.gx.sc
  have kf : X.env.scope.kind = .function := by rw [e0]; exact G.gx.kind
  have bk : X.env.blockKind = .function := by
    unfold PySem.Env.blockKind
    rw [kf]
    rfl
  have kx : (X.env.kindOf x == some .local) = true := by unfold PySem.Env.kindOf; rw [e0]; exact h2
  have ky : (X.env.kindOf y == some .local) = true := by unfold PySem.Env.kindOf; rw [e0]; exact h3
  have hxy : x ≠ y := fun e => by rw [e] at h5; simp at h5
  have e1 : (!(2 == 2 || 2 == 3) || (2 : Nat) != 2 || X.env.blockKind != .function) = false := by rw [bk]; rfl
  have e2 : ([Expr.Name x px, Expr.Name y py].filterMap fun
    | .Name id pos => if (X.env.kindOf id == some .local && pos.line == px.line) = true then some id else none
    | _ => none) = [x, y] := by
    simp only [List.filterMap_cons, List.filterMap_nil, kx, ky, h4, beq_self_eq_true, Bool.and_self, if_true]
  unfold swappedStores
  simp only [pure_bind, List.length_cons, List.length_nil, bk, h6, h7, h8, List.head?_cons, Option.map_some, Option.getD_some]
  refine (if_neg (by decide)).trans ((if_neg fun z => Bool.false_ne_true (h8.symm.trans z)).trans ?_)
  generalize hL : List.filterMap _ [Expr.Name x px, Expr.Name y py] = L
  have hL2 : L = [x, y] := hL.symm.trans e2
  subst hL2
  refine (if_neg fun z => ?_).trans rfl
  have e4 : [x, y].eraseDups.length = 2 := by
    have : (y == x) = false := by rw [beq_eq_false_iff_ne]; exact Ne.symm hxy
    simp [List.eraseDups_cons, this]
  simp [e4] at z
theorem v_of {e : Expr} {ie : E} {o : Bool} {W : XW} (pe : PE X e (tE X.K cal W false ie)) (pu : isFresh ie = true → PE X e (tU X.K cal W ie)) (h : o = true → isFresh ie = true) : PE X e (tV X.K W cal o ie) := by
  cases o with
  | false => exact v_of_E pe
  | true => exact pe_imp (pu (h rfl)) fun σ H Q q => v_of_U q
theorem r_ret {W : XW} {N : En} {e : E} {D : Ends} {σ : L2.St} {H : Hp} (h : tS X.K W N (exSs cal (.cons (.ret e) .nil)) D σ H) : tSeq (tS X.K W N (exS cal (.ret e))) tNever D σ H := by
  obtain ⟨F, α, ρ, S, z, w⟩ := h
  simp only [exSs, exS, wp_bind, wp_pure, wp_andThen] at w
  refine ⟨F, α, ρ, S, z, ?_⟩
  simp only [exS, wp_bind, wp_pure]
  exact w
/-- a block, and a statement ahead of one -/
structure SP (g : Cfg) (cal : Nat → List PV → M PV) (n : Nat) : Prop where
  ss : ∀ {c : CC} {X : Cx} (W : XW), GS g cal c X → ∀ {sts : List Stmt} {b : Ss}, cSs g n c sts = some b → ∀ N, PSs X sts (tS X.K W N (exSs cal b))
  s : ∀ {c : CC} {X : Cx} (W : XW), GS g cal c X → ∀ {st : Stmt} {rest : List Stmt} {k b : Ss}, (∀ N, PSs X rest (tS X.K W N (exSs cal k))) → cS g n c st k = some b → ∀ N, PSs X (st :: rest) (tS X.K W N (exSs cal b))
theorem sp_ss {n : Nat} (P : SP g cal n) {c : CC} {X : Cx} (W : XW) (G : GS g cal c X) : ∀ {sts : List Stmt} {b : Ss}, cSs g (n + 1) c sts = some b → ∀ N, PSs X sts (tS X.K W N (exSs cal b))
  | [], b, h, N => by simp only [cSs] at h; cases h; exact b_nil
  | st :: r, b, h, N => by
    simp only [cSs] at h
    obtain ⟨k, h1, h2⟩ := bindO_inv h
    exact P.s W G (P.ss W G h1) h2 N
theorem sp_s {n : Nat} (P : SP g cal n) {c : CC} {X : Cx} (W : XW) (G : GS g cal c X) {st : Stmt} {rest : List Stmt} {k b : Ss} (hk : ∀ N, PSs X rest (tS X.K W N (exSs cal k))) (h : cS g (n + 1) c st k = some b) (N : En) : PSs X (st :: rest) (tS X.K W N (exSs cal b)) := by
  have PE1 := pp g cal n
  unfold cS at h
  split at h
  · -- x = y.pop()
    rename_i x px y py m ap p pos
    by_cases hm : m = "pop"
    · rw [if_pos hm] at h
      by_cases hl : (ap.endLine == p.line) = true
      · rw [if_pos hl] at h
        obtain ⟨i, h1, h⟩ := bindO_inv h
        obtain ⟨j, h2, h⟩ := bindO_inv h
        by_cases hc : (c.mu.contains j && decide (i ≠ j)) = true
        · rw [if_pos hc] at h
          cases h
          exact b_cons0 (asg_pop W G hm hl (dst_nm h1) h2 rfl rfl rfl) (hk N)
        · rw [if_neg hc] at h; cases h
      · rw [if_neg hl] at h; cases h
    · rw [if_neg hm] at h; cases h
  · -- x, z = y.pop()
    rename_i x px z pz kk pp y py m ap p pos
    by_cases hm : m = "pop"
    · rw [if_pos hm] at h
      by_cases hl : (ap.endLine == p.line) = true
      · rw [if_pos hl] at h
        obtain ⟨i, h1, h⟩ := bindO_inv h
        obtain ⟨i2, h2, h⟩ := bindO_inv h
        obtain ⟨j, h3, h⟩ := bindO_inv h
        by_cases hc : (c.mu.contains j && decide (i ≠ j) && decide (i2 ≠ j) && decide (i ≠ i2)) = true
        · rw [if_pos hc] at h
          cases h
          rw [Bool.and_eq_true] at hc
          exact b_cons0 (asg_pop W G hm hl (dst_two h1 h2 (of_decide_eq_true hc.2)) h3 rfl rfl rfl) (hk N)
        · rw [if_neg hc] at h; cases h
      · rw [if_neg hl] at h; cases h
    · rw [if_neg hm] at h; cases h
  · -- x = e
    obtain ⟨i, h1, h⟩ := bindO_inv h
    obtain ⟨ie, h2, rfl⟩ := map_inv h
    refine b_cons ?_ (hk N)
    obtain ⟨a1, a2⟩ := asg_all W G h1 h2
    by_cases ho : (c.mu.contains i && isFresh ie) = true
    · rw [if_pos ho]
      rw [Bool.and_eq_true] at ho
      exact s_own (ps_imp (a2 ho.2) (tAsg_imp fun σ H Q q => v_of_U q))
    · rw [if_neg ho]
      exact s_set (ps_imp a1 (tAsg_imp fun σ H Q q => E_of_V q))
  · -- x, y = a, b
    rename_i x px y py kt pt a b k2 pt2 pos
    by_cases hp : parOk c x y px py a b = true
    · rw [if_pos hp] at h
      obtain ⟨i, h1, h⟩ := bindO_inv h
      obtain ⟨j, h2, h⟩ := bindO_inv h
      obtain ⟨ia, h3, h⟩ := bindO_inv h
      obtain ⟨ib, h4, rfl⟩ := map_inv h
      have sw := swap_par (kt := kt) (pt := pt) (k2 := k2) (pt2 := pt2) G hp
      refine b_cons ?_ (hk N)
      obtain ⟨pea, pua⟩ := PE1.e W G.gx h3
      obtain ⟨peb, pub⟩ := PE1.e W G.gx h4
      have e0 : X.env.scope = c.sc := G.gx.sc
      unfold parOk at hp
      simp only [Bool.and_eq_true, Bool.not_eq_true'] at hp
      obtain ⟨⟨⟨⟨⟨⟨⟨g1, g2⟩, g3⟩, g4⟩, g5⟩, g6⟩, g7⟩, g8⟩ := hp
      have i1 := (asg_ok h1).2
      have j1 := (asg_ok h2).2
      have hij : i ≠ j := fun e => by
        rw [e, j1] at i1
        cases i1
        simp at g5
      exact s_par hij (ps_par G.gx.gg.calm G.gx.nd (G.at h1).1 (G.at h2).1 hij (by rw [e0]; exact beq_iff_eq.mp g2) (by rw [e0]; exact beq_iff_eq.mp g3)
        (pa_cons (v_of (pea false) pua fun z => (Bool.and_eq_true _ _ ▸ z).2) (pa_cons (v_of (peb false) pub fun z => (Bool.and_eq_true _ _ ▸ z).2) pa_nil (noStar (noStarE h4) _ _)) (noStar (noStarE h3) _ _)) sw rfl)
    · rw [if_neg hp] at h; cases h
  · -- x, y = e
    rename_i x px y py kt pt e pos _ _
    obtain ⟨i, h1, h⟩ := bindO_inv h
    obtain ⟨j, h2, h⟩ := bindO_inv h
    by_cases hij : i = j ∨ isTupE e = true
    · rw [if_pos hij] at h; cases h
    · rw [if_neg hij] at h
      obtain ⟨ie, h3, rfl⟩ := map_inv h
      refine b_cons ?_ (hk N)
      refine s_two (ps_asg ((PE1.e W G.gx h3).1 false) (dst_ok G.gx (dst_two h1 h2 fun z => hij (.inl z))) (by cases e <;> rfl) ?_ rfl)
      cases e with
      | Tuple es k p => exact absurd (.inr rfl) hij
      | _ => rfl
  · -- a[b] = e
    rename_i a b p e pos
    obtain ⟨ia, h1, h⟩ := bindO_inv h
    obtain ⟨ib, h2, h⟩ := bindO_inv h
    obtain ⟨ie, h3, rfl⟩ := map_inv h
    refine b_cons ?_ (hk N)
    refine s_put (ps_asg ((PE1.e W G.gx h3).1 false) (pg_sub ((PE1.e W G.gx h1).1 false) ((PE1.e W G.gx h2).1 false) set_list ?_) (by cases e <;> rfl) ?_ rfl)
    · intro v
      cases b with
      | Slice lo hi st p => 
        cases n with
        | zero => simp only [cE] at h2; cases h2
        | succ n => simp only [cE] at h2; cases h2
      | _ => rfl
    · cases e <;> rfl
  · -- x op= e
    rename_i x px o e pos
    by_cases ho : o = .Pow
    · rw [if_pos ho] at h; cases h
    · rw [if_neg ho] at h
      obtain ⟨i, h1, h⟩ := bindO_inv h
      obtain ⟨o', h2, h⟩ := bindO_inv h
      obtain ⟨ie, h3, rfl⟩ := map_inv h
      refine b_cons ?_ (hk N)
      have np : o' ≠ .pow := fun z => by
        subst z
        cases o <;> first
          | exact ho rfl
          | cases h2
      exact s_aug h2 np fun ti hti => ps_aug G.gx.nd (G.at h1).1 (G.at h1).2.1 ((PE1.e W G.gx h3).1 true) hti (G.at h1).2.2
  · -- y.append(e)
    rename_i y py m ap e p pos
    by_cases hm : (decide (m = "append") && (ap.endLine == p.line)) = true
    · rw [if_pos hm] at h
      rw [Bool.and_eq_true] at hm
      have em := of_decide_eq_true hm.1
      subst em
      obtain ⟨j, h1, h⟩ := bindO_inv h
      obtain ⟨ie, h2, h⟩ := bindO_inv h
      by_cases hc : c.mu.contains j = true
      · rw [if_pos hc] at h
        cases h
        refine b_cons ?_ (hk N)
        obtain ⟨g1, g2, g3⟩ := slot_ok h1
        have ns := noStar (noStarE h2) X.env []
        exact s_app (ps_expr (pe_bm F.plainAttrs_list F.slot_list_append F.type_list_append mt_append (pe_var (by rw [G.gx.nm]; exact g3) (by rw [G.gx.sc]; exact g1) (okNm_ok g2).1 (okNm_ok g2).2.1) (pa_cons ((PE1.e W G.gx h2).1 false) pa_nil ns) rfl (few1 (noStarE h2) _) hm.2 ns rfl) rfl)
      · rw [if_neg hc] at h; cases h
    · rw [if_neg hm] at h; cases h
  · -- e
    rename_i e pos _
    by_cases hl : isLcE e = true
    · rw [if_pos hl] at h; cases h
    · rw [if_neg hl] at h
      obtain ⟨ie, h1, rfl⟩ := map_inv h
      exact b_cons (s_exp (ps_expr ((PE1.e W G.gx h1).1 false) (sw_no (Bool.not_eq_true _ ▸ hl) h1 _ _))) (hk N)
  · -- return e
    obtain ⟨ie, h1, rfl⟩ := map_inv h
    exact pss_imp (pss_cons (s_ret (N := N) (ps_ret ((PE1.e W G.gx h1).1 false))) pss_never) fun D σ H h => r_ret (r_frzAll h)
  · -- if
    obtain ⟨it, h1, h⟩ := bindO_inv h
    obtain ⟨ia, h2, h⟩ := bindO_inv h
    obtain ⟨ib, h3, rfl⟩ := map_inv h
    exact b_cons (s_cnd (ps_if (PE1.t W G.gx h1) (P.ss W G h2 N) (P.ss W G h3 N))) (hk N)
  · -- while
    obtain ⟨it, h1, h⟩ := bindO_inv h
    obtain ⟨ib, h2, h⟩ := bindO_inv h
    by_cases hs : sole c (esT it) = true
    · rw [if_pos hs] at h
      cases h
      exact b_cons0 (s_whl (ps_while G.hp (PE1.t W G.gx h1) (P.ss W G h2 N))) (hk N)
    · rw [if_neg hs] at h; cases h
  · -- for
    obtain ⟨tg, h1, h⟩ := bindO_inv h
    obtain ⟨it, h2, h⟩ := bindO_inv h
    obtain ⟨ib, h3, rfl⟩ := map_inv h
    exact b_cons (s_for (ps_for G.hp G.gx.gg.calm (PE1.it W G.gx h2 false _) (dst_ok G.gx h1) (any_block fun N => P.ss W G h3 N) (foldSet (noSetI h2) _))) (hk N)
  · -- pass
    cases h
    exact pss_imp (pss_cons ps_pass (hk N)) fun D σ H h => h
  · -- raise
    cases h
    exact pss_imp pss_never fun D σ H ⟨F, α, ρ, S, z, w⟩ => by
      simp only [exSs, exS, wp_bind, wp_stuck] at w
  · cases h
theorem sp_zero : SP g cal 0 := by
  constructor
  · intro c X W G sts b h; simp only [cSs] at h; cases h
  · intro c X W G st rest k b hk h; simp only [cS] at h; cases h
theorem sp_all : ∀ n, SP g cal n
  | 0 => sp_zero
  | n + 1 => { ss := fun W G _ _ h => sp_ss (sp_all n) W G h, s := fun W G _ _ _ _ hk h => sp_s (sp_all n) W G hk h }
end
end EV

/-! EvS: every def of a module does what the evaluator tells. -/
namespace EV
open PySem PySem.Spec PyProof.Rows L2
def fnNm (s : Stmt) : Str := match s with
  | .FunctionDef n .. => n
  | _ => Str.empty
def stD (s : Stmt) : He.DefD := ⟨(fnNm s, none), fnNm s, fnNm s, defArgs s, defBody s, defScope s, [], []⟩
def BindOk (st : Stmt) (ps : List Str) : Prop := ∀ (kV doc pm : Value) (an : Option Addr) (cdv ct : Value) (us : List Value), us.length = ps.length →
  bindArgs (PySem.W.fnOf (fnNm st) (fnNm st) (defArgs st) (defBody st) (defScope st) .none kV doc pm an cdv ct) ⟨us, []⟩ = pure (ps.zip us)
theorem scB_ok {f : FnI} (h : scB f = true) : FnScope f.N f.ps (defScope f.st) := by
  unfold scB at h
  simp only [Bool.and_eq_true, beq_iff_eq, Bool.not_eq_true', decide_eq_true_eq, List.all_eq_true] at h
  obtain ⟨⟨⟨⟨⟨⟨h1, h2⟩, h3⟩, h4⟩, h5⟩, h6⟩, h7⟩ := h
  refine ⟨h1, h2, h3, h4, h5, fun x hx => ?_, fun y hy e => ?_⟩
  · have := h6 x hx
    unfold isLoc at this
    split at this
    · exact .inl (by assumption)
    · exact .inr (by assumption)
    · cases this
  · have := h7 y hy
    rw [e] at this
    cases this
/-- at the entry -/
theorem entry {K : PySem.W.Frag} {F : Hp} {α : List Addr} {S : Sto} {H : Hp} {f : Fn} {N : List Str} {xs : List PV} {vs : List V} (st : StR K F α S H) (r : RpL K F α xs vs) (hn : f.ns = N.length) : StE K ⟨F, α, H, F, α⟩ F α (envOf f xs) S (L2.start N vs) H := by
  have hl := r.length
  have no : ∀ {i : Nat} {sv : SV}, (envOf f xs)[i]? = some (some sv) → ∃ x, xs[i]? = some x ∧ sv = .val x := fun {i sv} h => by
    unfold envOf at h
    by_cases hi : i < xs.length
    · rw [List.getElem?_append_left (by rw [List.length_map]; exact hi), List.getElem?_map] at h
      obtain ⟨x, hx⟩ : ∃ x, xs[i]? = some x := ⟨xs[i], List.getElem?_eq_getElem hi⟩
      rw [hx] at h
      cases h
      exact ⟨x, hx, rfl⟩
    · rw [List.getElem?_append_right (by rw [List.length_map]; omega)] at h
      rw [List.getElem?_replicate] at h
      split at h <;> cases h
  refine ⟨st, ⟨?_, fun i sv h => ?_, fun i j ys zs a h => ?_⟩, ⟨Ext.refl F α H, Same.refl F, Pre.refl α⟩, fun i ys a h => ?_⟩
  · unfold envOf L2.start
    simp only [List.length_append, List.length_map, List.length_replicate, hn, hl]
  · obtain ⟨x, hx, rfl⟩ := no h
    obtain ⟨v, hv, hr⟩ := r.get hx
    refine ⟨v, ?_, hr⟩
    unfold L2.start
    rw [List.getElem?_append_left (by rw [List.length_map]; exact (List.getElem?_eq_some_iff.mp hv).1), List.getElem?_map, hv]
    rfl
  · obtain ⟨x, hx, e⟩ := no h
    cases e
  · obtain ⟨x, hx, e⟩ := no h
    cases e
section
variable {P : Program} {w : World} {K : PySem.W.Frag} {mg : Str → Option Value} {base : Heap}
/-- what is known of the module -/
structure MdOk (K : PySem.W.Frag) (mg : Str → Option Value) (g : Cfg) (fs : List FnI) (sems : List Fn) : Prop where
  nm : g.fns = fs.map fun f => fnNm f.st
  df : ∀ (i : Nat) (fi : FnI), fs[i]? = some fi → ∃ f fd, mg (fnNm fi.st) = some (.ref f) ∧ FunD K (fnNm fi.st) (fnNm fi.st) (defArgs fi.st) (defBody fi.st) (defScope fi.st) [] [] f fd
  bd : ∀ fi ∈ fs, BindOk fi.st fi.ps
  sc : ∀ fi ∈ fs, scB fi = true
  cp : ∀ (i : Nat) (fi : FnI), fs[i]? = some fi → ∃ b, cSs g fuel fi.cc (defBody fi.st) = some b ∧ sems[i]? = some ⟨fi.ps.length, fi.N.length, b⟩
  free : ∀ x, x ∈ bltNames → g.free x = true → mg x = none
  con : ∀ x pv, g.con.lookup x = some pv → ∃ u v, mg x = some u ∧ RelV v u ∧ ∀ F α, Rp K F α pv v
theorem fnG_all {g : Cfg} {fs : List FnI} {sems : List Fn} (md : MdOk K mg g fs sems) : ∀ (k : Nat) (i : Nat) (fi : FnI) (f : Addr) (fd : FuncData), fs[i]? = some fi → mg (fnNm fi.st) = some (.ref f) →
    FunD K (fnNm fi.st) (fnNm fi.st) (defArgs fi.st) (defBody fi.st) (defScope fi.st) [] [] f fd → FnG P w K mg base k f fd fi.ps (spOf K (sem sems k) i)
  | 0, i, fi, f, fd, hi, hm, hF => ⟨fun vs H Q E ⟨F, α, xs, S, st, r, h⟩ => h.elim, fun A outer s H args us vs Q E _ _ _ _ _ ⟨F, α, xs, S, st, r, h⟩ => h.elim⟩
  | k + 1, i, fi, f, fd, hi, hm, hF => by
    have IH := fnG_all md k
    have mem := List.mem_of_getElem? hi
    have SC := scB_ok (md.sc fi mem)
    obtain ⟨b, hb, hs⟩ := md.cp i fi hi
    have sm : ∀ xs S, sem sems (k + 1) i xs S = (if xs.length = fi.ps.length then (exSs (sem sems k) b (envOf ⟨fi.ps.length, fi.N.length, b⟩ xs) >>= fun o => (match o with
        | .ret v => pure v
        | .next _ => pure .non : M PV)) else stuck : M PV) S := fun xs S => by
      simp only [sem, hs]
      all_goals rfl
    have len : ∀ vs H Q E, spOf K (sem sems (k + 1)) i vs H Q E → vs.length = fi.ps.length := fun vs H Q E ⟨F, α, xs, S, st, r, h⟩ => by
      rw [sm] at h
      by_cases hl : xs.length = fi.ps.length
      · rw [← r.length]; exact hl
      · rw [if_neg hl] at h; exact h.elim
    refine ⟨len, fun A outer s H args us vs Q E hr hg e0 hbn r hsp => ?_⟩
    have hl := len _ _ _ _ hsp
    obtain ⟨oc, od, dV, kV, doc, pm, an, cdv, ct, osl, rfl, lk, hcd, _, _⟩ := hF.ex
    have KX : K.In s.heap := e0.mod.kin.keeps fun b o e => (e0.bs b o e).1
    have lim : s.heap.NoLimit := e0.mod.nolimit.keeps fun b o e => (e0.bs b o e).1
    have hkind : ∀ y ∈ fi.ps.zip us, (defScope fi.st).names.lookup y.1 = some .local ∨ ((defScope fi.st).names.lookup y.1 = some .cell ∧ ((cellsFrom (s.heap.objs.size + 1) (defScope fi.st).names []).lookup y.1).isSome = true) := fun ⟨n, v⟩ hy => by
      rcases SC.par n (List.of_mem_zip hy).1 with q | q
      · exact .inl q
      · exact .inr ⟨q, PySem.W.cellsFrom_some _ _ _ (.inl q)⟩
    refine codeAny_call_function hr.depth (KX _ _ lk) rfl SC.co SC.gen rfl (PySem.W.codeRec_of KX hcd) (hbn _ _ _ _ ?_)
    refine wpAny_newFunctionEnv_cells SC.kind hkind fun env he s1 x => ?_
    subst he
    refine ⟨lim.keeps x.toInCall.keep, codeAny_func ?_⟩
    have hA : (A.deeper (envOfC (fnNm fi.st) (defScope fi.st) s.heap.objs.size f cdv)).guards = some [] := hg
    have hR : Room k (A.deeper (envOfC (fnNm fi.st) (defScope fi.st) s.heap.objs.size f cdv)) := hr.deeper _
    have G : GS g (sem sems k) fi.cc (cxOf CX0 P w K mg base fi.N (fnNm fi.st) (defScope fi.st) f cdv A outer s H E) := by
      refine ⟨⟨⟨rfl, hR.mono (Nat.zero_le _), hA, md.free, md.con, fun j x hx => ?_⟩, rfl, SC.nd, rfl, SC.kind, fun x j hj => ?_⟩, rfl, PassesOwn.leaving⟩
      · rw [md.nm, List.getElem?_map] at hx
        obtain ⟨fj, hj, rfl⟩ := map_inv hx
        obtain ⟨f2, fd2, m2, F2⟩ := md.df j fj hj
        exact ⟨k, f2, fd2, fj.ps, hR, m2, F2.kp, F2.bindsN fun kV doc pm an cdv ct us hl => md.bd fj (List.mem_of_getElem? hj) kV doc pm an cdv ct us hl, IH j fj f2 fd2 hj m2 F2⟩
      · refine ⟨?_, .inl rfl⟩
        unfold CC.asg at hj
        by_cases e : (okNm x && CC.asgB fi.cc x) = true
        · rw [Bool.and_eq_true] at e
          have e2 : isLoc (defScope fi.st) x = true := e.2
          unfold isLoc at e2
          split at e2
          · exact .inl (by assumption)
          · exact .inr (by assumption)
          · cases e2
        · rw [if_neg e] at hj; cases hj
    obtain ⟨F, α, xs, S, st, rx, h⟩ := hsp
    rw [sm] at h
    have hlx : xs.length = fi.ps.length := by rw [rx.length]; exact hl
    rw [if_pos hlx] at h
    have ht := (sp_all (g := g) (cal := sem sems k) fuel).ss E G hb ⟨F, α, H, F, α⟩
    have I : Inv (cxOf CX0 P w K mg base fi.N (fnNm fi.st) (defScope fi.st) f cdv A outer s H E) [] (L2.start fi.N vs) H s1 := inv_start SC hr.hd e0 hl r x
    have hq : tS K E ⟨F, α, H, F, α⟩ (exSs (sem sems k) b) { nx := fun _ H' => Q .non H', rt := Q } (L2.start fi.N vs) H := by
      refine ⟨F, α, _, S, entry (f := ⟨fi.ps.length, fi.N.length, b⟩) st rx rfl, ?_⟩
      rw [wp_bind] at h
      refine h.mono (fun o S1 c => ?_) fun _ _ z => z
      cases o with
      | ret v => exact c
      | next ρ' => exact fun F' α' σ' H' z => c F' α' H' .non z.ex.e z.st .non
    refine wpAny_mono (ht.run [] s1 (L2.start fi.N vs) H _ I hq) (fun fl s' hs => ?_) fun e s' hs => hs
    have fin : ∀ {σ' : L2.St} {H' : Hp} {v : V} {u : Value}, Inv (cxOf CX0 P w K mg base fi.N (fnNm fi.st) (defScope fi.st) f cdv A outer s H E) [] σ' H' s' → RelV v u → Q v H' → CE outer P w H s Q u s' :=
      fun {σ' H' v u} J rv q => ⟨v, H', J.os, J.bare, J.base, J.hok, rv, q⟩
    cases fl with
    | ret u =>
      obtain ⟨v, σ', H', J, rv, q⟩ := hs
      exact fin J rv q
    | next =>
      obtain ⟨σ', H', J, q⟩ := hs
      exact fin (v := V.non) (u := Value.none) J rfl q
    | brk =>
      obtain ⟨_, _, _, q⟩ := hs
      exact False.elim q
    | cont =>
      obtain ⟨_, _, _, q⟩ := hs
      exact False.elim q
end
end EV

/-! EvT: the law's end. -/
namespace EV
open PySem PySem.Spec PyProof.Rows L2
/-- a heap in which at most the script stands -/
structure OnlyAt (s : Shared) (K : PySem.W.Frag) (a : Addr) (H : Hp) : Prop where
  at_ : ∀ b u, H b = some u → b = a ∧ K.lookup a = none
  frz : ∀ b u, H b = some u → ∃ o xs, u = .frz o (.lst xs)
theorem call_at {P : Program} {w : World} {K : PySem.W.Frag} {mg mb : Str → Option Value} {k : Nat} {fa a : Addr} {fd : FuncData} {x : Str} {sp : Sp} {s : Shared} {vs : List Value} {H : Hp} (kin : K.In s.heap) (nsm : s.heap.Ns mainGlobals mg) (nsb : s.heap.Ns builtinsNs mb)
    (boot : ∀ x : Str, x ≠ "__name__" → mb x = bootBuiltins x) (lim : s.heap.NoLimit) (gens : s.gens = #[]) (obj : s.heap.get? a = some { cls := .type "list", data := .seq vs.toArray }) (rm : Room k callerA)
    (G : ∀ base : Heap, K.In base → base.Ns mainGlobals mg → FnG P w K mg base k fa fd [x] sp) (bind : ∀ (s : Shared) (u : Value), BindsTo s fd ⟨[u], []⟩ [(x, u)]) (on : OnlyAt s K a H) (hok : HOk P w H s.heap)
    (say : sp [.ref a] H (fun v _ => v = .bl true) fun _ _ _ => False) :
    codeAny (model P w) callerA (.call (.ref fa) ⟨[.ref a], []⟩) (fun r s' => r = .ok (.ret (.bool true)) ∧ OldK s.heap s'.heap ∧ s'.os = s.os ∧ AllBare s'.gens) s := by
  have stay : ∀ {b : Addr} {o : Obj}, s.heap.get? b = some o → H b = none → (hidT s.heap H).get? b = some o := hidT_get
  have dict : ∀ {b : Addr} {m : Str → Option Value}, s.heap.Ns b m → (hidT s.heap H).Ns b m := fun {b m} n => by
    obtain ⟨o, es, ep, h1, h2, h3⟩ := n
    refine ⟨o, es, ep, stay h1 ?_, h2, h3⟩
    cases q : H b with
    | none => rfl
    | some u =>
      have e := (on.at_ b u q).1
      rw [e, obj] at h1
      cases h1
      exact nomatch (show Data.seq vs.toArray _ = Data.dict es ep from h2)
  have kin2 : K.In (hidT s.heap H) := fun b o e => stay (kin b o e) (by
    cases q : H b with
    | none => rfl
    | some u =>
      obtain ⟨e1, e2⟩ := on.at_ b u q
      rw [e1, e2] at e
      cases e)
  have en0 : Env0 P w K mg (hidT s.heap H) callerA [] s H := by
    refine ⟨rfl, ⟨kin2, dict nsm, ⟨mb, dict nsb, boot⟩, ?_⟩, fun b o e => of_hidT e, Nat.le_of_eq (hidT_size _ _), trivial, (fun b z => nomatch z), hok, .of_eq gens⟩
    obtain ⟨mc, g1, g2⟩ := lim
    exact ⟨mc, dict g1, g2⟩
  refine codeAny_mono ((G _ kin2 (dict nsm)).go callerA [] s H ⟨[.ref a], []⟩ [.ref a] [.ref a] _ _ rm rfl en0 (bind s (.ref a)) (.cons rfl .nil) say) fun r s' fin => ?_
  match r, fin with
  | .ok (.ret u), fin =>
    obtain ⟨v, H', o1, o2, un, ok', rv, q⟩ := fin
    have qv : v = .bl true := q
    subst qv
    obtain rfl : u = Value.bool true := rv
    refine ⟨rfl, OldK.of_keep fun b o e => ?_, o1, o2⟩
    cases q : H b with
    | none => exact un.keep b o e q (fun z => nomatch z) (by simp)
    | some u =>
      obtain ⟨ob, xs, rfl⟩ := on.frz b u q
      have l1 := (hok b _ q).1
      have l2 := (ok' b _ (un.frzs b ob _ q)).1
      rw [e] at l1
      cases l1
      exact l2
theorem call_law {P : Program} {w : World} {K : PySem.W.Frag} {mg mb : Str → Option Value} {k : Nat} {fa a : Addr} {fd : FuncData} {x : Str} {sp : Sp} {s : Shared} {vs : List Value} {ns : List Int} (kin : K.In s.heap) (nsm : s.heap.Ns mainGlobals mg) (nsb : s.heap.Ns builtinsNs mb)
    (boot : ∀ x : Str, x ≠ "__name__" → mb x = bootBuiltins x) (lim : s.heap.NoLimit) (gens : s.gens = #[]) (obj : s.heap.get? a = some { cls := .type "list", data := .seq vs.toArray }) (isInts : IntsAre vs ns) (short : ns.length ≤ sizeLine) (rm : Room k callerA)
    (G : ∀ base : Heap, K.In base → base.Ns mainGlobals mg → FnG P w K mg base k fa fd [x] sp) (bind : ∀ (s : Shared) (u : Value), BindsTo s fd ⟨[u], []⟩ [(x, u)])
    (say : ∀ H : Hp, SqL K H a (ns.map V.int) → sp [.ref a] H (fun v _ => v = .bl true) fun _ _ _ => False) :
    codeAny (model P w) callerA (.call (.ref fa) ⟨[.ref a], []⟩) (fun r s' => r = .ok (.ret (.bool true)) ∧ OldK s.heap s'.heap ∧ s'.os = s.os ∧ AllBare s'.gens) s := by
  have rv := vals_ints isInts
  have len := isInts.length
  cases hk : K.lookup a with
  | some o =>
    have e := kin a o hk
    rw [obj] at e
    cases e
    exact call_at (H := fun _ => none) kin nsm nsb boot lim gens obj rm G bind ⟨(fun b u z => nomatch z), (fun b u z => nomatch z)⟩ (fun b u z => nomatch (show (none : Option HO) = some u from z))
      (say _ (.inr ⟨_, vs.toArray, _, hk, rfl, rfl, rfl, by rw [List.size_toArray, len]; exact short, by simpa using rv⟩))
  | none =>
    let ob : Obj := { cls := .type "list", data := .seq vs.toArray }
    let H : Hp := fun b => if b = a then some (.frz ob (.lst (ns.map V.int))) else none
    have inv : ∀ {b u}, H b = some u → b = a ∧ u = .frz ob (.lst (ns.map V.int)) := fun {b u} z => by
      by_cases hb : b = a
      · have z2 := (if_pos hb).symm.trans z
        cases z2
        exact ⟨hb, rfl⟩
      · exact nomatch (if_neg hb).symm.trans z
    refine call_at (H := H) kin nsm nsb boot lim gens obj rm G bind ⟨fun b u z => ⟨(inv z).1, hk⟩, fun b u z => ⟨_, _, (inv z).2⟩⟩ (fun b u z => ?_) (say _ (.inl (.inr ⟨ob, if_pos rfl⟩)))
    obtain ⟨rfl, rfl⟩ := inv z
    exact ⟨obj, by rw [List.length_map]; exact short, vs, _, rv, obj⟩
/-- the law's own word: the evaluator says True -/
theorem say_of {K : PySem.W.Frag} {sems : List Fn} {k L : Nat} {ns : List Int} {a : Addr} {H : Hp} {S' : Sto} (sq : SqL K H a (ns.map V.int)) (h : sem sems k L [.scr ns] [] = .ok (.bl true) S') : spOf K (sem sems k) L [.ref a] H (fun v _ => v = .bl true) fun _ _ _ => False := by
  refine ⟨H, [], [.scr ns], [], ⟨fun b u z => z, rfl, List.nodup_nil, (fun n so a z => nomatch z), (fun a z => nomatch z)⟩, .cons (.scr sq) .nil, ?_⟩
  rw [h]
  intro F' α' H' v e st r
  cases r
  rfl
end EV

/-! EvU: a law's module: what the head must tell, and the walk from it. -/
namespace EV
open PySem PySem.Spec PyProof.Rows L2
/-! ### constants of the module -/
def vOf : Value → V
  | .none => .non
  | .bool b => .bl b
  | .int i _ => .int i
  | .str x _ => .str x
  | .ref a => .ref a
  | _ => .non
mutual
def cstB (K : PySem.W.Frag) : PV → Value → Bool
  | .non, .none => true
  | .bl b, .bool c => b == c
  | .int i, .int j _ => decide (i = j)
  | .str x, .str y _ => decide (x = y)
  | .tup xs, .ref a => (match K.lookup a with
    | some ⟨.type c, _, .seq its _, _⟩ => decide (c = "tuple") && (decide (its.size ≤ sizeLine) && cstsB K xs its.toList)
    | _ => false)
  | _, _ => false
def cstsB (K : PySem.W.Frag) : List PV → List Value → Bool
  | [], [] => true
  | x :: r, u :: us => cstB K x u && cstsB K r us
  | _, _ => false
end
mutual
theorem cstB_ok {K : PySem.W.Frag} : ∀ {x : PV} {u : Value}, cstB K x u = true → RelV (vOf u) u ∧ ∀ F α, Rp K F α x (vOf u)
  | .non, u, h => by
    cases u <;> first
      | exact ⟨rfl, fun F α => .non⟩
      | (simp only [cstB] at h; cases h)
  | .bl b, u, h => by
    cases u <;> first
      | (simp only [cstB, beq_iff_eq] at h; subst h; exact ⟨rfl, fun F α => .bl _⟩)
      | (simp only [cstB] at h; cases h)
  | .int i, u, h => by
    cases u <;> first
      | (simp only [cstB, decide_eq_true_eq] at h; subst h; exact ⟨⟨_, rfl⟩, fun F α => .int _⟩)
      | (simp only [cstB] at h; cases h)
  | .str i, u, h => by
    cases u <;> first
      | (simp only [cstB, decide_eq_true_eq] at h; subst h; exact ⟨⟨_, rfl⟩, fun F α => .str _⟩)
      | (simp only [cstB] at h; cases h)
  | .tup xs, u, h => by
    cases u with
    | ref a =>
      simp only [cstB] at h
      cases e : K.lookup a with
      | none => rw [e] at h; cases h
      | some o =>
        rw [e] at h
        obtain ⟨c, d, dt, sl⟩ := o
        cases c with
        | type c =>
          cases dt with
          | seq its n =>
            simp only [Bool.and_eq_true, decide_eq_true_eq] at h
            obtain ⟨h1, h2, h3⟩ := h
            obtain ⟨r1, r2⟩ := cstsB_ok h3
            exact ⟨rfl, fun F α => .tup (vs := its.toList.map vOf) (.inr ⟨_, its, n, e, congrArg Value.type h1, rfl, h2, r1⟩) (r2 F α)⟩
          | _ => cases h
        | _ => cases dt <;> cases h
    | _ => simp only [cstB] at h; cases h
  | .lst xs, u, h => by cases u <;> (simp only [cstB] at h; cases h)
  | .ref n, u, h => by cases u <;> (simp only [cstB] at h; cases h)
  | .scr n, u, h => by cases u <;> (simp only [cstB] at h; cases h)
theorem cstsB_ok {K : PySem.W.Frag} : ∀ {xs : List PV} {us : List Value}, cstsB K xs us = true → Vals (us.map vOf) us ∧ ∀ F α, RpL K F α xs (us.map vOf)
  | [], [], _ => ⟨.nil, fun F α => .nil⟩
  | x :: r, u :: us, h => by
    simp only [cstsB, Bool.and_eq_true] at h
    obtain ⟨h1, h2⟩ := cstB_ok h.1
    obtain ⟨h3, h4⟩ := cstsB_ok h.2
    exact ⟨.cons h1 h3, fun F α => .cons (h2 F α) (h4 F α)⟩
  | [], _ :: _, h => by simp only [cstsB] at h; cases h
  | _ :: _, [], h => by simp only [cstsB] at h; cases h
end
def conB (K : PySem.W.Frag) (p : Str × PV) : Bool := match PySem.W.nsIn K mainGlobals p.1 with
  | some (some u) => cstB K p.2 u
  | _ => false
/-! ### a law -/
structure Lw where
  fs : List FnI
  frees : List Str
  con : List (Str × PV)
  sems : List Fn
def Lw.g (l : Lw) : Cfg := ⟨l.fs.map fun f => fnNm f.st, l.con⟩
def Lw.ck (l : Lw) (K : PySem.W.Frag) : Bool := (l.fs.all fun f => He.Fa.ok K (.glo (fnNm f.st))) && ((l.frees.all fun x => He.Fa.ok K (.free x)) && l.con.all (conB K))
def Lw.fn (l : Lw) : List He.DefD := l.fs.map fun f => stD f.st
def Lw.obsK (l : Lw) (K : PySem.W.Frag) : He.AlD := (l.ck K && l.fn.all fun d => d.ok K, l.fn.map fun d => He.fnW K d.at_)
def Lw.valK (l : Lw) : He.AlD := (true, l.fn.map He.DefD.val)
def Lw.Says (l : Lw) (K : PySem.W.Frag) : Prop := l.obsK K = l.valK
def Lw.obsG (l : Lw) (n : Nat) (g : Addr → Option Obj) : He.AlD := l.obsK (He.frG g (He.asD g n))
def Lw.hook (l : Lw) (n : Nat) : PySem.W.Hook where
  α := He.AlD
  obs := fun s => l.obsG n s.heap.get?
  val := fun _ => l.valK
  says := fun _ h => ∃ K : PySem.W.Frag, K.In h ∧ l.Says K
  of := fun _ _ e => ⟨_, He.frG_in, e⟩
  keeps := fun _ _ _ ⟨K, hK, c⟩ k => ⟨K, PySem.W.Frag.In.keeps hK k, c⟩
theorem Lw.obs_eq {l : Lw} {n : Nat} {g : Addr → Option Obj} {s : Shared} (h : ∀ a, g a = s.heap.get? a) : l.obsG n g = (l.hook n).obs s := by
  have e : g = s.heap.get? := funext h
  rw [e] <;> rfl
section
variable {l : Lw} {K : PySem.W.Frag} {h : Heap} {mg : Str → Option Value}
theorem Lw.says_ck (c : l.Says K) : l.ck K = true ∧ ∀ d ∈ l.fn, d.ok K = true := by
  have c1 : (l.ck K && l.fn.all fun d => d.ok K) = true := congrArg (fun z : He.AlD => z.1) c
  rw [Bool.and_eq_true, List.all_eq_true] at c1
  exact c1
theorem Lw.says_fn (c : l.Says K) {i : Nat} {fi : FnI} (hi : l.fs[i]? = some fi) : He.fnW K (stD fi.st).at_ = (stD fi.st).val := by
  have c2 : (l.fn.map fun d => He.fnW K d.at_) = l.fn.map He.DefD.val := congrArg (fun z : He.AlD => z.2) c
  have e := congrArg (fun z : List He.FnW => z[i]?) c2
  simp only [Lw.fn, List.getElem?_map, hi, Option.map_some] at e
  exact Option.some.inj e
theorem Lw.md (X : K.In h) (G : h.Ns mainGlobals mg) (c : l.Says K) (bd : ∀ fi ∈ l.fs, BindOk fi.st fi.ps) (sc : l.fs.all scB = true) (cp : l.fs.map (cFn l.g) = l.sems.map some)
    (fr : (bltNames.all fun x => !l.g.free x || l.frees.contains x) = true) : MdOk K mg l.g l.fs l.sems := by
  obtain ⟨c1, c2⟩ := Lw.says_ck c
  simp only [Lw.ck, Bool.and_eq_true, List.all_eq_true] at c1
  obtain ⟨g1, g2, g3⟩ := c1
  refine ⟨rfl, fun i fi hi => ?_, bd, fun fi hf => List.all_eq_true.mp sc fi hf, fun i fi hi => ?_, fun x hx hfr => ?_, fun x pv hx => ?_⟩
  · have mem := List.mem_of_getElem? hi
    obtain ⟨fd, F⟩ := He.DefD.funD (Lw.says_fn c hi) (c2 _ (List.mem_map_of_mem mem))
    refine ⟨_, fd, He.glo_ok X G (g1 fi mem), ?_⟩
    exact F
  · have e := congrArg (fun z : List (Option Fn) => z[i]?) cp
    simp only [List.getElem?_map, hi, Option.map_some] at e
    cases hs : l.sems[i]? with
    | none => rw [hs] at e; cases e
    | some s =>
      rw [hs] at e
      have e2 : cFn l.g fi = some s := Option.some.inj e
      obtain ⟨b, hb, e3⟩ := map_inv (show ((cSs l.g fuel fi.cc (defBody fi.st)).map fun b => (⟨fi.ps.length, fi.N.length, b⟩ : Fn)) = some s from e2)
      exact ⟨b, hb, by rw [← e3]⟩
  · have := List.all_eq_true.mp fr x hx
    rw [hfr] at this
    exact He.free_ok X G (g2 x (List.contains_iff_mem.mp this))
  · have m := PySem.mem_of_lookup hx
    have := g3 _ m
    unfold conB at this
    cases e : PySem.W.nsIn K mainGlobals x with
    | none => rw [e] at this; cases this
    | some o =>
      rw [e] at this
      cases o with
      | none => cases this
      | some u =>
        obtain ⟨r1, r2⟩ := cstB_ok this
        exact ⟨u, _, PySem.W.mg_of X G e, r1, r2⟩
end
theorem walk_law {l : PySem.W.OpenLaw} {n k L m : Nat} {q : Program} {loose : List Str} {XP : (Str → Option Value) → Heap → Prop} {d : DefRec} {lw : Lw} {fi : FnI} {x : Str} (hn : l.most = some n) (hn2 : n ≤ sizeLine) (hdf : d.params.defaults = [])
    (rm : Room k callerA) (bd : ∀ fi ∈ lw.fs, BindOk fi.st fi.ps) (sc : lw.fs.all scB = true) (cp : lw.fs.map (cFn lw.g) = lw.sems.map some) (fr : (bltNames.all fun x => !lw.g.free x || lw.frees.contains x) = true)
    (hL : lw.fs[L]? = some fi) (hps : fi.ps = [x]) (hd : d.name = fnNm fi.st)
    (ok : ∀ ns : List Int, ns.length ≤ n → (∀ z ∈ ns, Builtin.Int.intBits z ≤ 1048576) → ∃ S', sem lw.sems k L [.scr ns] [] = .ok (.bl true) S') :
    PySem.W.WalkO q loose XP (lw.hook m).says l.row.toRowW d [] (fun f vs => PySem.call f vs) := by
  refine Att.attach_callB hn hdf fun w s₀ s₁ mg mb fa o pm cd doc a vs ns G Y ho hdt hcd hmg hobj hints hlen hbits hg => ?_
  obtain ⟨K, KX, c⟩ := Y
  have md := Lw.md KX G.T.g c bd sc cp fr
  obtain ⟨f, fd, m1, F⟩ := md.df L fi hL
  have e : fa = f := by
    rw [hd] at hmg
    rw [hmg] at m1
    cases m1
    rfl
  subst e
  obtain ⟨S', hS⟩ := ok ns hlen hbits
  have bd2 := FunD.bindsA (ps := fi.ps) F fun kV doc pm an cdv ct us hl => bd fi (List.mem_of_getElem? hL) kV doc pm an cdv ct us hl
  refine call_law (fd := fd) (x := x) (sp := spOf K (sem lw.sems k) L) KX G.T.g G.T.b G.T.builtins G.T.nolimit hg hobj hints (Nat.le_trans hlen hn2) rm (fun base _ _ => ?_) (fun s u => ?_) fun H sq => say_of sq hS
  · rw [← hps]
    exact fnG_all md k L fi fa fd hL m1 F
  · have := bd2 s [u] (by rw [hps]; rfl)
    rw [hps] at this
    exact this
end EV

/-! EvV: the evaluator's steps, one by one. -/
namespace EV
open PySem
section
variable {cal : Nat → List PV → M PV} {q : Bool} {ρ : Env} {S : Sto}
@[simp] theorem r_ok {α β : Type} (a : α) (s : Sto) (f : α → M β) : (Res.ok a s).bind f = f a s := rfl
@[simp] theorem r_exc {α β : Type} (a : Exc) (s : Sto) (f : α → M β) : (Res.exc a s).bind f = .exc a s := rfl
@[simp] theorem r_stuck {α β : Type} (f : α → M β) : (Res.stuck : Res α).bind f = .stuck := rfl
@[simp] theorem o_some {α : Type} (a : α) (S : Sto) : ofO (some a) S = .ok a S := rfl
@[simp] theorem o_none {α : Type} (S : Sto) : (ofO (none : Option α)) S = .stuck := rfl
@[simp] theorem p_ok {α : Type} (a : α) (S : Sto) : (pure a : M α) S = .ok a S := rfl
@[simp] theorem st_st {α : Type} (S : Sto) : (stuck : M α) S = .stuck := rfl
theorem if_ap {α : Type} (c : Prop) [Decidable c] (a b : M α) (S : Sto) : (if c then a else b) S = if c then a S else b S := by
  split <;> rfl
def Res.nx {α : Type} (r : Res α) : Res α := match r with
  | .ok a s => .ok a s
  | _ => .stuck
@[simp] theorem nx_ok {α : Type} (a : α) (s : Sto) : (Res.ok a s).nx = .ok a s := rfl
@[simp] theorem noX_ap {α : Type} (m : M α) (S : Sto) : noX m S = (m S).nx := by
  unfold noX Res.nx
  cases m S <;> rfl
@[simp] theorem g_var (h : ρ[i]? = some (some (SV.val v))) : getV q i ρ S = .ok v S := by unfold getV; rw [h]; rfl
@[simp] theorem asBl_ap (b : Bool) (S : Sto) : asBl (.bl b) S = .ok b S := rfl
@[simp] theorem asInt_ap (b : Int) (S : Sto) : asInt (.int b) S = .ok b S := rfl
@[simp] theorem asStr_ap (b : Str) (S : Sto) : asStr (.str b) S = .ok b S := rfl
theorem bc {α β : Type} {m : M α} {f : α → M β} {g : α → Sto → Res β} {S : Sto} (h : ∀ a S, f a S = g a S) : (m >>= f) S = (m S).bind g := by
  show (m S).bind f = (m S).bind g
  cases m S with
  | ok a s => exact h a s
  | _ => rfl
/-! expressions -/
@[simp] theorem e_var (i : Nat) : evE cal q (.var i) ρ S = (match ρ[i]? with
  | some (some (.val v)) => .ok v S
  | some (some (.own xs)) => if q = true then .ok (.lst xs) S else .stuck
  | _ => .stuck) := by
  simp only [evE]
  unfold getV
  cases ρ[i]? with
  | none => rfl
  | some o => cases o with
    | none => rfl
    | some sv => cases sv with
      | val v => rfl
      | own xs => cases q <;> rfl
@[simp] theorem e_cst (v : PV) : evE cal q (.cst v) ρ S = .ok v S := by simp only [evE]; rfl
@[simp] theorem e_bin (o : BOp) (a b : E) : evE cal q (.bin o a b) ρ S = (evE cal true a ρ S).bind fun x S => (evE cal true b ρ S).bind fun y S => ofO (binOp S o x y) S := by simp only [evE]; rfl
@[simp] theorem e_neg (a : E) : evE cal q (.neg a) ρ S = (evE cal false a ρ S).bind fun x S => (asInt x S).bind fun i S => .ok (.int (-i)) S := by simp only [evE]; rfl
@[simp] theorem e_cmp (o : COp) (a b : E) : evE cal q (.cmp o a b) ρ S = (evE cal true a ρ S).bind fun x S => (evE cal true b ρ S).bind fun y S => (ofO (cmpOp S o x y) S).bind fun c S => .ok (.bl c) S := by simp only [evE]; rfl
@[simp] theorem e_chn (o1 o2 : COp) (a b c : E) : evE cal q (.chn o1 o2 a b c) ρ S = (evE cal true a ρ S).bind fun x S => (evE cal true b ρ S).bind fun y S => (ofO (cmpOp S o1 x y) S).bind fun k S =>
    if k = true then (evE cal true c ρ S).bind fun z S => (ofO (cmpOp S o2 y z) S).bind fun k S => .ok (.bl k) S else .ok (.bl false) S := by
  simp only [evE]
  refine bc fun x S => bc fun y S => ?_
  show (ofO (cmpOp S o1 x y) >>= _) S = _
  refine bc fun k S => ?_
  cases k <;> rfl
@[simp] theorem e_and (a b : E) : evE cal q (.and a b) ρ S = (evE cal false a ρ S).bind fun x S => (asBl x S).bind fun k S => if k = true then evE cal false b ρ S else .ok (.bl false) S := by
  simp only [evE]
  refine bc fun x S => bc fun k S => ?_
  cases k <;> rfl
@[simp] theorem e_or (a b : E) : evE cal q (.or a b) ρ S = (evE cal false a ρ S).bind fun x S => (asBl x S).bind fun k S => if k = true then .ok (.bl true) S else evE cal false b ρ S := by
  simp only [evE]
  refine bc fun x S => bc fun k S => ?_
  cases k <;> rfl
@[simp] theorem e_not (a : E) : evE cal q (.not a) ρ S = (evE cal false a ρ S).bind fun x S => (asBl x S).bind fun k S => .ok (.bl (!k)) S := by simp only [evE]; rfl
@[simp] theorem e_ite (t : T) (a b : E) : evE cal q (.ite t a b) ρ S = (evT cal t ρ S).bind fun k S => if k = true then evE cal q a ρ S else evE cal q b ρ S := by
  simp only [evE]
  refine bc fun k S => ?_
  cases k <;> rfl
@[simp] theorem e_tup (es : Es) : evE cal q (.tup es) ρ S = (evEs cal es ρ S).bind fun xs S => if xs.length ≤ sizeLine then .ok (.tup xs) S else .stuck := by
  simp only [evE]
  refine bc fun k S => ?_
  split <;> rfl
@[simp] theorem e_lst (es : Es) : evE cal q (.lst es) ρ S = (evEs cal es ρ S).bind fun xs S => if xs.length ≤ sizeLine then .ok (.lst xs) S else .stuck := by
  simp only [evE]
  refine bc fun k S => ?_
  split <;> rfl
@[simp] theorem e_newl (es : Es) : evE cal q (.newl es) ρ S = (evEs cal es ρ S).bind fun xs S => if xs.length ≤ sizeLine then .ok (.ref S.length) (S ++ [.lst xs]) else .stuck := by
  simp only [evE]
  refine bc fun k S => ?_
  split <;> rfl
@[simp] theorem e_idx (a b : E) : evE cal q (.idx a b) ρ S = (evE cal true a ρ S).bind fun x S => (evE cal false b ρ S).bind fun y S => ofO (idxP S x y) S := by simp only [evE]; rfl
@[simp] theorem e_sli (a : E) (lo hi : Eo) : evE cal q (.sli a lo hi) ρ S = (evE cal true a ρ S).bind fun x S => (evEo cal lo ρ S).bind fun l S => (evEo cal hi ρ S).bind fun h S => ofO (sliP S x l h) S := by simp only [evE]; rfl
@[simp] theorem e_rev (a : E) : evE cal q (.rev a) ρ S = (evE cal true a ρ S).bind fun x S => (ofO (lstOf S x) S).bind fun xs S => .ok (.lst xs.reverse) S := by simp only [evE]; rfl
@[simp] theorem e_call (f : Nat) (es : Es) : evE cal q (.call f es) ρ S = (evEs cal es ρ S).bind fun xs S => cal f xs S := by simp only [evE]; rfl
@[simp] theorem e_blt (f : BI) (es : Es) : evE cal q (.blt f es) ρ S = (evEq cal es ρ S).bind fun xs S => ofO (bltOp S f xs) S := by simp only [evE]; rfl
@[simp] theorem e_isi (a : E) (ts : List String) : evE cal q (.isi a ts) ρ S = (evE cal true a ρ S).bind fun x S => (ofO (tyP S x) S).bind fun t S => .ok (.bl (ts.any (isSub t))) S := by simp only [evE]; rfl
@[simp] theorem e_join (a b : E) : evE cal q (.join a b) ρ S = (evE cal false a ρ S).bind fun x S => (asStr x S).bind fun sep S => (evE cal true b ρ S).bind fun y S => (ofO ((lstOf S y).bind strsOf) S).bind fun ys S => (ofO (joinP sep ys) S).bind fun z S => .ok (.str z) S := by simp only [evE]; rfl
@[simp] theorem e_lc (tg : TG) (it : IT) (c : To) (elt : E) (own : List Nat) : evE cal q (.lc tg it c elt own) ρ S = (evI cal true it ρ S).bind fun r S => if r.1.length ≤ sizeLine then (lcGo tg (evTo cal c) (evE cal false elt) r.2 (wipe ρ own) r.1 [] S).bind fun ys S => .ok (.lst ys) S else .stuck := by
  simp only [evE]
  refine bc fun k S => ?_
  split <;> rfl
@[simp] theorem es_nil : evEs cal .nil ρ S = .ok [] S := by simp only [evEs]; rfl
@[simp] theorem es_cons (e : E) (r : Es) : evEs cal (.cons e r) ρ S = (evE cal false e ρ S).bind fun x S => (evEs cal r ρ S).bind fun xs S => .ok (x :: xs) S := by simp only [evEs]; rfl
@[simp] theorem eq_nil : evEq cal .nil ρ S = .ok [] S := by simp only [evEq]; rfl
@[simp] theorem eq_cons (e : E) (r : Es) : evEq cal (.cons e r) ρ S = (evE cal true e ρ S).bind fun x S => (evEq cal r ρ S).bind fun xs S => .ok (x :: xs) S := by simp only [evEq]; rfl
@[simp] theorem eo_no : evEo cal .no ρ S = .ok none S := by simp only [evEo]; rfl
@[simp] theorem eo_so (e : E) : evEo cal (.so e) ρ S = (evE cal false e ρ S).bind fun x S => (asInt x S).bind fun i S => .ok (some i) S := by simp only [evEo]; rfl
@[simp] theorem t_val (e : E) : evT cal (.val e) ρ S = (evE cal true e ρ S).bind fun x S => ofO (truP S x) S := by simp only [evT]; rfl
@[simp] theorem t_and (a b : T) : evT cal (.and a b) ρ S = (evT cal a ρ S).bind fun k S => if k = true then evT cal b ρ S else .ok false S := by
  simp only [evT]
  refine bc fun k S => ?_
  cases k <;> rfl
@[simp] theorem t_or (a b : T) : evT cal (.or a b) ρ S = (evT cal a ρ S).bind fun k S => if k = true then .ok true S else evT cal b ρ S := by
  simp only [evT]
  refine bc fun k S => ?_
  cases k <;> rfl
@[simp] theorem t_not (a : T) : evT cal (.not a) ρ S = (evT cal a ρ S).bind fun k S => .ok (!k) S := by simp only [evT]; rfl
@[simp] theorem to_no : evTo cal .no ρ S = .ok true S := by simp only [evTo]; rfl
@[simp] theorem to_so (t : T) : evTo cal (.so t) ρ S = evT cal t ρ S := by simp only [evTo]
@[simp] theorem i_seq (e : E) : evI cal q (.seq e) ρ S = (evE cal q e ρ S).bind fun x S => ofO (itemsOf S x) S := by simp only [evI]; rfl
@[simp] theorem i_rng (e : E) : evI cal q (.rng e) ρ S = (evE cal false e ρ S).bind fun x S => (asInt x S).bind fun n S => if rngOk n then .ok (rangeL n, .no) S else .stuck := by
  simp only [evI]
  refine bc fun k S => bc fun k S => ?_
  split <;> rfl
theorem rngOk_of {n : Int} (h0 : 0 ≤ n) (h1 : n ≤ 1000000000) : rngOk n := by
  have e : (0 : Int) ≤ 2 ^ 62 := by decide
  have e2 : (1000000000 : Int) < 2 ^ 62 := by decide
  exact ⟨Int.le_trans (Int.neg_nonpos_of_nonneg e) h0, Int.lt_of_le_of_lt h1 e2⟩
/-! statements -/
def Out.go (o : Out) (f : Env → M Out) (S : Sto) : Res Out := match o with
  | .next ρ => f ρ S
  | .ret v => .ok (.ret v) S
@[simp] theorem go_next (f : Env → M Out) (S : Sto) : (Out.next ρ).go f S = f ρ S := rfl
@[simp] theorem go_ret (v : PV) (f : Env → M Out) (S : Sto) : (Out.ret v).go f S = .ok (.ret v) S := rfl
theorem go_then (o : Out) (f : Env → M Out) (S : Sto) : o.andThen f S = o.go f S := by cases o <;> rfl
@[simp] theorem ss_nil : exSs cal .nil ρ S = .ok (.next ρ) S := by simp only [exSs]; rfl
@[simp] theorem ss_cons (a : EV.S) (b : Ss) : exSs cal (.cons a b) ρ S = (exS cal a ρ S).bind fun o S => o.go (exSs cal b) S := by
  simp only [exSs, bind_ap]
  exact bc fun o S => go_then o _ S
@[simp] theorem s_set' (g : TG) (e : E) : exS cal (.set g e) ρ S = (evE cal false e ρ S).bind fun x S => (ofO (assG g x ρ) S).bind fun ρ S => .ok (.next ρ) S := by simp only [exS]; rfl
@[simp] theorem s_own' (i : Nat) (e : E) : exS cal (.own i e) ρ S = (evE cal false e ρ S).bind fun x S => (ofO (svOf true x) S).bind fun v S => .ok (.next (ρ.set i (some v))) S := by simp only [exS]; rfl
@[simp] theorem s_par' (i j : Nat) (oi oj : Bool) (a b : E) : exS cal (.par i j oi oj a b) ρ S = (evE cal false a ρ S).bind fun x S => (ofO (svOf oi x) S).bind fun x S => (evE cal false b ρ S).bind fun y S => (ofO (svOf oj y) S).bind fun y S => .ok (.next ((ρ.set i (some x)).set j (some y))) S := by simp only [exS]; rfl
@[simp] theorem s_app' (i : Nat) (e : E) : exS cal (.app i e) ρ S = (ofO (ownOf ρ i) S).bind fun xs S => (evE cal false e ρ S).bind fun y S => if xs.length < sizeLine then .ok (.next (ρ.set i (some (.own (xs ++ [y]))))) S else .stuck := by
  simp only [exS]
  refine bc fun k S => bc fun k S => ?_
  split <;> rfl
@[simp] theorem s_pop' (g : TG) (i : Nat) : exS cal (.pop g i) ρ S = (ofO (ownOf ρ i) S).bind fun xs S => (ofO xs.getLast? S).bind fun y S => (ofO (assG g y (ρ.set i (some (.own xs.dropLast)))) S).bind fun ρ S => .ok (.next ρ) S := by simp only [exS]; rfl
@[simp] theorem s_put' (a b e : E) : exS cal (.put a b e) ρ S = (evE cal false e ρ S).bind fun v S => (evE cal false a ρ S).bind fun x S => (evE cal false b ρ S).bind fun i S => (ofO (setL S x i v) S).bind fun S' _ => .ok (.next ρ) S' := by simp only [exS]; rfl
@[simp] theorem s_exp' (e : E) : exS cal (.exp e) ρ S = (evE cal false e ρ S).bind fun x S => .ok (.next ρ) S := by simp only [exS]; rfl
@[simp] theorem s_ret' (e : E) : exS cal (.ret e) ρ S = (evE cal false e ρ S).bind fun x S => .ok (.ret x) S := by simp only [exS]; rfl
@[simp] theorem s_cnd' (t : T) (a b : Ss) : exS cal (.cnd t a b) ρ S = (evT cal t ρ S).bind fun k S => if k = true then exSs cal a ρ S else exSs cal b ρ S := by
  simp only [exS]
  refine bc fun k S => ?_
  cases k <;> rfl
@[simp] theorem s_whl' (t : T) (b : Ss) : exS cal (.whl t b) ρ S = whileM (evT cal t) (exSs cal b) ρ S := by simp only [exS]
@[simp] theorem s_for' (g : TG) (it : IT) (b : Ss) : exS cal (.for g it b) ρ S = (evI cal false it ρ S).bind fun r S => forGo g (exSs cal b) r.2 r.1 ρ S := by simp only [exS]; rfl
theorem s_frz' (i : Nat) : exS cal (.frz i) ρ S = (match ρ[i]? with
  | some (some (.own xs)) => .ok (.next (ρ.set i (some (.val (.lst xs))))) S
  | _ => .ok (.next ρ) S) := by
  simp only [exS]
  cases ρ[i]? with
  | none => rfl
  | some o => cases o with
    | none => rfl
    | some sv => cases sv <;> rfl
@[simp] theorem s_aug_i (i : Nat) (o : BOp) (e : E) (x : Int) (h : ρ[i]? = some (some (.val (.int x)))) : exS cal (.aug i o e) ρ S = (evE cal true e ρ S).bind fun y S => (asInt y S).bind fun y S => (ofO (binOp S o (.int x) (.int y)) S).bind fun z S => .ok (.next (ρ.set i (some (.val z)))) S := by
  simp only [exS, h]
  exact bc fun y S => bc fun y S => rfl
@[simp] theorem s_aug_l (i : Nat) (o : BOp) (e : E) (xs : List PV) (h : ρ[i]? = some (some (.own xs))) : exS cal (.aug i o e) ρ S = (evE cal true e ρ S).bind fun y S => (ofO (lstOf S y) S).bind fun ys S => if o = .add ∧ xs.length + ys.length ≤ sizeLine then .ok (.next (ρ.set i (some (.own (xs ++ ys))))) S else .stuck := by
  simp only [exS, h]
  refine bc fun y S => ?_
  show (ofO (lstOf S y) >>= _) S = _
  refine bc fun ys S => ?_
  split <;> rfl
@[simp] theorem own_ap (i : Nat) (xs : List PV) (h : ρ[i]? = some (some (.own xs))) : ownOf ρ i = some xs := by
  unfold ownOf
  rw [h]
/-! loops -/
@[simp] theorem for_nil (g : TG) (b : Env → M Out) : forGo g b .no [] ρ S = .ok (.next ρ) S := by
  unfold forGo
  exact if_pos trivial
open Classical in
@[simp] theorem for_cons (g : TG) (b : Env → M Out) (x : PV) (r : List PV) : forGo g b .no (x :: r) ρ S = (ofO (assG g x ρ) S).bind fun ρ1 S => (b ρ1 S).bind fun o S => o.go (forGo g b .no r) S := by
  conv => lhs; unfold forGo
  show (if Gd.ok .no S then (ofO (assG g x ρ) >>= fun ρ1 => b ρ1 >>= fun o => o.andThen (forGo g b .no r)) else stuck) S = _
  rw [if_pos (show Gd.ok .no S from trivial)]
  exact bc fun k S => bc fun o S => go_then _ _ _
@[simp] theorem lc_nil (g : TG) (t : Env → M Bool) (e : Env → M PV) (acc : List PV) : lcGo g t e .no ρ [] acc S = .ok acc S := by
  unfold lcGo
  exact if_pos trivial
open Classical in
@[simp] theorem lc_cons (g : TG) (t : Env → M Bool) (e : Env → M PV) (x : PV) (r acc : List PV) : lcGo g t e .no ρ (x :: r) acc S = (ofO (assG g x ρ) S).bind fun ρ1 S => ((t ρ1 S).nx).bind fun k S =>
    if k = true then ((e ρ1 S).nx).bind fun y S => lcGo g t e .no ρ r (acc ++ [y]) S else lcGo g t e .no ρ r acc S := by
  conv => lhs; unfold lcGo
  show (if Gd.ok .no S then (ofO (assG g x ρ) >>= fun ρ1 => noX (t ρ1) >>= fun b => if b = true then (noX (e ρ1) >>= fun y => lcGo g t e .no ρ r (acc ++ [y])) else lcGo g t e .no ρ r acc) else stuck) S = _
  rw [if_pos (show Gd.ok .no S from trivial)]
  refine bc fun k S => ?_
  rw [← noX_ap]
  refine bc fun b S => ?_
  cases b with
  | true =>
    rw [if_pos rfl, if_pos rfl, ← noX_ap]
    exact bc fun y S => rfl
  | false => rfl
end
section
variable {t : Env → M Bool} {b : Env → M Out} {ρ : Env} {S S' : Sto} {o : Out}
theorem whileN_succ (n : Nat) : whileN t b (n + 1) ρ S = (t ρ S).bind fun k S => if k = true then (b ρ S).bind fun o S => o.go (whileN t b n) S else .ok (.next ρ) S := by
  conv => lhs; unfold whileN
  refine bc fun k S => ?_
  cases k with
  | true => exact bc fun o S => go_then o _ S
  | false => rfl
theorem whileN_up : ∀ {n : Nat} {ρ : Env} {S : Sto}, whileN t b n ρ S = .ok o S' → whileN t b (n + 1) ρ S = .ok o S'
  | 0, ρ, S, h => nomatch h
  | n + 1, ρ, S, h => by
    rw [whileN_succ] at h ⊢
    cases ht : t ρ S with
    | ok k S1 =>
      rw [ht] at h
      simp only [r_ok] at h ⊢
      cases k with
      | false => exact h
      | true =>
        rw [if_pos rfl] at h ⊢
        cases hb : b ρ S1 with
        | ok o1 S2 =>
          rw [hb] at h
          simp only [r_ok] at h ⊢
          cases o1 with
          | next ρ2 => exact whileN_up h
          | ret v => exact h
        | _ => rw [hb] at h; cases h
    | _ => rw [ht] at h; cases h
theorem whileN_le {n m : Nat} (hm : n ≤ m) (h : whileN t b n ρ S = .ok o S') : whileN t b m ρ S = .ok o S' := by
  induction hm with
  | refl => exact h
  | step _ ih => exact whileN_up ih
/-- a loop that comes to an end -/
theorem while_ok {n : Nat} (h : whileN t b n ρ S = .ok o S') : whileM t b ρ S = .ok o S' := by
  unfold whileM
  have hx : ∃ n o S', whileN t b n ρ S = .ok o S' := ⟨n, o, S', h⟩
  rw [dif_pos hx]
  obtain ⟨o2, S2, h2⟩ := Classical.choose_spec hx
  have a := whileN_le (Nat.le_max_left n (Classical.choose hx)) h
  have c := whileN_le (Nat.le_max_right n (Classical.choose hx)) h2
  rw [h2]
  rw [a] at c
  exact c.symm
end
/-- a def, one level down -/
theorem sem_def {fns : List Fn} {f : Fn} {k i : Nat} {xs : List PV} {S : Sto} (h : fns[i]? = some f) (hl : xs.length = f.np) : sem fns (k + 1) i xs S = (exSs (sem fns k) f.body (envOf f xs) S).bind fun o S => match o with
  | .ret v => .ok v S
  | .next _ => .ok .non S := by
  simp only [sem, h, if_pos hl, bind_ap]
  refine bc fun o S => ?_
  cases o <;> rfl
/-! operations -/
section
variable {S : Sto}
@[simp] theorem c_lt (i j : Int) : cmpOp S .lt (.int i) (.int j) = some (decide (i < j)) := rfl
@[simp] theorem c_le (i j : Int) : cmpOp S .le (.int i) (.int j) = some (decide (i ≤ j)) := rfl
@[simp] theorem c_gt (i j : Int) : cmpOp S .gt (.int i) (.int j) = some (decide (j < i)) := rfl
@[simp] theorem c_ge (i j : Int) : cmpOp S .ge (.int i) (.int j) = some (decide (j ≤ i)) := rfl
theorem c_les (i j : Str) : cmpOp S .le (.str i) (.str j) = some (!decide (j.cps.toList < i.cps.toList)) := rfl
theorem c_lts (i j : Str) : cmpOp S .lt (.str i) (.str j) = some (decide (i.cps.toList < j.cps.toList)) := rfl
@[simp] theorem c_is (x : PV) : cmpOp S .is x .non = some (isNon x) := by cases x <;> rfl
@[simp] theorem c_isn (x : PV) : cmpOp S .isn x .non = some (!isNon x) := by cases x <;> rfl
@[simp] theorem c_isb (x y : Bool) : cmpOp S .is (.bl x) (.bl y) = some (decide (x = y)) := rfl
@[simp] theorem c_isnb (x y : Bool) : cmpOp S .isn (.bl x) (.bl y) = some (!decide (x = y)) := rfl
@[simp] theorem c_eqs (x y : Str) : cmpOp S .eq (.str x) (.str y) = some (decide (x = y)) := rfl
@[simp] theorem c_nes (x y : Str) : cmpOp S .ne (.str x) (.str y) = some (!decide (x = y)) := rfl
@[simp] theorem eqP_int (x y : Int) : eqP (.int x) (.int y) = some (decide (x = y)) := by
  have e : ((PyData.int x).eqv (.int y)) = decide (x = y) := by simp only [PyData.eqv]; rfl
  have h : ∀ x : Int, shD (.int x) = true := fun x => rfl
  unfold eqP
  simp only [toD, h, and_self, if_true, e]
@[simp] theorem c_eqi (x y : Int) : cmpOp S .eq (.int x) (.int y) = some (decide (x = y)) := eqP_int x y
@[simp] theorem c_nei (x y : Int) : cmpOp S .ne (.int x) (.int y) = some (!decide (x = y)) := by
  show (eqP (.int x) (.int y)).map (!·) = _
  rw [eqP_int]; rfl
@[simp] theorem inT_nil (x : Int) : inT (.int x) [] = some false := rfl
@[simp] theorem inT_cons (x y : Int) (r : List PV) : inT (.int x) (.int y :: r) = (inT (.int x) r).map fun b => decide (y = x) || b := by
  have e : flV (.int x) = some (.int x) := rfl
  have e2 : flVs (.int y :: r) = (flVs r).map (.int y :: ·) := rfl
  unfold inT
  rw [e, e2]
  cases flVs r with
  | none => rfl
  | some vs =>
    show some (L2.inV (.int x) (.int y :: vs)) = some (decide (y = x) || L2.inV (.int x) vs)
    rfl
@[simp] theorem c_in (x : Int) (ys : List PV) : cmpOp S .isin (.int x) (.tup ys) = inT (.int x) ys := rfl
@[simp] theorem c_nin (x : Int) (ys : List PV) : cmpOp S .nin (.int x) (.tup ys) = (inT (.int x) ys).map (!·) := rfl
@[simp] theorem isNon_non : isNon .non = true := rfl
@[simp] theorem isNon_bl (b : Bool) : isNon (.bl b) = false := rfl
@[simp] theorem isNon_int (b : Int) : isNon (.int b) = false := rfl
@[simp] theorem isNon_str (b : Str) : isNon (.str b) = false := rfl
@[simp] theorem isNon_tup (b : List PV) : isNon (.tup b) = false := rfl
@[simp] theorem isNon_lst (b : List PV) : isNon (.lst b) = false := rfl
@[simp] theorem b_add (i j : Int) : binOp S .add (.int i) (.int j) = some (.int (i + j)) := rfl
@[simp] theorem b_sub (i j : Int) : binOp S .sub (.int i) (.int j) = some (.int (i - j)) := rfl
@[simp] theorem b_mul (i j : Int) : binOp S .mul (.int i) (.int j) = if (i.natAbs < 2 ^ 64) ∨ (j.natAbs < 2 ^ 64) then some (.int (i * j)) else none := rfl
@[simp] theorem b_fdiv (i j : Int) : binOp S .fdiv (.int i) (.int j) = if 0 < j ∧ j < 1073741824 then some (.int (i / j)) else none := rfl
@[simp] theorem b_mod (i j : Int) : binOp S .mod (.int i) (.int j) = if 0 < j then some (.int (i % j)) else none := rfl
@[simp] theorem b_pow (i j : Int) : binOp S .pow (.int i) (.int j) = if 0 ≤ j ∧ j ≤ 1000000 ∧ i.natAbs < 2 ^ 64 then some (.int (i ^ j.toNat)) else none := rfl
@[simp] theorem b_addt (x y : List PV) : binOp S .add (.tup x) (.tup y) = if x.length + y.length ≤ sizeLine then some (.tup (x ++ y)) else none := rfl
@[simp] theorem b_addl (x y : List PV) : binOp S .add (.lst x) (.lst y) = if x.length + y.length ≤ sizeLine then some (.lst (x ++ y)) else none := rfl
@[simp] theorem ty_non : tyP S .non = some "NoneType" := rfl
@[simp] theorem ty_bl (b : Bool) : tyP S (.bl b) = some "bool" := rfl
@[simp] theorem ty_int (b : Int) : tyP S (.int b) = some "int" := rfl
@[simp] theorem ty_str (b : Str) : tyP S (.str b) = some "str" := rfl
@[simp] theorem ty_tup (b : List PV) : tyP S (.tup b) = some "tuple" := rfl
@[simp] theorem ty_lst (b : List PV) : tyP S (.lst b) = some "list" := rfl
@[simp] theorem tr_non : truP S .non = some false := rfl
@[simp] theorem tr_bl (b : Bool) : truP S (.bl b) = some b := rfl
@[simp] theorem tr_int (i : Int) : truP S (.int i) = some (i != 0) := rfl
@[simp] theorem tr_tup (i : List PV) : truP S (.tup i) = some (!i.isEmpty) := rfl
@[simp] theorem tr_lst (i : List PV) : truP S (.lst i) = some (!i.isEmpty) := rfl
@[simp] theorem l_str (y : Str) : bltOp S .len [.str y] = if y.length ≤ sizeLine then some (.int y.length) else none := rfl
@[simp] theorem l_tup (y : List PV) : bltOp S .len [.tup y] = some (.int y.length) := rfl
@[simp] theorem l_lst (y : List PV) : bltOp S .len [.lst y] = some (.int y.length) := rfl
@[simp] theorem l_abs (i : Int) : bltOp S .abs [.int i] = some (.int (if i < 0 then -i else i)) := rfl
@[simp] theorem l_int (i : Int) : bltOp S .int [.int i] = some (.int i) := rfl
@[simp] theorem l_ord (y : Str) : bltOp S .ord [.str y] = if y.length = 1 then some (.int (y.cps.getD 0 0 : Nat)) else none := rfl
@[simp] theorem l_tuple (y : List PV) : bltOp S .tuple [.lst y] = some (.tup y) := rfl
@[simp] theorem l_tuplet (y : List PV) : bltOp S .tuple [.tup y] = some (.tup y) := rfl
@[simp] theorem l_list (y : List PV) : bltOp S .list [.lst y] = some (.lst y) := rfl
@[simp] theorem l_listt (y : List PV) : bltOp S .list [.tup y] = some (.lst y) := rfl
@[simp] theorem l_all (y : List PV) : bltOp S .all [.lst y] = (blsOf y).map fun bs => .bl (bs.all id) := rfl
@[simp] theorem l_any (y : List PV) : bltOp S .any [.lst y] = (blsOf y).map fun bs => .bl (bs.any id) := rfl
@[simp] theorem lo_lst (xs : List PV) : lstOf S (.lst xs) = some xs := rfl
@[simp] theorem x_tup (xs : List PV) (k : Int) : idxP S (.tup xs) (.int k) = L2.atI xs k := rfl
@[simp] theorem x_lst (xs : List PV) (k : Int) : idxP S (.lst xs) (.int k) = L2.atI xs k := rfl
@[simp] theorem x_slt (xs : List PV) (l h : Option Int) : sliP S (.tup xs) l h = some (.tup (cutP xs l h)) := rfl
@[simp] theorem it_tup (xs : List PV) : itemsOf S (.tup xs) = some (xs, .no) := rfl
@[simp] theorem it_lst (xs : List PV) : itemsOf S (.lst xs) = some (xs, .no) := rfl
@[simp] theorem it_str (x : Str) : itemsOf S (.str x) = some (chars x, .no) := rfl
@[simp] theorem as_nm (i : Nat) (v : PV) (ρ : Env) : assG (.nm i) v ρ = some (ρ.set i (some (.val v))) := rfl
@[simp] theorem as_two (i j : Nat) (x y : PV) (ρ : Env) : assG (.two i j) (.tup [x, y]) ρ = some ((ρ.set i (some (.val x))).set j (some (.val y))) := rfl
@[simp] theorem sv_f (v : PV) : svOf false v = some (.val v) := rfl
@[simp] theorem sv_t (v : List PV) : svOf true (.lst v) = some (.own v) := rfl
end
end EV

/-! EvX: the cup of rolls. -/
namespace EV
open PySem
/-- the store holds the cup first -/
def cupS (a b : Int) (r : Sto) : Sto := .lst [.int a, .int b] :: r
def rollB : Ss := (.cons (.cnd (.val (.cmp .gt (.idx (.var 0) (.cst (.int 0))) (.cst (.int 0)))) (.cons (.set (.nm 2) (.bin .mod (.blt .int (.cons (.idx (.var 0) (.cst (.int 0))) .nil)) (.var 1))) (.cons (.put (.var 0) (.cst (.int 0)) (.bin .fdiv (.idx (.var 0) (.cst (.int 0))) (.var 1))) (.cons (.ret (.var 2)) .nil))) .nil) (.cons (.put (.var 0) (.cst (.int 1)) (.bin .mod (.blt .int (.cons (.bin .add (.bin .mul (.idx (.var 0) (.cst (.int 1))) (.cst (.int 31091))) (.cst (.int 8053))) .nil)) (.cst (.int 2147483423)))) (.cons (.set (.nm 3) (.bin .mod (.blt .int (.cons (.bin .mul (.idx (.var 0) (.cst (.int 1))) (.bin .add (.idx (.var 0) (.cst (.int 1))) (.cst (.int 257)))) .nil)) (.cst (.int 2147483587)))) (.cons (.ret (.bin .mod (.blt .int (.cons (.bin .fdiv (.var 3) (.cst (.int 853))) .nil)) (.var 1))) .nil))))
def someB (roll : Nat) : Ss := (.cons (.ret (.idx (.var 1) (.call roll (.cons (.var 0) (.cons (.blt .len (.cons (.var 1) .nil)) .nil))))) .nil)
theorem at2_0 (a b : PV) : L2.atI [a, b] 0 = some a := rfl
theorem at2_1 (a b : PV) : L2.atI [a, b] 1 = some b := rfl
theorem ix2_0 : L2.ixN 2 0 = some 0 := rfl
theorem ix2_1 : L2.ixN 2 1 = some 1 := rfl
theorem roll_ok {fns : List Fn} {i k : Nat} (h : fns[i]? = some ⟨2, 4, rollB⟩) (many a b : Int) (r : Sto) (h1 : 0 < many) (h2 : many < 1073741824) :
    ∃ x a' b', sem fns (k + 1) i [.ref 0, .int many] (cupS a b r) = .ok (.int x) (cupS a' b' r) ∧ 0 ≤ x ∧ x < many := by
  by_cases ha : 0 < a
  · refine ⟨a % many, a / many, b, ?_, Int.emod_nonneg _ (by omega), Int.emod_lt_of_pos _ h1⟩
    rw [sem_def h rfl]
    simp [rollB, envOf, cupS, idxP, seqOf, at2_0, cmpOp, truP, ha, bltOp, binOp, h1, h2, assG, setL, ix2_0]
  · have m1 : 0 ≤ (b * 31091 + 8053) % 2147483423 := Int.emod_nonneg _ (by decide)
    have m2 : (b * 31091 + 8053) % 2147483423 < 2147483423 := Int.emod_lt_of_pos _ (by decide)
    generalize hc : (b * 31091 + 8053) % 2147483423 = c at m1 m2
    refine ⟨((c * (c + 257)) % 2147483587 / 853) % many, a, c, ?_, Int.emod_nonneg _ (by omega), Int.emod_lt_of_pos _ h1⟩
    have g1 : c.natAbs < 2 ^ 64 := by omega
    rw [sem_def h rfl]
    simp [rollB, envOf, cupS, idxP, seqOf, at2_0, at2_1, cmpOp, truP, ha, bltOp, binOp, h1, h2, assG, setL, ix2_0, ix2_1, hc, g1]
theorem atI_nat {xs : List PV} {x : Int} (h1 : 0 ≤ x) (h2 : x < xs.length) : ∃ y, L2.atI xs x = some y ∧ y ∈ xs := by
  obtain ⟨n, rfl⟩ := Int.eq_ofNat_of_zero_le h1
  have hn : n < xs.length := by omega
  refine ⟨xs[n], ?_, List.getElem_mem hn⟩
  unfold L2.atI L2.ixN
  simp [hn]
theorem some_ok {fns : List Fn} {i j k : Nat} (h : fns[i]? = some ⟨2, 4, rollB⟩) (g : fns[j]? = some ⟨2, 2, someB i⟩) (t : PV) (xs : List PV) (ht : t = .lst xs ∨ t = .tup xs) (a b : Int) (r : Sto) (h1 : xs ≠ []) (h2 : xs.length < 1000000) :
    ∃ x a' b', sem fns (k + 2) j [.ref 0, t] (cupS a b r) = .ok x (cupS a' b' r) ∧ x ∈ xs := by
  have h3 : 0 < xs.length := List.length_pos_iff.mpr h1
  obtain ⟨x, a', b', e, e1, e2⟩ := roll_ok (k := k) h xs.length a b r (by omega) (by omega)
  obtain ⟨y, hy, my⟩ := atI_nat e1 e2
  refine ⟨y, a', b', ?_, my⟩
  rw [sem_def g rfl]
  rcases ht with rfl | rfl <;> simp [someB, envOf, bltOp, seqOf, e, idxP, hy]
def cupB : Ss := (.cons (.set (.nm 1) (.blt .abs (.cons (.idx (.bin .add (.blt .list (.cons (.var 0) .nil)) (.lst (.cons (.cst (.int 0)) .nil))) (.cst (.int 0))) .nil))) (.cons (.ret (.newl (.cons (.ite (.val (.cmp .ge (.var 1) (.bin .pow (.cst (.int 10)) (.cst (.int 18))))) (.bin .fdiv (.var 1) (.cst (.int 89))) (.cst (.int 0))) (.cons (.bin .add (.bin .mod (.blt .int (.cons (.bin .add (.bin .mul (.var 1) (.cst (.int 311))) (.cst (.int 3109))) .nil)) (.cst (.int 2077503101))) (.cst (.int 191))) .nil)))) .nil))
theorem cup_ok {fns : List Fn} {i k : Nat} (h : fns[i]? = some ⟨1, 2, cupB⟩) (ns : List Int) (hl : ns.length < sizeLine) : ∃ a b, sem fns (k + 1) i [.scr ns] [] = .ok (.ref 0) (cupS a b []) := by
  have hx : ∃ x : Int, L2.atI (ns.map PV.int ++ [.int 0]) 0 = some (.int x) := by
    cases ns with
    | nil => exact ⟨0, rfl⟩
    | cons n r => exact ⟨n, by
      unfold L2.atI L2.ixN
      have e : (0 : Int) < (r.length : Int) + 1 + 1 := by omega
      simp [e]⟩
  obtain ⟨x, hx⟩ := hx
  have h1 : ns.length + 1 ≤ sizeLine := hl
  refine ⟨if 10 ^ 18 ≤ (if x < 0 then -x else x) then (if x < 0 then -x else x) / 89 else 0, ((if x < 0 then -x else x) * 311 + 3109) % 2077503101 + 191, ?_⟩
  rw [sem_def h rfl]
  have s2 : 2 ≤ sizeLine := by decide
  have s1 : 1 ≤ sizeLine := by decide
  simp [cupB, envOf, bltOp, binOp, lstOf, h1, idxP, seqOf, hx, assG, cmpOp, truP, cupS, s1, s2]
  generalize (if x < 0 then -x else x) = c
  by_cases hc : 1000000000000000000 ≤ c <;> simp [hc, s2]
/-! loops over what does not change the store -/
theorem lc_pure {g : TG} {t : Env → M Bool} {e : Env → M PV} {ρ : Env} {S : Sto} (p : PV → Bool) (f : PV → PV) : ∀ (xs acc : List PV), (∀ x ∈ xs, ∃ ρ1, assG g x ρ = some ρ1 ∧ t ρ1 S = .ok (p x) S ∧ (p x = true → e ρ1 S = .ok (f x) S)) →
    lcGo g t e .no ρ xs acc S = .ok (acc ++ (xs.filter p).map f) S
  | [], acc, _ => by simp
  | x :: r, acc, h => by
    obtain ⟨ρ1, h1, h2, h3⟩ := h x (List.mem_cons_self ..)
    have ih := fun acc => lc_pure p f r acc fun y hy => h y (List.mem_cons_of_mem _ hy)
    cases hp : p x with
    | true => simp [h1, h2, hp, h3 hp, ih]
    | false => simp [h1, h2, hp, ih]
theorem lc_map {g : TG} {cal : Nat → List PV → M PV} {e : Env → M PV} {ρ : Env} {S : Sto} (f : PV → PV) (xs : List PV) (h : ∀ x ∈ xs, ∃ ρ1, assG g x ρ = some ρ1 ∧ e ρ1 S = .ok (f x) S) :
    lcGo g (evTo cal .no) e .no ρ xs [] S = .ok (xs.map f) S := by
  have e1 := lc_pure (g := g) (t := evTo cal .no) (e := e) (ρ := ρ) (S := S) (fun _ => true) f xs [] fun x hx => by
    obtain ⟨ρ1, h1, h2⟩ := h x hx
    exact ⟨ρ1, h1, to_no, fun _ => h2⟩
  rw [e1, List.filter_eq_self.mpr (fun _ _ => rfl)]
  rfl
theorem for_fold {g : TG} {b : Env → M Out} {S : Sto} {α : Type} (st : α → Env) (step : α → PV → α) : ∀ (xs : List PV) (a : α), (∀ a x, x ∈ xs → ∃ ρ1, assG g x (st a) = some ρ1 ∧ b ρ1 S = .ok (.next (st (step a x))) S) →
    forGo g b .no xs (st a) S = .ok (.next (st (xs.foldl step a))) S
  | [], a, _ => by simp
  | x :: r, a, h => by
    obtain ⟨ρ1, h1, h2⟩ := h a x (List.mem_cons_self ..)
    have ih := for_fold st step r (step a x) fun a y hy => h a y (List.mem_cons_of_mem _ hy)
    simp [h1, h2, ih]
theorem blsOf_map {α : Type} (f : α → Bool) : ∀ l : List α, blsOf (l.map fun c => .bl (f c)) = some (l.map f)
  | [] => rfl
  | x :: r => by simp [blsOf, blsOf_map f r]
theorem any_id {α : Type} (f : α → Bool) (l : List α) : (l.map f).any id = l.any f := by simp [List.any_map]
theorem all_id {α : Type} (f : α → Bool) (l : List α) : (l.map f).all id = l.all f := by simp [List.all_map]
end EV

/-! K69: the datum of rw_documenthall_k69_whole_things_there_and, off the text (printed by gen.py). -/
namespace K69
open PySem PySem.Spec PyProof.Rows L2 EV
abbrev Rw : PySem.W.OpenLaw := PySem.Challenge.rw_documenthall_k69_whole_things_there_and
def top (i : Nat) : Stmt := PySem.Challenge.pw_documenthall_k69_whole_things_there_and.main.body.getD i (.Pass ⟨0, 0, 0, 0⟩)
def con : List (Str × PV) := [("HIGHEST", (.int 1000000000000)), ("LONGEST", (.int 40)), ("MOST", (.int 1000000)), ("ITEMS", (.int 64)), ("NESTED", (.int 40)), ("SIGNS", (.str " !\"#$?&?()*+,-./0123456789:;<=>?@ABCDEFGHIJKLMNOPQRSTUVWXYZ[\\]^_`abcdefghijklmnopqrstuvwxyz{|}~")), ("NONE", (.tup [(.int 37), (.int 39)]))]
def fs : List FnI := [
  ⟨["value", "low", "high"], ["value", "low", "high"], top 8, []⟩,
  ⟨["value", "low", "high"], ["value", "low", "high"], top 9, []⟩,
  ⟨["sign"], ["sign"], top 10, []⟩,
  ⟨["value", "sign"], ["value"], top 11, []⟩,
  ⟨["value", "line", "one", "deep", "inner"], ["value"], top 18, []⟩,
  ⟨["number", "found"], ["number"], top 19, []⟩,
  ⟨["thing", "digits", "sign", "found", "one"], ["thing"], top 20, []⟩,
  ⟨["octets", "at", "size", "digits", "number", "digit"], ["octets", "at"], top 21, []⟩,
  ⟨["octets", "at", "size", "row", "one"], ["octets", "at"], top 22, []⟩,
  ⟨["octets", "at", "deep", "size", "found", "place", "turn", "pair"], ["octets", "at", "deep"], top 23, []⟩,
  ⟨["octets", "at", "deep", "sort"], ["octets", "at", "deep"], top 24, []⟩,
  ⟨["value", "one"], ["value"], top 25, []⟩,
  ⟨["value"], ["value"], top 26, []⟩,
  ⟨["value"], ["value"], top 27, []⟩,
  ⟨["value"], ["value"], top 28, []⟩,
  ⟨["octets", "at"], ["octets", "at"], top 29, []⟩,
  ⟨["script", "cell"], ["script"], top 31, [(115, 11)]⟩,
  ⟨["cup", "many", "found", "deep"], ["cup", "many"], top 32, []⟩,
  ⟨["cup", "things"], ["cup", "things"], top 33, []⟩,
  ⟨["cup", "deep", "way", "turn"], ["cup", "deep"], top 34, []⟩,
  ⟨["number", "many", "found", "turn"], ["number", "many"], top 35, []⟩,
  ⟨["thing", "many", "power", "sign", "found", "one"], ["thing"], top 36, []⟩,
  ⟨["one", "other"], ["one", "other"], top 37, []⟩,
  ⟨[], [], top 38, []⟩,
  ⟨["octets", "at", "deep", "sort", "many", "row", "found", "place", "turn", "pair", "one", "number", "octet"], ["octets", "at", "deep"], top 39, []⟩,
  ⟨["cup", "octets", "at", "way", "new"], ["cup", "octets"], top 40, []⟩,
  ⟨["script", "cup", "turn", "thing", "due", "ahead", "place", "some", "at", "rows", "deep", "plain", "more", "odds", "odd"], ["script"], top 41, []⟩]
/-- is_whole -/
def b_is_whole : Ss := (.cons (.ret (.and (.isi (.var 0) ["int"]) (.and (.not (.isi (.var 0) ["bool"])) (.chn .le .le (.var 1) (.var 0) (.var 2))))) .nil)
/-- is_tuple_of -/
def b_is_tuple_of : Ss := (.cons (.ret (.and (.isi (.var 0) ["tuple"]) (.chn .le .le (.var 1) (.blt .len (.cons (.var 0) .nil)) (.var 2)))) .nil)
/-- is_text_sign -/
def b_is_text_sign : Ss := (.cons (.ret (.and (.chn .le .le (.cst (.str " ")) (.var 0) (.cst (.str "~"))) (.cmp .nin (.blt .ord (.cons (.var 0) .nil)) (.tup (.cons (.cst (.int 37)) (.cons (.cst (.int 39)) .nil)))))) .nil)
/-- fits_plain -/
def b_fits_plain : Ss := (.cons (.cnd (.or (.val (.cmp .is (.var 0) (.cst .non))) (.val (.isi (.var 0) ["bool"]))) (.cons (.ret (.cst (.bl true))) .nil) .nil) (.cons (.cnd (.val (.isi (.var 0) ["str"])) (.cons (.ret (.and (.cmp .le (.blt .len (.cons (.var 0) .nil)) (.cst (.int 40))) (.blt .all (.cons (.lc (.nm 1) (.seq (.var 0)) .no (.call 2 (.cons (.var 1) .nil)) [1]) .nil)))) .nil) .nil) (.cons (.ret (.call 0 (.cons (.var 0) (.cons (.neg (.cst (.int 1000000000000))) (.cons (.cst (.int 1000000000000)) .nil))))) .nil)))
/-- fits_thing -/
def b_fits_thing : Ss := (.cons (.own 1 (.lst (.cons (.tup (.cons (.var 0) (.cons (.cst (.int 1)) .nil))) .nil))) (.cons (.whl (.val (.cmp .ne (.var 1) (.lst .nil))) (.cons (.pop (.two 2 3) 1) (.cons (.cnd (.not (.val (.call 3 (.cons (.var 2) .nil)))) (.cons (.cnd (.or (.val (.cmp .gt (.var 3) (.cst (.int 40)))) (.not (.val (.call 1 (.cons (.var 2) (.cons (.cst (.int 0)) (.cons (.cst (.int 64)) .nil))))))) (.cons (.ret (.cst (.bl false))) .nil) .nil) (.cons (.aug 1 .add (.lc (.nm 4) (.seq (.var 2)) .no (.tup (.cons (.var 4) (.cons (.bin .add (.var 3) (.cst (.int 1))) .nil))) [4])) .nil)) .nil) .nil))) (.cons (.ret (.cst (.bl true))) .nil)))
/-- digits_of -/
def b_digits_of : Ss := (.cons (.own 1 (.lst .nil)) (.cons (.whl (.val (.cmp .gt (.var 0) (.cst (.int 0)))) (.cons (.app 1 (.bin .mod (.var 0) (.cst (.int 256)))) (.cons (.set (.nm 0) (.bin .fdiv (.var 0) (.cst (.int 256)))) .nil))) (.cons (.ret (.rev (.var 1))) .nil)))
/-- octets_by -/
def b_octets_by : Ss := (.cons (.cnd (.val (.cmp .is (.var 0) (.cst .non))) (.cons (.ret (.lst (.cons (.cst (.int 1)) .nil))) .nil) .nil) (.cons (.cnd (.val (.isi (.var 0) ["bool"])) (.cons (.ret (.lst (.cons (.ite (.val (.var 0)) (.cst (.int 3)) (.cst (.int 2))) .nil))) .nil) .nil) (.cons (.cnd (.val (.isi (.var 0) ["int"])) (.cons (.set (.nm 1) (.call 5 (.cons (.blt .abs (.cons (.var 0) .nil)) .nil))) (.cons (.ret (.bin .add (.lst (.cons (.ite (.val (.cmp .ge (.var 0) (.cst (.int 0)))) (.cst (.int 4)) (.cst (.int 5))) (.cons (.blt .len (.cons (.var 1) .nil)) .nil))) (.var 1))) .nil)) .nil) (.cons (.cnd (.val (.isi (.var 0) ["str"])) (.cons (.ret (.bin .add (.lst (.cons (.cst (.int 6)) (.cons (.blt .len (.cons (.var 0) .nil)) .nil))) (.lc (.nm 2) (.seq (.var 0)) .no (.blt .ord (.cons (.var 2) .nil)) [2]))) .nil) .nil) (.cons (.own 3 (.lst (.cons (.cst (.int 7)) (.cons (.blt .len (.cons (.var 0) .nil)) .nil)))) (.cons (.for (.nm 4) (.seq (.var 0)) (.cons (.aug 3 .add (.call 6 (.cons (.var 4) .nil))) .nil)) (.cons (.frz 3) (.cons (.ret (.var 3)) .nil))))))))
/-- read_number -/
def b_read_number : Ss := (.cons (.set (.nm 2) (.idx (.var 0) (.bin .add (.var 1) (.cst (.int 1))))) (.cons (.par 3 4 false false (.sli (.var 0) (.so (.bin .add (.var 1) (.cst (.int 2)))) (.so (.bin .add (.bin .add (.var 1) (.cst (.int 2))) (.var 2)))) (.cst (.int 0))) (.cons (.cnd (.or (.val (.cmp .lt (.blt .len (.cons (.var 3) .nil)) (.var 2))) (.or (.and (.val (.cmp .gt (.var 2) (.cst (.int 0)))) (.val (.cmp .eq (.idx (.var 3) (.cst (.int 0))) (.cst (.int 0))))) (.and (.val (.cmp .eq (.var 2) (.cst (.int 0)))) (.val (.cmp .eq (.idx (.var 0) (.var 1)) (.cst (.int 5))))))) (.cons (.ret (.cst .non)) .nil) .nil) (.cons (.for (.nm 5) (.seq (.var 3)) (.cons (.set (.nm 4) (.bin .add (.bin .mul (.var 4) (.cst (.int 256))) (.var 5))) .nil)) (.cons (.set (.nm 4) (.ite (.val (.cmp .eq (.idx (.var 0) (.var 1)) (.cst (.int 4)))) (.var 4) (.neg (.var 4)))) (.cons (.ret (.ite (.val (.call 3 (.cons (.var 4) .nil))) (.tup (.cons (.var 4) (.cons (.bin .add (.bin .add (.var 1) (.cst (.int 2))) (.var 2)) .nil))) (.cst .non))) .nil))))))
/-- read_string -/
def b_read_string : Ss := (.cons (.set (.nm 2) (.idx (.var 0) (.bin .add (.var 1) (.cst (.int 1))))) (.cons (.set (.nm 3) (.sli (.var 0) (.so (.bin .add (.var 1) (.cst (.int 2)))) (.so (.bin .add (.bin .add (.var 1) (.cst (.int 2))) (.var 2))))) (.cons (.cnd (.or (.val (.cmp .lt (.blt .len (.cons (.var 3) .nil)) (.var 2))) (.or (.val (.cmp .gt (.var 2) (.cst (.int 40)))) (.val (.blt .any (.cons (.lc (.nm 4) (.seq (.var 3)) .no (.or (.not (.chn .le .le (.cst (.int 32)) (.var 4) (.cst (.int 126)))) (.cmp .isin (.var 4) (.cst (.tup [(.int 37), (.int 39)])))) [4]) .nil))))) (.cons (.ret (.cst .non)) .nil) .nil) (.cons (.ret (.tup (.cons (.join (.cst (.str "")) (.lc (.nm 4) (.seq (.var 3)) .no (.idx (.cst (.str " !\"#$?&?()*+,-./0123456789:;<=>?@ABCDEFGHIJKLMNOPQRSTUVWXYZ[\\]^_`abcdefghijklmnopqrstuvwxyz{|}~")) (.bin .sub (.var 4) (.cst (.int 32)))) [4])) (.cons (.bin .add (.bin .add (.var 1) (.cst (.int 2))) (.var 2)) .nil)))) .nil))))
/-- read_items -/
def b_read_items : Ss := (.cons (.set (.nm 3) (.idx (.var 0) (.bin .add (.var 1) (.cst (.int 1))))) (.cons (.cnd (.or (.val (.cmp .gt (.var 3) (.cst (.int 64)))) (.val (.cmp .gt (.var 2) (.cst (.int 40))))) (.cons (.ret (.cst .non)) .nil) .nil) (.cons (.par 4 5 true false (.lst .nil) (.bin .add (.var 1) (.cst (.int 2)))) (.cons (.for (.nm 6) (.rng (.var 3)) (.cons (.set (.nm 7) (.call 10 (.cons (.var 0) (.cons (.var 5) (.cons (.bin .add (.var 2) (.cst (.int 1))) .nil))))) (.cons (.cnd (.val (.cmp .is (.var 7) (.cst .non))) (.cons (.ret (.cst .non)) .nil) .nil) (.cons (.app 4 (.idx (.var 7) (.cst (.int 0)))) (.cons (.set (.nm 5) (.idx (.var 7) (.cst (.int 1)))) .nil))))) (.cons (.ret (.tup (.cons (.blt .tuple (.cons (.var 4) .nil)) (.cons (.var 5) .nil)))) .nil)))))
/-- read_at -/
def b_read_at : Ss := (.cons (.set (.nm 3) (.ite (.val (.cmp .lt (.var 1) (.blt .len (.cons (.var 0) .nil)))) (.idx (.var 0) (.var 1)) (.cst (.int 0)))) (.cons (.cnd (.val (.chn .le .le (.cst (.int 1)) (.var 3) (.cst (.int 3)))) (.cons (.ret (.tup (.cons (.idx (.tup (.cons (.cst .non) (.cons (.cst (.bl false)) (.cons (.cst (.bl true)) .nil)))) (.bin .sub (.var 3) (.cst (.int 1)))) (.cons (.bin .add (.var 1) (.cst (.int 1))) .nil)))) .nil) .nil) (.cons (.cnd (.or (.not (.val (.chn .le .le (.cst (.int 4)) (.var 3) (.cst (.int 7))))) (.val (.cmp .ge (.bin .add (.var 1) (.cst (.int 1))) (.blt .len (.cons (.var 0) .nil))))) (.cons (.ret (.cst .non)) .nil) .nil) (.cons (.cnd (.val (.cmp .lt (.var 3) (.cst (.int 6)))) (.cons (.ret (.call 7 (.cons (.var 0) (.cons (.var 1) .nil)))) .nil) .nil) (.cons (.ret (.ite (.val (.cmp .eq (.var 3) (.cst (.int 6)))) (.call 8 (.cons (.var 0) (.cons (.var 1) .nil))) (.call 9 (.cons (.var 0) (.cons (.var 1) (.cons (.var 2) .nil)))))) .nil)))))
/-- need_octets -/
def b_need_octets : Ss := (.cons (.cnd (.or (.not (.val (.call 1 (.cons (.var 0) (.cons (.cst (.int 0)) (.cons (.cst (.int 1000000)) .nil)))))) (.not (.val (.blt .all (.cons (.lc (.nm 1) (.seq (.var 0)) .no (.call 0 (.cons (.var 1) (.cons (.cst (.int 0)) (.cons (.cst (.int 255)) .nil)))) [1]) .nil))))) (.cons .bad .nil) .nil) .nil)
/-- need_thing -/
def b_need_thing : Ss := (.cons (.cnd (.not (.val (.call 4 (.cons (.var 0) .nil)))) (.cons .bad .nil) .nil) .nil)
/-- is_thing -/
def b_is_thing : Ss := (.cons (.ret (.call 4 (.cons (.var 0) .nil))) .nil)
/-- thing_octets -/
def b_thing_octets : Ss := (.cons (.exp (.call 12 (.cons (.var 0) .nil))) (.cons (.ret (.blt .tuple (.cons (.call 6 (.cons (.var 0) .nil)) .nil))) .nil))
/-- read_thing -/
def b_read_thing : Ss := (.cons (.exp (.call 11 (.cons (.var 0) .nil))) (.cons (.cnd (.not (.val (.call 0 (.cons (.var 1) (.cons (.cst (.int 0)) (.cons (.blt .len (.cons (.var 0) .nil)) .nil)))))) (.cons .bad .nil) .nil) (.cons (.ret (.call 10 (.cons (.var 0) (.cons (.var 1) (.cons (.cst (.int 1)) .nil))))) .nil)))
/-- _law_cup -/
def b_law_cup : Ss := (.cons (.set (.nm 1) (.blt .abs (.cons (.idx (.bin .add (.blt .list (.cons (.var 0) .nil)) (.lst (.cons (.cst (.int 0)) .nil))) (.cst (.int 0))) .nil))) (.cons (.ret (.newl (.cons (.ite (.val (.cmp .ge (.var 1) (.bin .pow (.cst (.int 10)) (.cst (.int 18))))) (.bin .fdiv (.var 1) (.cst (.int 89))) (.cst (.int 0))) (.cons (.bin .add (.bin .mod (.blt .int (.cons (.bin .add (.bin .mul (.var 1) (.cst (.int 311))) (.cst (.int 3109))) .nil)) (.cst (.int 2077503101))) (.cst (.int 191))) .nil)))) .nil))
/-- _law_roll -/
def b_law_roll : Ss := (.cons (.cnd (.val (.cmp .gt (.idx (.var 0) (.cst (.int 0))) (.cst (.int 0)))) (.cons (.set (.nm 2) (.bin .mod (.blt .int (.cons (.idx (.var 0) (.cst (.int 0))) .nil)) (.var 1))) (.cons (.put (.var 0) (.cst (.int 0)) (.bin .fdiv (.idx (.var 0) (.cst (.int 0))) (.var 1))) (.cons (.ret (.var 2)) .nil))) .nil) (.cons (.put (.var 0) (.cst (.int 1)) (.bin .mod (.blt .int (.cons (.bin .add (.bin .mul (.idx (.var 0) (.cst (.int 1))) (.cst (.int 31091))) (.cst (.int 8053))) .nil)) (.cst (.int 2147483423)))) (.cons (.set (.nm 3) (.bin .mod (.blt .int (.cons (.bin .mul (.idx (.var 0) (.cst (.int 1))) (.bin .add (.idx (.var 0) (.cst (.int 1))) (.cst (.int 257)))) .nil)) (.cst (.int 2147483587)))) (.cons (.ret (.bin .mod (.blt .int (.cons (.bin .fdiv (.var 3) (.cst (.int 853))) .nil)) (.var 1))) .nil))))
/-- _law_some -/
def b_law_some : Ss := (.cons (.ret (.idx (.var 1) (.call 17 (.cons (.var 0) (.cons (.blt .len (.cons (.var 1) .nil)) .nil))))) .nil)
/-- _law_thing -/
def b_law_thing : Ss := (.cons (.set (.nm 2) (.call 17 (.cons (.var 0) (.cons (.ite (.val (.cmp .gt (.var 1) (.cst (.int 0)))) (.cst (.int 9)) (.cst (.int 6))) .nil)))) (.cons (.cnd (.val (.cmp .lt (.var 2) (.cst (.int 3)))) (.cons (.ret (.call 18 (.cons (.var 0) (.cons (.lst (.cons (.cst (.int 0)) (.cons (.cst (.int 1)) (.cons (.cst (.int 255)) (.cons (.cst (.int 256)) (.cons (.cst (.int 65535)) (.cons (.cst (.int 65536)) (.cons (.neg (.cst (.int 1))) (.cons (.neg (.cst (.int 256))) (.cons (.bin .pow (.cst (.int 10)) (.cst (.int 12))) (.cons (.neg (.bin .pow (.cst (.int 10)) (.cst (.int 12)))) (.cons (.call 17 (.cons (.var 0) (.cons (.bin .pow (.cst (.int 10)) (.cst (.int 6))) .nil))) .nil)))))))))))) .nil)))) .nil) .nil) (.cons (.cnd (.val (.cmp .lt (.var 2) (.cst (.int 5)))) (.cons (.ret (.call 18 (.cons (.var 0) (.cons (.lst (.cons (.cst (.str "")) (.cons (.cst (.str "a")) (.cons (.cst (.str "doc")) (.cons (.cst (.str "B 7 ~")) (.cons (.bin .mul (.cst (.str "x")) (.cst (.int 40))) (.cons (.cst (.str "\"!")) .nil))))))) .nil)))) .nil) .nil) (.cons (.cnd (.val (.cmp .eq (.var 2) (.cst (.int 5)))) (.cons (.ret (.call 18 (.cons (.var 0) (.cons (.lst (.cons (.cst .non) (.cons (.cst (.bl true)) (.cons (.cst (.bl false)) .nil)))) .nil)))) .nil) .nil) (.cons (.ret (.blt .tuple (.cons (.lc (.nm 3) (.rng (.call 17 (.cons (.var 0) (.cons (.cst (.int 5)) .nil)))) .no (.call 19 (.cons (.var 0) (.cons (.bin .sub (.var 1) (.cst (.int 1))) .nil))) [3]) .nil))) .nil)))))
/-- _law_digits -/
def b_law_digits : Ss := (.cons (.set (.nm 2) (.lst .nil)) (.cons (.for (.nm 3) (.rng (.var 1)) (.cons (.par 2 0 false false (.bin .add (.lst (.cons (.bin .mod (.blt .int (.cons (.var 0) .nil)) (.cst (.int 256))) .nil)) (.var 2)) (.bin .fdiv (.var 0) (.cst (.int 256)))) .nil)) (.cons (.ret (.var 2)) .nil)))
/-- _law_octets -/
def b_law_octets : Ss := (.cons (.cnd (.or (.val (.cmp .is (.var 0) (.cst .non))) (.val (.isi (.var 0) ["bool"]))) (.cons (.ret (.lst (.cons (.ite (.val (.cmp .is (.var 0) (.cst .non))) (.cst (.int 1)) (.ite (.val (.var 0)) (.cst (.int 3)) (.cst (.int 2)))) .nil))) .nil) .nil) (.cons (.cnd (.val (.isi (.var 0) ["int"])) (.cons (.set (.nm 1) (.blt .len (.cons (.lc (.nm 2) (.seq (.tup (.cons (.cst (.int 1)) (.cons (.cst (.int 256)) (.cons (.cst (.int 65536)) (.cons (.cst (.int 16777216)) (.cons (.cst (.int 4294967296)) (.cons (.cst (.int 1099511627776)) .nil)))))))) (.so (.val (.cmp .ge (.blt .abs (.cons (.var 0) .nil)) (.var 2)))) (.cst (.int 1)) [2]) .nil))) (.cons (.ret (.bin .add (.lst (.cons (.ite (.val (.cmp .ge (.var 0) (.cst (.int 0)))) (.cst (.int 4)) (.cst (.int 5))) (.cons (.var 1) .nil))) (.call 20 (.cons (.blt .abs (.cons (.var 0) .nil)) (.cons (.var 1) .nil))))) .nil)) .nil) (.cons (.cnd (.val (.isi (.var 0) ["str"])) (.cons (.ret (.bin .add (.lst (.cons (.cst (.int 6)) (.cons (.blt .len (.cons (.var 0) .nil)) .nil))) (.lc (.nm 3) (.seq (.var 0)) .no (.blt .ord (.cons (.var 3) .nil)) [3]))) .nil) .nil) (.cons (.set (.nm 4) (.lst (.cons (.cst (.int 7)) (.cons (.blt .len (.cons (.var 0) .nil)) .nil)))) (.cons (.for (.nm 5) (.seq (.var 0)) (.cons (.set (.nm 4) (.bin .add (.var 4) (.call 21 (.cons (.var 5) .nil)))) .nil)) (.cons (.ret (.var 4)) .nil))))))
/-- _law_same -/
def b_law_same : Ss := (.cons (.ret (.cmp .eq (.blt .repr (.cons (.var 0) .nil)) (.blt .repr (.cons (.var 1) .nil)))) .nil)
/-- _law_signs -/
def b_law_signs : Ss := (.cons (.ret (.cst (.str " !\"#$?&?()*+,-./0123456789:;<=>?@ABCDEFGHIJKLMNOPQRSTUVWXYZ[\\]^_`abcdefghijklmnopqrstuvwxyz{|}~"))) .nil)
/-- _law_read -/
def b_law_read : Ss := (.cons (.set (.nm 3) (.ite (.val (.cmp .lt (.var 1) (.blt .len (.cons (.var 0) .nil)))) (.idx (.var 0) (.var 1)) (.cst (.int 0)))) (.cons (.cnd (.val (.cmp .isin (.var 3) (.tup (.cons (.cst (.int 1)) (.cons (.cst (.int 2)) (.cons (.cst (.int 3)) .nil)))))) (.cons (.ret (.tup (.cons (.ite (.val (.cmp .eq (.var 3) (.cst (.int 1)))) (.cst .non) (.cmp .eq (.var 3) (.cst (.int 3)))) (.cons (.bin .add (.var 1) (.cst (.int 1))) .nil)))) .nil) .nil) (.cons (.cnd (.or (.val (.cmp .nin (.var 3) (.tup (.cons (.cst (.int 4)) (.cons (.cst (.int 5)) (.cons (.cst (.int 6)) (.cons (.cst (.int 7)) .nil))))))) (.val (.cmp .ge (.bin .add (.var 1) (.cst (.int 1))) (.blt .len (.cons (.var 0) .nil))))) (.cons (.ret (.cst .non)) .nil) .nil) (.cons (.par 4 5 false false (.idx (.var 0) (.bin .add (.var 1) (.cst (.int 1)))) (.sli (.var 0) (.so (.bin .add (.var 1) (.cst (.int 2)))) (.so (.bin .add (.bin .add (.var 1) (.cst (.int 2))) (.idx (.var 0) (.bin .add (.var 1) (.cst (.int 1)))))))) (.cons (.cnd (.val (.cmp .eq (.var 3) (.cst (.int 7)))) (.cons (.par 6 7 false false (.tup .nil) (.bin .add (.var 1) (.cst (.int 2)))) (.cons (.for (.nm 8) (.rng (.ite (.and (.val (.cmp .le (.var 4) (.cst (.int 64)))) (.val (.cmp .le (.var 2) (.cst (.int 40))))) (.var 4) (.cst (.int 0)))) (.cons (.set (.nm 9) (.ite (.val (.cmp .isn (.var 6) (.cst .non))) (.call 24 (.cons (.var 0) (.cons (.var 7) (.cons (.bin .add (.var 2) (.cst (.int 1))) .nil)))) (.cst .non))) (.cons (.set (.two 6 7) (.ite (.and (.val (.cmp .isn (.var 9) (.cst .non))) (.val (.cmp .isn (.var 6) (.cst .non)))) (.tup (.cons (.bin .add (.var 6) (.tup (.cons (.idx (.var 9) (.cst (.int 0))) .nil))) (.cons (.idx (.var 9) (.cst (.int 1))) .nil))) (.tup (.cons (.cst .non) (.cons (.var 7) .nil))))) .nil))) (.cons (.ret (.ite (.and (.val (.cmp .isn (.var 6) (.cst .non))) (.and (.val (.cmp .le (.var 4) (.cst (.int 64)))) (.val (.cmp .le (.var 2) (.cst (.int 40)))))) (.tup (.cons (.var 6) (.cons (.var 7) .nil))) (.cst .non))) .nil))) .nil) (.cons (.cnd (.val (.cmp .lt (.blt .len (.cons (.var 5) .nil)) (.var 4))) (.cons (.ret (.cst .non)) .nil) .nil) (.cons (.cnd (.val (.cmp .eq (.var 3) (.cst (.int 6)))) (.cons (.cnd (.or (.val (.cmp .gt (.var 4) (.cst (.int 40)))) (.val (.cmp .ne (.lc (.nm 10) (.seq (.var 5)) (.so (.or (.not (.val (.chn .le .le (.cst (.int 32)) (.var 10) (.cst (.int 126))))) (.val (.cmp .isin (.var 10) (.tup (.cons (.cst (.int 37)) (.cons (.cst (.int 39)) .nil))))))) (.cst (.int 1)) [10]) (.lst .nil)))) (.cons (.ret (.cst .non)) .nil) .nil) (.cons (.ret (.tup (.cons (.join (.cst (.str "")) (.lc (.nm 10) (.seq (.var 5)) .no (.idx (.call 23 .nil) (.bin .sub (.var 10) (.cst (.int 32)))) [10])) (.cons (.bin .add (.bin .add (.var 1) (.cst (.int 2))) (.var 4)) .nil)))) .nil)) .nil) (.cons (.set (.nm 11) (.cst (.int 0))) (.cons (.for (.nm 12) (.seq (.var 5)) (.cons (.set (.nm 11) (.bin .add (.bin .mul (.var 11) (.cst (.int 256))) (.var 12))) .nil)) (.cons (.cnd (.or (.and (.val (.cmp .gt (.var 4) (.cst (.int 0)))) (.val (.cmp .eq (.idx (.var 5) (.cst (.int 0))) (.cst (.int 0))))) (.or (.and (.val (.cmp .eq (.var 4) (.cst (.int 0)))) (.val (.cmp .eq (.var 3) (.cst (.int 5))))) (.val (.cmp .gt (.var 11) (.bin .pow (.cst (.int 10)) (.cst (.int 12))))))) (.cons (.ret (.cst .non)) .nil) .nil) (.cons (.ret (.tup (.cons (.ite (.val (.cmp .eq (.var 3) (.cst (.int 4)))) (.var 11) (.neg (.var 11))) (.cons (.bin .add (.bin .add (.var 1) (.cst (.int 2))) (.var 4)) .nil)))) .nil)))))))))))
/-- _law_bent -/
def b_law_bent : Ss := (.cons (.par 2 3 false false (.call 17 (.cons (.var 0) (.cons (.bin .add (.blt .len (.cons (.var 1) .nil)) (.cst (.int 1))) .nil))) (.call 17 (.cons (.var 0) (.cons (.cst (.int 4)) .nil)))) (.cons (.set (.nm 4) (.call 18 (.cons (.var 0) (.cons (.lst (.cons (.cst (.int 0)) (.cons (.cst (.int 1)) (.cons (.cst (.int 2)) (.cons (.cst (.int 3)) (.cons (.cst (.int 4)) (.cons (.cst (.int 5)) (.cons (.cst (.int 6)) (.cons (.cst (.int 7)) (.cons (.cst (.int 8)) (.cons (.cst (.int 37)) (.cons (.cst (.int 39)) (.cons (.cst (.int 65)) (.cons (.cst (.int 127)) (.cons (.cst (.int 255)) (.cons (.call 17 (.cons (.var 0) (.cons (.cst (.int 256)) .nil))) .nil)))))))))))))))) .nil)))) (.cons (.ret (.ite (.val (.cmp .eq (.var 3) (.cst (.int 0)))) (.bin .add (.sli (.var 1) .no (.so (.var 2))) (.sli (.var 1) (.so (.bin .add (.var 2) (.cst (.int 1)))) .no)) (.bin .add (.bin .add (.sli (.var 1) .no (.so (.var 2))) (.tup (.cons (.var 4) .nil))) (.sli (.var 1) (.so (.bin .add (.var 2) (.ite (.val (.cmp .lt (.var 3) (.cst (.int 3)))) (.cst (.int 1)) (.cst (.int 0))))) .no)))) .nil)))
/-- law -/
def b_law : Ss := (.cons (.set (.nm 1) (.call 16 (.cons (.var 0) .nil))) (.cons (.for (.nm 2) (.rng (.cst (.int 6))) (.cons (.set (.nm 3) (.call 19 (.cons (.var 1) (.cons (.cst (.int 3)) .nil)))) (.cons (.set (.nm 4) (.blt .tuple (.cons (.call 21 (.cons (.var 3) .nil)) .nil))) (.cons (.cnd (.or (.val (.cmp .isn (.call 13 (.cons (.var 3) .nil)) (.cst (.bl true)))) (.or (.val (.cmp .ne (.call 14 (.cons (.var 3) .nil)) (.var 4))) (.not (.val (.call 22 (.cons (.call 15 (.cons (.var 4) (.cons (.cst (.int 0)) .nil))) (.cons (.tup (.cons (.var 3) (.cons (.blt .len (.cons (.var 4) .nil)) .nil))) .nil))))))) (.cons (.ret (.cst (.bl false))) .nil) .nil) (.cons (.set (.nm 5) (.blt .tuple (.cons (.lc (.nm 6) (.rng (.call 17 (.cons (.var 1) (.cons (.cst (.int 4)) .nil)))) .no (.call 17 (.cons (.var 1) (.cons (.cst (.int 256)) .nil))) [6]) .nil))) (.cons (.cnd (.not (.val (.call 22 (.cons (.call 15 (.cons (.bin .add (.bin .add (.var 5) (.var 4)) (.var 5)) (.cons (.blt .len (.cons (.var 5) .nil)) .nil))) (.cons (.tup (.cons (.var 3) (.cons (.bin .add (.blt .len (.cons (.var 5) .nil)) (.blt .len (.cons (.var 4) .nil))) .nil))) .nil))))) (.cons (.ret (.cst (.bl false))) .nil) .nil) (.cons (.for (.nm 7) (.seq (.tup (.cons (.call 25 (.cons (.var 1) (.cons (.var 4) .nil))) (.cons (.blt .tuple (.cons (.lc (.nm 6) (.rng (.call 17 (.cons (.var 1) (.cons (.cst (.int 7)) .nil)))) .no (.call 18 (.cons (.var 1) (.cons (.lst (.cons (.cst (.int 1)) (.cons (.cst (.int 2)) (.cons (.cst (.int 4)) (.cons (.cst (.int 5)) (.cons (.cst (.int 6)) (.cons (.cst (.int 7)) (.cons (.cst (.int 0)) (.cons (.cst (.int 65)) .nil))))))))) .nil))) [6]) .nil)) .nil)))) (.cons (.set (.nm 8) (.call 18 (.cons (.var 1) (.cons (.lst (.cons (.cst (.int 0)) (.cons (.cst (.int 0)) (.cons (.call 17 (.cons (.var 1) (.cons (.bin .add (.blt .len (.cons (.var 7) .nil)) (.cst (.int 1))) .nil))) .nil)))) .nil)))) (.cons (.cnd (.not (.val (.call 22 (.cons (.call 15 (.cons (.var 7) (.cons (.var 8) .nil))) (.cons (.call 24 (.cons (.var 7) (.cons (.var 8) (.cons (.cst (.int 1)) .nil)))) .nil))))) (.cons (.ret (.cst (.bl false))) .nil) .nil) .nil))) .nil))))))) (.cons (.set (.nm 9) (.lst (.cons (.tup (.cons (.cst (.str "?x")) (.cons (.tup (.cons (.cst (.int 6)) (.cons (.cst (.int 2)) (.cons (.cst (.int 63)) (.cons (.cst (.int 120)) .nil))))) .nil))) (.cons (.tup (.cons (.cst .non) (.cons (.tup (.cons (.cst (.int 1)) .nil)) .nil))) (.cons (.tup (.cons (.cst (.bl false)) (.cons (.tup (.cons (.cst (.int 2)) .nil)) .nil))) (.cons (.tup (.cons (.cst (.int 0)) (.cons (.tup (.cons (.cst (.int 4)) (.cons (.cst (.int 0)) .nil))) .nil))) (.cons (.tup (.cons (.cst (.int 256)) (.cons (.tup (.cons (.cst (.int 4)) (.cons (.cst (.int 2)) (.cons (.cst (.int 1)) (.cons (.cst (.int 0)) .nil))))) .nil))) (.cons (.tup (.cons (.neg (.cst (.int 1))) (.cons (.tup (.cons (.cst (.int 5)) (.cons (.cst (.int 1)) (.cons (.cst (.int 1)) .nil)))) .nil))) (.cons (.tup (.cons (.cst (.str "ab")) (.cons (.tup (.cons (.cst (.int 6)) (.cons (.cst (.int 2)) (.cons (.cst (.int 97)) (.cons (.cst (.int 98)) .nil))))) .nil))) (.cons (.tup (.cons (.tup .nil) (.cons (.tup (.cons (.cst (.int 7)) (.cons (.cst (.int 0)) .nil))) .nil))) (.cons (.tup (.cons (.tup (.cons (.cst (.bl true)) (.cons (.tup .nil) .nil))) (.cons (.tup (.cons (.cst (.int 7)) (.cons (.cst (.int 2)) (.cons (.cst (.int 3)) (.cons (.cst (.int 7)) (.cons (.cst (.int 0)) .nil)))))) .nil))) .nil))))))))))) (.cons (.cnd (.val (.cmp .ne (.lc (.two 3 4) (.seq (.var 9)) (.so (.or (.val (.cmp .ne (.call 14 (.cons (.var 3) .nil)) (.var 4))) (.not (.val (.call 22 (.cons (.call 15 (.cons (.var 4) (.cons (.cst (.int 0)) .nil))) (.cons (.tup (.cons (.var 3) (.cons (.blt .len (.cons (.var 4) .nil)) .nil))) .nil))))))) (.cst (.int 1)) [3, 4]) (.lst .nil))) (.cons (.ret (.cst (.bl false))) .nil) .nil) (.cons (.set (.nm 10) (.tup .nil)) (.cons (.for (.nm 2) (.rng (.cst (.int 39))) (.cons (.set (.nm 10) (.tup (.cons (.var 10) .nil))) .nil)) (.cons (.set (.nm 11) (.cst (.int 1))) (.cons (.for (.nm 2) (.rng (.cst (.int 40))) (.cons (.set (.nm 11) (.tup (.cons (.var 11) .nil))) .nil)) (.cons (.for (.two 3 12) (.seq (.tup (.cons (.tup (.cons (.var 10) (.cons (.tup (.cons (.var 10) .nil)) .nil))) (.cons (.tup (.cons (.var 11) (.cons (.tup (.cons (.var 11) .nil)) .nil))) (.cons (.tup (.cons (.bin .mul (.tup (.cons (.cst (.int 0)) .nil)) (.cst (.int 64))) (.cons (.bin .mul (.tup (.cons (.cst (.int 0)) .nil)) (.cst (.int 65))) .nil))) (.cons (.tup (.cons (.bin .mul (.cst (.str "x")) (.cst (.int 40))) (.cons (.bin .mul (.cst (.str "x")) (.cst (.int 41))) .nil))) (.cons (.tup (.cons (.bin .pow (.cst (.int 10)) (.cst (.int 12))) (.cons (.bin .add (.bin .pow (.cst (.int 10)) (.cst (.int 12))) (.cst (.int 1))) .nil))) (.cons (.tup (.cons (.neg (.bin .pow (.cst (.int 10)) (.cst (.int 12)))) (.cons (.bin .sub (.neg (.bin .pow (.cst (.int 10)) (.cst (.int 12)))) (.cst (.int 1))) .nil))) (.cons (.tup (.cons (.cst (.str "~ ")) (.cons (.cst (.str "it's")) .nil))) .nil))))))))) (.cons (.cnd (.or (.val (.cmp .isn (.call 13 (.cons (.var 3) .nil)) (.cst (.bl true)))) (.or (.val (.cmp .isn (.call 13 (.cons (.var 12) .nil)) (.cst (.bl false)))) (.not (.val (.call 22 (.cons (.call 15 (.cons (.call 14 (.cons (.var 3) .nil)) (.cons (.cst (.int 0)) .nil))) (.cons (.tup (.cons (.var 3) (.cons (.blt .len (.cons (.call 21 (.cons (.var 3) .nil)) .nil)) .nil))) .nil))))))) (.cons (.ret (.cst (.bl false))) .nil) .nil) (.cons (.cnd (.val (.cmp .isn (.call 15 (.cons (.blt .tuple (.cons (.call 21 (.cons (.var 12) .nil)) .nil)) (.cons (.cst (.int 0)) .nil))) (.cst .non))) (.cons (.ret (.cst (.bl false))) .nil) .nil) .nil))) (.cons (.set (.nm 13) (.lst (.cons (.tup .nil) (.cons (.tup (.cons (.cst (.int 0)) .nil)) (.cons (.tup (.cons (.cst (.int 8)) (.cons (.cst (.int 0)) .nil))) (.cons (.tup (.cons (.cst (.int 4)) .nil)) (.cons (.tup (.cons (.cst (.int 4)) (.cons (.cst (.int 1)) .nil))) (.cons (.tup (.cons (.cst (.int 4)) (.cons (.cst (.int 1)) (.cons (.cst (.int 0)) .nil)))) (.cons (.tup (.cons (.cst (.int 4)) (.cons (.cst (.int 2)) (.cons (.cst (.int 0)) (.cons (.cst (.int 7)) .nil))))) (.cons (.tup (.cons (.cst (.int 5)) (.cons (.cst (.int 0)) .nil))) (.cons (.tup (.cons (.cst (.int 6)) (.cons (.cst (.int 1)) .nil))) (.cons (.tup (.cons (.cst (.int 6)) (.cons (.cst (.int 1)) (.cons (.cst (.int 10)) .nil)))) (.cons (.tup (.cons (.cst (.int 6)) (.cons (.cst (.int 1)) (.cons (.cst (.int 37)) .nil)))) (.cons (.tup (.cons (.cst (.int 7)) .nil)) (.cons (.tup (.cons (.cst (.int 7)) (.cons (.cst (.int 1)) .nil))) (.cons (.tup (.cons (.cst (.int 7)) (.cons (.cst (.int 2)) (.cons (.cst (.int 1)) .nil)))) .nil)))))))))))))))) (.cons (.ret (.and (.cmp .eq (.lc (.nm 14) (.seq (.var 13)) (.so (.val (.cmp .isn (.call 15 (.cons (.var 14) (.cons (.cst (.int 0)) .nil))) (.cst .non)))) (.var 14) [14]) (.lst .nil)) (.cmp .eq (.lc (.nm 14) (.seq (.tup (.cons (.lst .nil) (.cons (.lst (.cons (.cst (.int 1)) .nil)) (.cons (.tup (.cons (.cst (.int 1)) (.cons (.lst (.cons (.cst (.int 2)) .nil)) .nil))) (.cons (.cst (.str "\n")) (.cons (.cst (.str "\t")) (.cons (.tup (.cons (.cst (.str "a")) (.cons (.tup (.cons (.cst (.str "\n")) .nil)) .nil))) .nil)))))))) (.so (.val (.cmp .isn (.call 13 (.cons (.var 14) .nil)) (.cst (.bl false))))) (.var 14) [14]) (.lst .nil)))) .nil)))))))))))
def sems : List Fn := [⟨3, 3, b_is_whole⟩, ⟨3, 3, b_is_tuple_of⟩, ⟨1, 1, b_is_text_sign⟩, ⟨1, 2, b_fits_plain⟩, ⟨1, 5, b_fits_thing⟩, ⟨1, 2, b_digits_of⟩, ⟨1, 5, b_octets_by⟩, ⟨2, 6, b_read_number⟩, ⟨2, 5, b_read_string⟩, ⟨3, 8, b_read_items⟩, ⟨3, 4, b_read_at⟩, ⟨1, 2, b_need_octets⟩, ⟨1, 1, b_need_thing⟩, ⟨1, 1, b_is_thing⟩, ⟨1, 1, b_thing_octets⟩, ⟨2, 2, b_read_thing⟩, ⟨1, 2, b_law_cup⟩, ⟨2, 4, b_law_roll⟩, ⟨2, 2, b_law_some⟩, ⟨2, 4, b_law_thing⟩, ⟨2, 4, b_law_digits⟩, ⟨1, 6, b_law_octets⟩, ⟨2, 2, b_law_same⟩, ⟨0, 0, b_law_signs⟩, ⟨3, 13, b_law_read⟩, ⟨2, 5, b_law_bent⟩, ⟨1, 15, b_law⟩]
def frees : List Str := ["len", "abs", "int", "tuple", "list", "ord", "repr", "any", "all", "sum", "isinstance", "range", "bool", "str"]
def lw : Lw := ⟨fs, frees, con, sems⟩
theorem sc : lw.fs.all scB = true := by kernel_rfl
theorem cp : lw.fs.map (cFn lw.g) = lw.sems.map some := by kernel_rfl
theorem fr : (bltNames.all fun x => !lw.g.free x || lw.frees.contains x) = true := by kernel_rfl
theorem bd_8 : BindOk (top 8) ["value", "low", "high"] := fun _ _ _ _ _ _ us hl => match us, hl with | [_, _, _], _ => rfl
theorem bd_9 : BindOk (top 9) ["value", "low", "high"] := fun _ _ _ _ _ _ us hl => match us, hl with | [_, _, _], _ => rfl
theorem bd_10 : BindOk (top 10) ["sign"] := fun _ _ _ _ _ _ us hl => match us, hl with | [_], _ => rfl
theorem bd_11 : BindOk (top 11) ["value"] := fun _ _ _ _ _ _ us hl => match us, hl with | [_], _ => rfl
theorem bd_18 : BindOk (top 18) ["value"] := fun _ _ _ _ _ _ us hl => match us, hl with | [_], _ => rfl
theorem bd_19 : BindOk (top 19) ["number"] := fun _ _ _ _ _ _ us hl => match us, hl with | [_], _ => rfl
theorem bd_20 : BindOk (top 20) ["thing"] := fun _ _ _ _ _ _ us hl => match us, hl with | [_], _ => rfl
theorem bd_21 : BindOk (top 21) ["octets", "at"] := fun _ _ _ _ _ _ us hl => match us, hl with | [_, _], _ => rfl
theorem bd_22 : BindOk (top 22) ["octets", "at"] := fun _ _ _ _ _ _ us hl => match us, hl with | [_, _], _ => rfl
theorem bd_23 : BindOk (top 23) ["octets", "at", "deep"] := fun _ _ _ _ _ _ us hl => match us, hl with | [_, _, _], _ => rfl
theorem bd_24 : BindOk (top 24) ["octets", "at", "deep"] := fun _ _ _ _ _ _ us hl => match us, hl with | [_, _, _], _ => rfl
theorem bd_25 : BindOk (top 25) ["value"] := fun _ _ _ _ _ _ us hl => match us, hl with | [_], _ => rfl
theorem bd_26 : BindOk (top 26) ["value"] := fun _ _ _ _ _ _ us hl => match us, hl with | [_], _ => rfl
theorem bd_27 : BindOk (top 27) ["value"] := fun _ _ _ _ _ _ us hl => match us, hl with | [_], _ => rfl
theorem bd_28 : BindOk (top 28) ["value"] := fun _ _ _ _ _ _ us hl => match us, hl with | [_], _ => rfl
theorem bd_29 : BindOk (top 29) ["octets", "at"] := fun _ _ _ _ _ _ us hl => match us, hl with | [_, _], _ => rfl
theorem bd_31 : BindOk (top 31) ["script"] := fun _ _ _ _ _ _ us hl => match us, hl with | [_], _ => rfl
theorem bd_32 : BindOk (top 32) ["cup", "many"] := fun _ _ _ _ _ _ us hl => match us, hl with | [_, _], _ => rfl
theorem bd_33 : BindOk (top 33) ["cup", "things"] := fun _ _ _ _ _ _ us hl => match us, hl with | [_, _], _ => rfl
theorem bd_34 : BindOk (top 34) ["cup", "deep"] := fun _ _ _ _ _ _ us hl => match us, hl with | [_, _], _ => rfl
theorem bd_35 : BindOk (top 35) ["number", "many"] := fun _ _ _ _ _ _ us hl => match us, hl with | [_, _], _ => rfl
theorem bd_36 : BindOk (top 36) ["thing"] := fun _ _ _ _ _ _ us hl => match us, hl with | [_], _ => rfl
theorem bd_37 : BindOk (top 37) ["one", "other"] := fun _ _ _ _ _ _ us hl => match us, hl with | [_, _], _ => rfl
theorem bd_38 : BindOk (top 38) [] := fun _ _ _ _ _ _ us hl => match us, hl with | [], _ => rfl
theorem bd_39 : BindOk (top 39) ["octets", "at", "deep"] := fun _ _ _ _ _ _ us hl => match us, hl with | [_, _, _], _ => rfl
theorem bd_40 : BindOk (top 40) ["cup", "octets"] := fun _ _ _ _ _ _ us hl => match us, hl with | [_, _], _ => rfl
theorem bd_41 : BindOk (top 41) ["script"] := fun _ _ _ _ _ _ us hl => match us, hl with | [_], _ => rfl
theorem bd : ∀ fi ∈ lw.fs, BindOk fi.st fi.ps := by
  intro fi h
  simp only [lw, fs, List.mem_cons, List.not_mem_nil, or_false] at h
  rcases h with rfl | rfl | rfl | rfl | rfl | rfl | rfl | rfl | rfl | rfl | rfl | rfl | rfl | rfl | rfl | rfl | rfl | rfl | rfl | rfl | rfl | rfl | rfl | rfl | rfl | rfl | rfl
  · exact bd_8
  · exact bd_9
  · exact bd_10
  · exact bd_11
  · exact bd_18
  · exact bd_19
  · exact bd_20
  · exact bd_21
  · exact bd_22
  · exact bd_23
  · exact bd_24
  · exact bd_25
  · exact bd_26
  · exact bd_27
  · exact bd_28
  · exact bd_29
  · exact bd_31
  · exact bd_32
  · exact bd_33
  · exact bd_34
  · exact bd_35
  · exact bd_36
  · exact bd_37
  · exact bd_38
  · exact bd_39
  · exact bd_40
  · exact bd_41
def names0 : List PySem.Str := ["HallError", "InvalidOctets", "InvalidNumber", "InvalidThing", "HIGHEST", "LONGEST", "is_whole", "is_tuple_of", "is_text_sign", "fits_plain", "MOST", "ITEMS", "NESTED", "SIGNS", "NONE", "fits_thing", "digits_of", "octets_by"]
def names1 : List PySem.Str := ["read_number", "read_string", "read_items", "read_at", "need_octets", "need_thing", "is_thing", "thing_octets", "read_thing", "_law_cup", "_law_roll", "_law_some", "_law_thing", "_law_digits", "_law_octets", "_law_same", "_law_signs", "_law_read"]
def names2 : List PySem.Str := ["_law_bent"]
abbrev R : PySem.W.OpenRow := PySem.W.OpenLaw.row Rw
abbrev hk : PySem.W.Hook := lw.hook 4
def ob (s : PySem.W.SharedT) : He.AlD := lw.obsG 4 (HandSHeadRun.getT s)
theorem ob_eq (s : PySem.W.SharedT) : ob s = hk.obs s.abs := Lw.obs_eq (HandSHeadRun.getT_eq s)
theorem run (w : World) : HandSHeadRun.RunEq R (PySem.W.view R.prog [41]) hk ob 4000 (names0 ++ names1 ++ names2) w := by
  intro os
  kernel_rfl
end K69

/-! P69: what the defs of k69 compute. -/
namespace K69
open PySem EV
noncomputable abbrev cl := sem lw.sems
variable {k : Nat} {S : Sto}
theorem run_ {f : Fn} {i : Nat} {xs : List PV} (h : lw.sems[i]? = some f) (hl : xs.length = f.np) : cl (k + 1) i xs S = (exSs (cl k) f.body (envOf f xs) S).bind fun o S => match o with
  | .ret v => .ok v S
  | .next _ => .ok .non S := sem_def h hl
theorem whole (i lo hi : Int) : cl (k + 1) 0 [.int i, .int lo, .int hi] S = .ok (.bl (decide (lo ≤ i) && decide (i ≤ hi))) S := by
  rw [run_ (f := ⟨3, 3, b_is_whole⟩) rfl rfl]
  by_cases h : lo ≤ i <;> simp [b_is_whole, envOf, isSub, h]
theorem whole_no (v : PV) (lo hi : Int) (hv : ∃ t, tyP S v = some t ∧ t ≠ "int" ∧ t ≠ "bool") : cl (k + 1) 0 [v, .int lo, .int hi] S = .ok (.bl false) S := by
  obtain ⟨t, h1, h2, h3⟩ := hv
  rw [run_ (f := ⟨3, 3, b_is_whole⟩) rfl rfl]
  simp [b_is_whole, envOf, isSub, h1, h2, h3]
theorem tupof (xs : List PV) (lo hi : Int) : cl (k + 1) 1 [.tup xs, .int lo, .int hi] S = .ok (.bl (decide (lo ≤ xs.length) && decide ((xs.length : Int) ≤ hi))) S := by
  rw [run_ (f := ⟨3, 3, b_is_tuple_of⟩) rfl rfl]
  by_cases h : lo ≤ xs.length <;> simp [b_is_tuple_of, envOf, isSub, h]
theorem tupof_no (v : PV) (lo hi : Int) (hv : ∃ t, tyP S v = some t ∧ t ≠ "tuple") : cl (k + 1) 1 [v, .int lo, .int hi] S = .ok (.bl false) S := by
  obtain ⟨t, h1, h2⟩ := hv
  rw [run_ (f := ⟨3, 3, b_is_tuple_of⟩) rfl rfl]
  simp [b_is_tuple_of, envOf, h1, isSub, h2]
/-- a sign of a thing's text -/
def okC (c : Nat) : Bool := decide (32 ≤ c) && decide (c ≤ 126) && (!decide (c = 37) && !decide (c = 39))
theorem lt1 (a b : Nat) : ([a] < [b]) ↔ a < b := by
  constructor
  · intro h
    cases h with
    | rel h => exact h
    | cons h => cases h
  · exact fun h => .rel h
theorem le_sp (c : Nat) : cmpOp S .le (.str " ") (.str ⟨#[c]⟩) = some (decide (32 ≤ c)) := by
  have e : (" " : Str).cps.toList = [32] := by decide +kernel
  have e2 : (⟨#[c]⟩ : Str).cps.toList = [c] := rfl
  rw [c_les, e, e2]
  by_cases h : c < 32
  · have h2 : ¬ 32 ≤ c := by omega
    simp only [lt1, h, h2]; rfl
  · have h2 : 32 ≤ c := by omega
    simp only [lt1, h, h2]; rfl
theorem le_ti (c : Nat) : cmpOp S .le (.str ⟨#[c]⟩) (.str "~") = some (decide (c ≤ 126)) := by
  have e : ("~" : Str).cps.toList = [126] := by decide +kernel
  have e2 : (⟨#[c]⟩ : Str).cps.toList = [c] := rfl
  rw [c_les, e, e2]
  by_cases h : 126 < c
  · have h2 : ¬ c ≤ 126 := by omega
    simp only [lt1, h, h2]; rfl
  · have h2 : c ≤ 126 := by omega
    simp only [lt1, h, h2]; rfl
theorem ord1 (c : Nat) : bltOp S .ord [.str ⟨#[c]⟩] = some (.int c) := rfl
theorem sign (c : Nat) : cl (k + 1) 2 [.str ⟨#[c]⟩] S = .ok (.bl (okC c)) S := by
  rw [run_ (f := ⟨1, 1, b_is_text_sign⟩) rfl rfl]
  have s2 : 2 ≤ sizeLine := by decide
  by_cases h1 : 32 ≤ c
  · by_cases h2 : c ≤ 126
    · have a1 : decide ((37 : Int) = (c : Int)) = decide (c = 37) := by simp; omega
      have a2 : decide ((39 : Int) = (c : Int)) = decide (c = 39) := by simp; omega
      simp [b_is_text_sign, envOf, le_sp, le_ti, ord1, okC, h1, h2, s2, a1, a2, -l_ord]
    · simp [b_is_text_sign, envOf, le_sp, le_ti, okC, h1, h2]
  · simp [b_is_text_sign, envOf, le_sp, okC, h1]
def fitP : PV → Bool
  | .non => true
  | .bl _ => true
  | .str x => decide (x.length ≤ 40) && x.cps.toList.all okC
  | .int i => decide (-1000000000000 ≤ i) && decide (i ≤ 1000000000000)
  | _ => false
/-- a value as data, with short texts -/
def plainV : PV → Prop
  | .ref _ => False
  | .scr _ => False
  | .str x => x.length ≤ sizeLine
  | _ => True
theorem plain (v : PV) (hv : plainV v) : cl (k + 2) 3 [v] S = .ok (.bl (fitP v)) S := by
  rw [run_ (f := ⟨1, 2, b_fits_plain⟩) rfl rfl]
  cases v with
  | non => simp [b_fits_plain, envOf, fitP]
  | bl b => simp [b_fits_plain, envOf, fitP, isSub]
  | int i => simp [b_fits_plain, envOf, fitP, isSub, whole]
  | tup xs => simp [b_fits_plain, envOf, fitP, isSub, whole_no]
  | lst xs => simp [b_fits_plain, envOf, fitP, isSub, whole_no]
  | ref n => exact hv.elim
  | scr n => exact hv.elim
  | str x =>
    have hx : x.length ≤ sizeLine := hv
    by_cases hl : x.length ≤ 40
    · have hl2 : (x.length : Int) ≤ 40 := by omega
      have lc : lcGo (.nm 1) (evTo (cl (k + 1)) .no) (evE (cl (k + 1)) false (.call 2 (.cons (.var 1) .nil))) .no (wipe [some (.val (.str x)), none] [1]) (chars x) [] S = .ok ((chars x).map fun c => match c with
          | .str z => .bl (okC (z.cps.getD 0 0))
          | _ => .non) S := lc_map _ _ fun c hc => by
        obtain ⟨n, hn, rfl⟩ := List.mem_map.mp hc
        exact ⟨_, rfl, by simp [wipe, sign]⟩
      have hc : (chars x).length ≤ sizeLine := by unfold chars; rw [List.length_map]; exact hx
      have hb : ((chars x).map fun c => match c with
          | .str z => PV.bl (okC (z.cps.getD 0 0))
          | _ => .non) = x.cps.toList.map fun c => .bl (okC c) := by
        unfold chars
        rw [List.map_map]
        rfl
      rw [hb] at lc
      simp [b_fits_plain, envOf, fitP, isSub, hx, hl, hl2, lc, hc, blsOf_map, all_id, -Array.toList_map, -List.all_map]
    · have hl2 : ¬ (x.length : Int) ≤ 40 := by omega
      simp [b_fits_plain, envOf, fitP, isSub, hx, hl, hl2]
mutual
def fit : PV → Nat → Bool
  | .tup xs, d => decide (d ≤ 40) && (decide (xs.length ≤ 64) && fits xs (d + 1))
  | .non, _ => true
  | .bl _, _ => true
  | .str x, _ => decide (x.length ≤ 40) && x.cps.toList.all okC
  | .int i, _ => decide (-1000000000000 ≤ i) && decide (i ≤ 1000000000000)
  | .lst _, _ => false
  | .ref _, _ => false
  | .scr _, _ => false
def fits : List PV → Nat → Bool
  | [], _ => true
  | x :: r, d => fit x d && fits r d
end
mutual
def lay : PV → Nat → Bool
  | .tup xs, n => decide (0 < n) && lays xs (n - 1)
  | .lst xs, n => decide (0 < n) && lays xs (n - 1)
  | .non, _ => true
  | .bl _, _ => true
  | .int _, _ => true
  | .str x, _ => PyData.strOk x && decide (x.length ≤ sizeLine)
  | .ref _, _ => false
  | .scr _, _ => false
def lays : List PV → Nat → Bool
  | [], _ => true
  | x :: r, n => lay x n && lays r n
end
mutual
theorem lay_d : ∀ (v : PV) (n : Nat), lay v n = true → ∃ d, toD v = some d ∧ d.canLay0 = true ∧ d.depth ≤ n
  | .tup xs, n, h => by
    simp only [lay, Bool.and_eq_true, decide_eq_true_eq] at h
    obtain ⟨ds, h1, h2, h3⟩ := lays_d xs (n - 1) h.2
    exact ⟨.tuple ds, by simp only [toD, h1]; rfl, by simpa only [PyData.canLay0] using h2, by simp only [PyData.depth]; omega⟩
  | .lst xs, n, h => by
    simp only [lay, Bool.and_eq_true, decide_eq_true_eq] at h
    obtain ⟨ds, h1, h2, h3⟩ := lays_d xs (n - 1) h.2
    exact ⟨.list ds, by simp only [toD, h1]; rfl, by simpa only [PyData.canLay0] using h2, by simp only [PyData.depth]; omega⟩
  | .non, n, _ => ⟨.none, rfl, rfl, Nat.zero_le _⟩
  | .bl b, n, _ => ⟨.bool b, rfl, rfl, Nat.zero_le _⟩
  | .int i, n, _ => ⟨.int i, rfl, rfl, Nat.zero_le _⟩
  | .str x, n, h => by
    simp only [lay, Bool.and_eq_true, decide_eq_true_eq] at h
    exact ⟨.str x, rfl, h.1, Nat.zero_le _⟩
  | .ref _, n, h => by simp only [lay] at h; cases h
  | .scr _, n, h => by simp only [lay] at h; cases h
theorem lays_d : ∀ (xs : List PV) (n : Nat), lays xs n = true → ∃ ds, toDs xs = some ds ∧ PyData.canLayAll0 ds = true ∧ PyData.depthAll ds ≤ n
  | [], n, _ => ⟨[], rfl, rfl, Nat.zero_le _⟩
  | x :: r, n, h => by
    simp only [lays, Bool.and_eq_true] at h
    obtain ⟨d, h1, h2, h3⟩ := lay_d x n h.1
    obtain ⟨ds, h4, h5, h6⟩ := lays_d r n h.2
    refine ⟨d :: ds, by simp only [toDs, h1, h4]; rfl, by simp only [PyData.canLayAll0, h2, h5]; rfl, ?_⟩
    simp only [PyData.depthAll]
    exact Nat.max_le.mpr ⟨h3, h6⟩
end
theorem lay_shD {v : PV} (h : lay v 64 = true) : ∃ d, toD v = some d ∧ shD d = true := by
  obtain ⟨d, h1, h2, h3⟩ := lay_d v 64 h
  refine ⟨d, h1, ?_⟩
  unfold shD SeqAt.shaped
  rw [h2]
  exact decide_eq_true h3
theorem eqv_nil (ds : List PyData) : PyData.eqv (.list ds) (.list []) = ds.isEmpty := by
  cases ds with
  | nil => simp only [PyData.eqv, PyData.eqvAll]; rfl
  | cons d r => simp only [PyData.eqv, PyData.eqvAll]; rfl
theorem toDs_empty {xs : List PV} {ds : List PyData} (h : toDs xs = some ds) : ds.isEmpty = xs.isEmpty := by
  cases xs with
  | nil => cases h; rfl
  | cons x r =>
    simp only [toDs] at h
    obtain ⟨d, _, h⟩ := bindO_inv h
    obtain ⟨ds, _, rfl⟩ := map_inv h
    rfl
theorem eq_nil' {xs : List PV} (h : lays xs 63 = true) : eqP (.lst xs) (.lst []) = some xs.isEmpty := by
  obtain ⟨ds, h1, h2, h3⟩ := lays_d xs 63 h
  have e1 : toD (.lst xs) = some (.list ds) := by simp only [toD, h1]; rfl
  have s1 : shD (.list ds) = true := by
    unfold shD SeqAt.shaped
    simp only [PyData.canLay0, h2, PyData.depth, Bool.true_and]
    exact decide_eq_true (by omega)
  have s2 : shD (.list []) = true := rfl
  unfold eqP
  rw [e1]
  show (if shD (.list ds) = true ∧ shD (.list []) = true then some (PyData.eqv (.list ds) (.list [])) else none) = _
  rw [if_pos ⟨s1, s2⟩, eqv_nil, toDs_empty h1]
theorem c_nenil {xs : List PV} (h : lays xs 63 = true) : cmpOp S .ne (.lst xs) (.lst []) = some (!xs.isEmpty) := by
  show (eqP (.lst xs) (.lst [])).map (!·) = _
  rw [eq_nil' h]
  rfl
theorem c_eqnil {xs : List PV} (h : lays xs 63 = true) : cmpOp S .eq (.lst xs) (.lst []) = some xs.isEmpty := eq_nil' h
mutual
theorem lay_up : ∀ (v : PV) {n m : Nat}, n ≤ m → lay v n = true → lay v m = true
  | .tup xs, n, m, hm, h => by
    simp only [lay, Bool.and_eq_true, decide_eq_true_eq] at h ⊢
    exact ⟨by omega, lays_up xs (by omega) h.2⟩
  | .lst xs, n, m, hm, h => by
    simp only [lay, Bool.and_eq_true, decide_eq_true_eq] at h ⊢
    exact ⟨by omega, lays_up xs (by omega) h.2⟩
  | .non, n, m, _, h => rfl
  | .bl _, n, m, _, h => rfl
  | .int _, n, m, _, h => rfl
  | .str _, n, m, _, h => h
  | .ref _, n, m, _, h => h
  | .scr _, n, m, _, h => h
theorem lays_up : ∀ (xs : List PV) {n m : Nat}, n ≤ m → lays xs n = true → lays xs m = true
  | [], n, m, _, h => rfl
  | x :: r, n, m, hm, h => by
    simp only [lays, Bool.and_eq_true] at h ⊢
    exact ⟨lay_up x hm h.1, lays_up r hm h.2⟩
end
theorem lays_mem {xs : List PV} {n : Nat} : lays xs n = true ↔ ∀ x ∈ xs, lay x n = true := by
  induction xs with
  | nil => simp [lays]
  | cons x r ih => simp [lays, ih]
theorem fits_mem {xs : List PV} {n : Nat} : fits xs n = xs.all fun x => fit x n := by
  induction xs with
  | nil => simp [fits]
  | cons x r ih => simp [fits, ih]
mutual
def wt : PV → Nat
  | .tup xs => wts xs + 1
  | .non => 1
  | .bl _ => 1
  | .int _ => 1
  | .str _ => 1
  | .lst _ => 1
  | .ref _ => 1
  | .scr _ => 1
def wts : List PV → Nat
  | [] => 0
  | x :: r => wt x + wts r
end
def wtL (r : List (PV × Nat)) : Nat := (r.map fun p => wt p.1).sum
def ent (p : PV × Nat) : PV := .tup [p.1, .int p.2]
def thT : T := .val (.cmp .ne (.var 1) (.lst .nil))
def thB : Ss := (.cons (.pop (.two 2 3) 1) (.cons (.cnd (.not (.val (.call 3 (.cons (.var 2) .nil)))) (.cons (.cnd (.or (.val (.cmp .gt (.var 3) (.cst (.int 40)))) (.not (.val (.call 1 (.cons (.var 2) (.cons (.cst (.int 0)) (.cons (.cst (.int 64)) .nil))))))) (.cons (.ret (.cst (.bl false))) .nil) .nil) (.cons (.aug 1 .add (.lc (.nm 4) (.seq (.var 2)) .no (.tup (.cons (.var 4) (.cons (.bin .add (.var 3) (.cst (.int 1))) .nil))) [4])) .nil)) .nil) .nil))
theorem b_th : b_fits_thing = .cons (.own 1 (.lst (.cons (.tup (.cons (.var 0) (.cons (.cst (.int 1)) .nil))) .nil))) (.cons (.whl thT thB) (.cons (.ret (.cst (.bl true))) .nil)) := rfl
theorem wt_pos (v : PV) : 0 < wt v := by
  cases v <;> simp only [wt] <;> omega
theorem wts_sum : ∀ xs : List PV, wts xs = (xs.map wt).sum
  | [] => rfl
  | x :: r => by simp only [wts, List.map_cons, List.sum_cons, wts_sum r]
theorem lays_ent {r : List (PV × Nat)} (h : ∀ p ∈ r, lay p.1 60 = true) : lays (r.map ent) 63 = true := by
  rw [lays_mem]
  intro x hx
  obtain ⟨p, hp, rfl⟩ := List.mem_map.mp hx
  have := lay_up p.1 (m := 62) (by decide) (h p hp)
  simp [ent, lay, lays, this]
theorem plainV_of {v : PV} {n : Nat} (h : lay v n = true) : plainV v := by
  cases v with
  | ref _ => simp [lay] at h
  | scr _ => simp [lay] at h
  | str x => simp [lay] at h; exact h.2
  | _ => trivial
theorem fit_no {v : PV} {d : Nat} (h : fitP v = false) (hn : ∀ xs, v ≠ .tup xs) : fit v d = false := by
  cases v with
  | tup xs => exact absurd rfl (hn xs)
  | _ => simpa [fit, fitP] using h
theorem fit_yes {v : PV} {d : Nat} (h : fitP v = true) : fit v d = true := by
  cases v with
  | tup xs => cases h
  | _ => simpa [fit, fitP] using h
theorem ty_of {v : PV} {n : Nat} (h : lay v n = true) (hn : ∀ xs, v ≠ .tup xs) : ∃ t, tyP S v = some t ∧ t ≠ "tuple" := by
  cases v with
  | tup xs => exact absurd rfl (hn xs)
  | ref _ => simp [lay] at h
  | scr _ => simp [lay] at h
  | _ => exact ⟨_, rfl, by decide⟩
section
variable {v0 : SV} {xs : List PV} {v : PV} {d : Nat} {a b c : Option SV}
theorem th_plain (hv : plainV v) (hf : fitP v = true) : exSs (cl (k + 3)) thB [some v0, some (.own (xs ++ [ent (v, d)])), a, b, c] S = .ok (.next [some v0, some (.own xs), some (.val v), some (.val (.int d)), c]) S := by
  have pl := plain (k := k + 1) (S := S) v hv
  simp [thB, ent, pl, hf]
theorem th_deep (hv : plainV v) (hf : fitP v = false) (hd : 40 < d) : exSs (cl (k + 3)) thB [some v0, some (.own (xs ++ [ent (v, d)])), a, b, c] S = .ok (.ret (.bl false)) S := by
  have pl := plain (k := k + 1) (S := S) v hv
  have h2 : (40 : Int) < d := by omega
  simp [thB, ent, pl, hf, h2]
theorem th_not (hv : plainV v) (hf : fitP v = false) (hd : d ≤ 40) (ht : ∃ t, tyP S v = some t ∧ t ≠ "tuple") : exSs (cl (k + 3)) thB [some v0, some (.own (xs ++ [ent (v, d)])), a, b, c] S = .ok (.ret (.bl false)) S := by
  have pl := plain (k := k + 1) (S := S) v hv
  have h2 : ¬ (40 : Int) < d := by omega
  have tu := tupof_no (k := k + 2) (S := S) v 0 64 ht
  simp [thB, ent, pl, hf, h2, tu]
theorem th_many {ys : List PV} (hd : d ≤ 40) (hl : 64 < ys.length) : exSs (cl (k + 3)) thB [some v0, some (.own (xs ++ [ent (.tup ys, d)])), a, b, c] S = .ok (.ret (.bl false)) S := by
  have pl := plain (k := k + 1) (S := S) (.tup ys) trivial
  have h2 : ¬ (40 : Int) < d := by omega
  have h3 : ¬ (ys.length : Int) ≤ 64 := by omega
  simp [thB, ent, pl, fitP, h2, tupof, h3]
theorem th_push {ys : List PV} (hd : d ≤ 40) (hl : ys.length ≤ 64) (hz : xs.length + ys.length ≤ sizeLine) : exSs (cl (k + 3)) thB [some v0, some (.own (xs ++ [ent (.tup ys, d)])), a, b, c] S =
    .ok (.next [some v0, some (.own (xs ++ ys.map fun y => ent (y, d + 1))), some (.val (.tup ys)), some (.val (.int d)), c]) S := by
  have pl := plain (k := k + 1) (S := S) (.tup ys) trivial
  have h2 : ¬ (40 : Int) < d := by omega
  have h3 : (ys.length : Int) ≤ 64 := by omega
  have h4 : ys.length ≤ sizeLine := by omega
  have s2 : 2 ≤ sizeLine := by decide
  have lc : lcGo (.nm 4) (evTo (cl (k + 3)) .no) (evE (cl (k + 3)) false (.tup (.cons (.var 4) (.cons (.bin .add (.var 3) (.cst (.int 1))) .nil)))) .no [some v0, some (.own xs), some (.val (.tup ys)), some (.val (.int d)), none] ys [] S = .ok (ys.map fun y => ent (y, d + 1)) S :=
    lc_map _ _ fun y hy => ⟨_, rfl, by simp [ent, s2]⟩
  simp [thB, ent, pl, fitP, h2, tupof, h3, h4, lc, wipe, hz]
end
theorem len_wts (ys : List PV) : ys.length ≤ wts ys := by
  rw [wts_sum]
  induction ys with
  | nil => simp
  | cons y l ih =>
    have := wt_pos y
    simp only [List.map_cons, List.sum_cons, List.length_cons]
    omega
theorem len_wtL (r : List (PV × Nat)) : r.length ≤ (r.map fun p => wt p.1).sum := by
  induction r with
  | nil => simp
  | cons y l ih =>
    have := wt_pos y.1
    simp only [List.map_cons, List.sum_cons, List.length_cons]
    omega
/-- the loop of fits_thing -/
theorem fits_loop (v0 : SV) : ∀ (n : Nat) (r : List (PV × Nat)) (a b c : Option SV), wtL r ≤ n → (∀ p ∈ r, lay p.1 60 = true) → n ≤ sizeLine →
    ∃ m o, whileN (evT (cl (k + 3)) thT) (exSs (cl (k + 3)) thB) m [some v0, some (.own (r.reverse.map ent)), a, b, c] S = .ok o S ∧ (if (r.all fun p => fit p.1 p.2) = true then ∃ ρ, o = .next ρ else o = .ret (.bl false))
  | n, [], a, b, c, _, _, _ => ⟨1, _, by
      rw [whileN_succ]
      have e : cmpOp S .ne (.lst []) (.lst []) = some (!([] : List PV).isEmpty) := c_nenil rfl
      have e0 : (0 : Nat) ≤ sizeLine := by decide
      simp [thT, e, e0]; rfl, by simp⟩
  | 0, p :: r, a, b, c, h, _, _ => by
    have := wt_pos p.1
    simp only [wtL, List.map_cons, List.sum_cons] at h
    omega
  | n + 1, (v, d) :: r, a, b, c, h, hl, hz => by
    have hw := wt_pos v
    simp only [wtL, List.map_cons, List.sum_cons] at h
    have e0 : (0 : Nat) ≤ sizeLine := by decide
    have hlp : lay v 60 = true := hl (v, d) (List.mem_cons_self ..)
    have hlr : ∀ p ∈ r, lay p.1 60 = true := fun q hq => hl q (List.mem_cons_of_mem _ hq)
    have pv := plainV_of hlp
    have ct : evT (cl (k + 3)) thT [some v0, some (.own (((v, d) :: r).reverse.map ent)), a, b, c] S = .ok true S := by
      have e := c_nenil (S := S) (lays_ent (r := ((v, d) :: r).reverse) fun q hq => hl q (List.mem_reverse.mp hq))
      simp only [thT, t_val, e_cmp, e_var, e_lst, es_nil, r_ok, List.length_nil, e0, if_true, List.getElem?_cons_succ, List.getElem?_cons_zero, e, o_some, tr_bl]
      simp
    have er : ((v, d) :: r).reverse.map ent = r.reverse.map ent ++ [ent (v, d)] := by simp
    rw [er] at ct ⊢
    have stop : exSs (cl (k + 3)) thB [some v0, some (.own (r.reverse.map ent ++ [ent (v, d)])), a, b, c] S = .ok (.ret (.bl false)) S → fit v d = false →
        ∃ m o, whileN (evT (cl (k + 3)) thT) (exSs (cl (k + 3)) thB) m [some v0, some (.own (r.reverse.map ent ++ [ent (v, d)])), a, b, c] S = .ok o S ∧ (if (((v, d) :: r).all fun p => fit p.1 p.2) = true then ∃ ρ, o = .next ρ else o = .ret (.bl false)) := fun hb hf => by
      refine ⟨1, .ret (.bl false), ?_, ?_⟩
      · rw [whileN_succ, ct]
        simp only [r_ok, if_true, hb, go_ret]
      · simp [hf]
    cases hf : fitP v with
    | true =>
      obtain ⟨m, o, h1, h2⟩ := fits_loop v0 n r (some (.val v)) (some (.val (.int d))) c (by simp only [wtL]; omega) hlr (by omega)
      refine ⟨m + 1, o, ?_, ?_⟩
      · rw [whileN_succ, ct]
        simp [th_plain pv hf, h1, -List.map_reverse]
      · have this : fit v d = true := fit_yes hf
        simp only [List.all_cons, this, Bool.true_and]
        exact h2
    | false =>
      by_cases hd : d ≤ 40
      · by_cases ht : ∃ xs, v = .tup xs
        · obtain ⟨ys, rfl⟩ := ht
          by_cases hn : ys.length ≤ 64
          · have hw2 : wts ys + (r.map fun p => wt p.1).sum ≤ n := by simp only [wt] at h; omega
            have hll : lays ys 59 = true := by simp only [lay, Bool.and_eq_true] at hlp; exact hlp.2
            have hle := len_wts ys
            have hlr2 := len_wtL r
            obtain ⟨m, o, h1, h2⟩ := fits_loop v0 n ((ys.map fun y => (y, d + 1)).reverse ++ r) (some (.val (.tup ys))) (some (.val (.int d))) c
              (by simp only [wtL, List.map_append, List.map_reverse, List.map_map, List.sum_append, List.sum_reverse]
                  have : (ys.map ((fun p : PV × Nat => wt p.1) ∘ fun y => (y, d + 1))).sum = wts ys := by rw [wts_sum]; rfl
                  omega)
              (fun q hq => by
                rcases List.mem_append.mp hq with hq | hq
                · obtain ⟨y, hy, rfl⟩ := List.mem_map.mp (List.mem_reverse.mp hq)
                  exact lay_up y (by decide) (lays_mem.mp hll y hy)
                · exact hlr q hq)
              (by omega)
            have ee : (((ys.map fun y => (y, d + 1)).reverse ++ r).reverse.map ent) = r.reverse.map ent ++ ys.map fun y => ent (y, d + 1) := by
              rw [List.reverse_append, List.reverse_reverse, List.map_append, List.map_map]
              rfl
            rw [ee] at h1
            refine ⟨m + 1, o, ?_, ?_⟩
            · rw [whileN_succ, ct]
              have pu := th_push (k := k) (S := S) (v0 := v0) (xs := r.reverse.map ent) (ys := ys) (a := a) (b := b) (c := c) hd hn (by simp only [List.length_map, List.length_reverse]; omega)
              simp only [r_ok, if_true, pu, go_next, h1]
            · have : fit (.tup ys) d = ys.all fun y => fit y (d + 1) := by simp only [fit, fits_mem, hd, hn, decide_true, Bool.true_and]
              have e3 : (((.tup ys, d) :: r).all fun p => fit p.1 p.2) = (((ys.map fun y => (y, d + 1)).reverse ++ r).all fun p => fit p.1 p.2) := by
                simp only [List.all_cons, this, List.all_append, List.all_reverse, List.all_map]
                rfl
              rw [e3]
              exact h2
          · refine stop (th_many hd (by omega)) ?_
            simp only [fit, hn, decide_false, Bool.false_and, Bool.and_false]
        · have nt : ∀ xs, v ≠ .tup xs := fun xs e => ht ⟨xs, e⟩
          exact stop (th_not pv hf hd (ty_of hlp nt)) (fit_no hf nt)
      · refine stop (th_deep pv hf (by omega)) ?_
        by_cases ht : ∃ xs, v = .tup xs
        · obtain ⟨ys, rfl⟩ := ht
          simp only [fit, hd, decide_false, Bool.false_and]
        · exact fit_no hf fun xs e => ht ⟨xs, e⟩
theorem fits_thing (v : PV) (h : lay v 60 = true) (hw : wt v ≤ sizeLine) : cl (k + 4) 4 [v] S = .ok (.bl (fit v 1)) S := by
  rw [run_ (f := ⟨1, 5, b_fits_thing⟩) rfl rfl, b_th]
  obtain ⟨m, o, h1, h2⟩ := fits_loop (k := k) (S := S) (.val v) (wt v) [(v, 1)] none none none (by simp [wtL]) (by simpa using h) hw
  have wh := while_ok h1
  have s2 : 2 ≤ sizeLine := by decide
  have s1 : 1 ≤ sizeLine := by decide
  have wh2 : whileM (evT (cl (k + 3)) thT) (exSs (cl (k + 3)) thB) [some (.val v), some (.own [.tup [v, .int 1]]), none, none, none] S = .ok o S := wh
  have e : exSs (cl (k + 3)) (.cons (.own 1 (.lst (.cons (.tup (.cons (.var 0) (.cons (.cst (.int 1)) .nil))) .nil))) (.cons (.whl thT thB) (.cons (.ret (.cst (.bl true))) .nil))) (envOf ⟨1, 5, b_fits_thing⟩ [v]) S = o.go (exSs (cl (k + 3)) (.cons (.ret (.cst (.bl true))) .nil)) S := by
    simp [envOf, s1, s2, -ss_cons, ss_cons (.own _ _), ss_cons (.whl _ _), wh2]
  have e2 : exSs (cl (k + 3)) (Ss.cons (.own 1 (.lst (.cons (.tup (.cons (.var 0) (.cons (.cst (.int 1)) .nil))) .nil))) (.cons (.whl thT thB) (.cons (.ret (.cst (.bl true))) .nil))) (envOf ⟨1, 5, b_fits_thing⟩ [v]) S = .ok (.ret (.bl (fit v 1))) S := by
    rw [e]
    simp only [List.all_cons, List.all_nil, Bool.and_true] at h2
    cases hf : fit v 1 with
    | true =>
      rw [hf, if_pos rfl] at h2
      obtain ⟨ρ, rfl⟩ := h2
      simp
    | false =>
      rw [hf, if_neg Bool.false_ne_true] at h2
      rw [h2]
      rfl
  show (exSs (cl (k + 3)) (Ss.cons (.own 1 (.lst (.cons (.tup (.cons (.var 0) (.cons (.cst (.int 1)) .nil))) .nil))) (.cons (.whl thT thB) (.cons (.ret (.cst (.bl true))) .nil))) (envOf ⟨1, 5, b_fits_thing⟩ [v]) S).bind _ = _
  rw [e2]
  rfl
theorem is_thing (v : PV) (h : lay v 60 = true) (hw : wt v ≤ sizeLine) : cl (k + 5) 13 [v] S = .ok (.bl (fit v 1)) S := by
  rw [run_ (f := ⟨1, 1, b_is_thing⟩) rfl rfl]
  simp [b_is_thing, envOf, fits_thing v h hw]
/-! ### octets -/
/-- little-endian digits -/
def dlf : Nat → Nat → List Nat
  | 0, _ => []
  | f + 1, n => if n = 0 then [] else n % 256 :: dlf f (n / 256)
def dl (n : Nat) : List Nat := dlf 8 n
def nts (l : List Nat) : List PV := l.map fun (n : Nat) => PV.int (n : Int)
def dgT : T := .val (.cmp .gt (.var 0) (.cst (.int 0)))
def dgB : Ss := (.cons (.app 1 (.bin .mod (.var 0) (.cst (.int 256)))) (.cons (.set (.nm 0) (.bin .fdiv (.var 0) (.cst (.int 256)))) .nil))
theorem digits_loop : ∀ (f n : Nat) (acc : List Nat), n < 256 ^ f → acc.length + f ≤ 100 → ∃ ρ, whileN (evT (cl k) dgT) (exSs (cl k) dgB) (f + 1) [some (.val (.int n)), some (.own (nts acc))] S = .ok (.next [ρ, some (.own (nts (acc ++ dlf f n)))]) S
  | f, n, acc, hn, hl => by
    by_cases h0 : n = 0
    · subst h0
      refine ⟨some (.val (.int 0)), ?_⟩
      rw [whileN_succ]
      cases f <;> simp [dgT, dlf]
    · cases f with
      | zero => simp at hn; omega
      | succ f =>
        have hn2 : n / 256 < 256 ^ f := by
          rw [Nat.pow_succ] at hn
          exact Nat.div_lt_of_lt_mul (by omega)
        obtain ⟨ρ, ih⟩ := digits_loop f (n / 256) (acc ++ [n % 256]) hn2 (by simp; omega)
        refine ⟨ρ, ?_⟩
        rw [whileN_succ]
        have hp : 0 < n := by omega
        have s1 : (nts acc).length < sizeLine := by
          have : 100 < sizeLine := by decide
          simp [nts]; omega
        have c1 : evT (cl k) dgT [some (.val (.int n)), some (.own (nts acc))] S = .ok true S := by simp [dgT, hp]
        have c2 : exSs (cl k) dgB [some (.val (.int n)), some (.own (nts acc))] S = .ok (.next [some (.val (.int ((n / 256 : Nat) : Int))), some (.own (nts (acc ++ [n % 256])))]) S := by
          simp [dgB, s1]
          simp [nts]
        rw [c1]
        simp only [r_ok, if_true, c2, go_next, ih]
        simp [dlf, h0]
theorem p256 : (256 : Nat) ^ 8 = 18446744073709551616 := by decide
theorem digits_of (n : Nat) (hn : n < 18446744073709551616) : cl (k + 1) 5 [.int n] S = .ok (.lst (nts (dl n).reverse)) S := by
  rw [run_ (f := ⟨1, 2, b_digits_of⟩) rfl rfl]
  obtain ⟨ρ, h⟩ := digits_loop (k := k) (S := S) 8 n [] (by rw [p256]; exact hn) (by decide)
  have wh := while_ok h
  have e0 : (0 : Nat) ≤ sizeLine := by decide
  show (exSs (cl k) (.cons (.own 1 (.lst .nil)) (.cons (.whl dgT dgB) (.cons (.ret (.rev (.var 1))) .nil))) (envOf ⟨1, 2, b_digits_of⟩ [.int n]) S).bind _ = _
  have wh2 : whileM (evT (cl k) dgT) (exSs (cl k) dgB) [some (.val (.int n)), some (.own [])] S = .ok (.next [ρ, some (.own (nts (dl n)))]) S := wh
  simp [envOf, e0, wh2]
  simp [nts]
mutual
def octs : PV → List Nat
  | .non => [1]
  | .bl b => [if b = true then 3 else 2]
  | .int i => (if 0 ≤ i then 4 else 5) :: (dl i.natAbs).length :: (dl i.natAbs).reverse
  | .str x => 6 :: x.length :: x.cps.toList
  | .tup xs => 7 :: xs.length :: octsL xs
  | .lst _ => []
  | .ref _ => []
  | .scr _ => []
def octsL : List PV → List Nat
  | [] => []
  | x :: r => octs x ++ octsL r
end
mutual
def dom : PV → Nat → Bool
  | .tup xs, n => decide (0 < n) && doms xs (n - 1)
  | .int i, _ => decide (i.natAbs < 281474976710656)
  | .str x, _ => decide (x.length ≤ 1000)
  | .non, _ => true
  | .bl _, _ => true
  | .lst _, _ => false
  | .ref _, _ => false
  | .scr _, _ => false
def doms : List PV → Nat → Bool
  | [], _ => true
  | x :: r, n => dom x n && doms r n
end
theorem abs_nat (i : Int) : (if i < 0 then -i else i) = (i.natAbs : Int) := by
  split <;> omega
theorem nts_len (l : List Nat) : (nts l).length = l.length := by simp [nts]
theorem nts_app (a b : List Nat) : nts a ++ nts b = nts (a ++ b) := by simp [nts]
theorem dlf_len : ∀ f n, (dlf f n).length ≤ f
  | 0, _ => Nat.le_refl _
  | f + 1, n => by
    unfold dlf
    split
    · exact Nat.zero_le _
    · have := dlf_len f (n / 256)
      simp only [List.length_cons]
      omega
theorem dl_len (n : Nat) : (dl n).length ≤ 8 := dlf_len 8 n
theorem big : 1100 ≤ sizeLine := by decide
theorem lc_ord {i : Nat} {ρ : EV.Env} {own : List Nat} (x : Str) (hi : i < (wipe ρ own).length) : lcGo (.nm i) (evTo (cl k) .no) (evE (cl k) false (.blt .ord (.cons (.var i) .nil))) .no (wipe ρ own) (chars x) [] S = .ok (nts x.cps.toList) S := by
  have e := lc_map (g := .nm i) (cal := cl k) (e := evE (cl k) false (.blt .ord (.cons (.var i) .nil))) (ρ := wipe ρ own) (S := S) (fun c => match c with
    | .str z => .int (z.cps.getD 0 0 : Nat)
    | _ => .non) (chars x) fun c hc => by
      obtain ⟨n, hn, rfl⟩ := List.mem_map.mp hc
      exact ⟨_, rfl, by simp [List.getElem?_set_self hi, ord1, -l_ord]⟩
  rw [e]
  unfold chars nts
  rw [List.map_map]
  rfl
theorem cps_len (x : Str) : x.cps.toList.length = x.length := rfl
theorem oct_int (i : Int) (hi : i.natAbs < 281474976710656) : cl (k + 2) 6 [.int i] S = .ok (.lst (nts (octs (.int i)))) S := by
  rw [run_ (f := ⟨1, 5, b_octets_by⟩) rfl rfl]
  have hd := digits_of (k := k) (S := S) i.natAbs (by omega)
  have s2 : 2 ≤ sizeLine := by decide
  have s3 := dl_len i.natAbs
  have s4 := big
  have s5 : (nts (dl i.natAbs).reverse).length + 1 + 1 ≤ sizeLine := by rw [nts_len, List.length_reverse]; omega
  have s6 : 2 + (nts (dl i.natAbs).reverse).length ≤ sizeLine := by omega
  by_cases h0 : 0 ≤ i
  · simp [b_octets_by, envOf, isSub, abs_nat, hd, s2, h0, s6, octs]
    simp [nts]
  · simp [b_octets_by, envOf, isSub, abs_nat, hd, s2, h0, s6, octs]
    simp [nts]
theorem oct_str (x : Str) (hx : x.length ≤ 1000) : cl (k + 2) 6 [.str x] S = .ok (.lst (nts (octs (.str x)))) S := by
  rw [run_ (f := ⟨1, 5, b_octets_by⟩) rfl rfl]
  have s2 : 2 ≤ sizeLine := by decide
  have s4 := big
  have s5 : x.length ≤ sizeLine := by omega
  have s6 : (chars x).length ≤ sizeLine := by unfold chars; rw [List.length_map]; exact s5
  have lc := lc_ord (k := k + 1) (S := S) (i := 2) (ρ := [some (.val (.str x)), none, none, none, none]) (own := [2]) x (by simp [wipe])
  have s7 : 2 + (nts x.cps.toList).length ≤ sizeLine := by rw [nts_len, cps_len]; omega
  simp [b_octets_by, envOf, isSub, s2, s5, s6, lc, octs, s7, -Array.toList_map]
  simp [nts]
theorem oct_bl (b : Bool) : cl (k + 2) 6 [.bl b] S = .ok (.lst (nts (octs (.bl b)))) S := by
  rw [run_ (f := ⟨1, 5, b_octets_by⟩) rfl rfl]
  have s1 : 1 ≤ sizeLine := by decide
  cases b <;> simp [b_octets_by, envOf, isSub, s1, octs] <;> rfl
theorem oct_non : cl (k + 2) 6 [.non] S = .ok (.lst (nts (octs .non))) S := by
  rw [run_ (f := ⟨1, 5, b_octets_by⟩) rfl rfl]
  have s1 : 1 ≤ sizeLine := by decide
  simp [b_octets_by, envOf, isSub, s1, octs] <;> rfl
def obL : Ss := .cons (.aug 3 .add (.call 6 (.cons (.var 4) .nil))) .nil
mutual
theorem octets_by : ∀ (v : PV) (n : Nat), dom v n = true → (octs v).length ≤ sizeLine → cl (k + n + 2) 6 [v] S = .ok (.lst (nts (octs v))) S
  | .non, n, _, _ => oct_non
  | .bl b, n, _, _ => oct_bl b
  | .int i, n, h, _ => oct_int i (by simpa [dom] using h)
  | .str x, n, h, _ => oct_str x (by simpa [dom] using h)
  | .lst _, n, h, _ => by simp [dom] at h
  | .ref _, n, h, _ => by simp [dom] at h
  | .scr _, n, h, _ => by simp [dom] at h
  | .tup xs, 0, h, _ => by simp [dom] at h
  | .tup xs, n + 1, h, hz => by
    simp only [dom, Bool.and_eq_true, Nat.add_sub_cancel] at h
    simp only [octs, List.length_cons] at hz
    have e : cl (k + (n + 1) + 2) 6 [.tup xs] S = cl ((k + n + 2) + 1) 6 [.tup xs] S := by rw [show k + (n + 1) + 2 = (k + n + 2) + 1 from by omega]
    rw [e, run_ (f := ⟨1, 5, b_octets_by⟩) rfl rfl]
    have s2 : 2 ≤ sizeLine := by decide
    obtain ⟨c, lp⟩ := octs_loop xs n [7, xs.length] (some (.val (.tup xs))) none h.2 (by simp; omega)
    have lp2 : forGo (.nm 4) (exSs (cl (k + n + 2)) (.cons (.aug 3 .add (.call 6 (.cons (.var 4) .nil))) .nil)) .no xs [some (.val (.tup xs)), none, none, some (.own [.int 7, .int xs.length]), none] S = .ok (.next [some (.val (.tup xs)), none, none, some (.own (nts ([7, xs.length] ++ octsL xs))), c]) S := lp
    simp [b_octets_by, envOf, isSub, s2, lp2, s_frz', octs]
theorem octs_loop : ∀ (xs : List PV) (n : Nat) (acc : List Nat) (a c : Option SV), doms xs n = true → acc.length + (octsL xs).length ≤ sizeLine →
    ∃ c', forGo (.nm 4) (exSs (cl (k + n + 2)) obL) .no xs [a, none, none, some (.own (nts acc)), c] S = .ok (.next [a, none, none, some (.own (nts (acc ++ octsL xs))), c']) S
  | [], n, acc, a, c, _, _ => ⟨c, by simp [octsL]⟩
  | x :: r, n, acc, a, c, h, hz => by
    simp only [doms, Bool.and_eq_true] at h
    simp only [octsL, List.length_append] at hz
    have hx := octets_by x n h.1 (by omega)
    obtain ⟨c', ih⟩ := octs_loop r n (acc ++ octs x) a (some (.val x)) h.2 (by simp only [List.length_append]; omega)
    refine ⟨c', ?_⟩
    have s1 : (nts acc).length + (nts (octs x)).length ≤ sizeLine := by rw [nts_len, nts_len]; omega
    have st : exSs (cl (k + n + 2)) obL [a, none, none, some (.own (nts acc)), some (.val x)] S = .ok (.next [a, none, none, some (.own (nts (acc ++ octs x))), some (.val x)]) S := by
      simp [obL, hx, s1, nts_app]
    simp only [for_cons, as_nm, o_some, r_ok, List.set, st, go_next, ih, octsL, List.append_assoc]
end
end K69

/-! Q69: the law's own octets. -/
namespace K69
open PySem EV
variable {k : Nat} {S : Sto}
def lo : Nat → Nat → List Nat
  | 0, _ => []
  | m + 1, n => n % 256 :: lo m (n / 256)
theorem lo_dlf : ∀ f n, lo (dlf f n).length n = dlf f n
  | 0, _ => rfl
  | f + 1, n => by
    unfold dlf
    split
    · rfl
    · simp only [List.length_cons, lo, lo_dlf f (n / 256)]
theorem lo_len : ∀ m n, (lo m n).length = m
  | 0, _ => rfl
  | m + 1, n => by simp [lo, lo_len m]
def ldB : Ss := (.cons (.par 2 0 false false (.bin .add (.lst (.cons (.bin .mod (.blt .int (.cons (.var 0) .nil)) (.cst (.int 256))) .nil)) (.var 2)) (.bin .fdiv (.var 0) (.cst (.int 256)))) .nil)
theorem ld_loop : ∀ (xs : List PV) (n : Nat) (acc : List Nat) (m c : Option SV), xs.length + acc.length ≤ 100 →
    ∃ n' c', forGo (.nm 3) (exSs (cl k) ldB) .no xs [some (.val (.int n)), m, some (.val (.lst (nts acc))), c] S = .ok (.next [n', m, some (.val (.lst (nts ((lo xs.length n).reverse ++ acc)))), c']) S
  | [], n, acc, m, c, _ => ⟨_, _, by simp [lo]; exact ⟨rfl, rfl⟩⟩
  | x :: r, n, acc, m, c, h => by
    simp only [List.length_cons] at h
    obtain ⟨n', c', ih⟩ := ld_loop r (n / 256) (n % 256 :: acc) m (some (.val x)) (by simp only [List.length_cons]; omega)
    refine ⟨n', c', ?_⟩
    have s1 : 1 ≤ sizeLine := by decide
    have s2 : 1 + (nts acc).length ≤ sizeLine := by
      have := big
      rw [nts_len]; omega
    have st : exSs (cl k) ldB [some (.val (.int n)), m, some (.val (.lst (nts acc))), some (.val x)] S = .ok (.next [some (.val (.int ((n / 256 : Nat) : Int))), m, some (.val (.lst (nts (n % 256 :: acc)))), some (.val x)]) S := by
      simp [ldB, s1, s2]
      simp [nts]
    simp only [for_cons, as_nm, o_some, r_ok, List.set, st, go_next, ih]
    simp [lo]
theorem law_digits (n m : Nat) (hm : m ≤ 8) : cl (k + 1) 20 [.int n, .int m] S = .ok (.lst (nts (lo m n).reverse)) S := by
  rw [run_ (f := ⟨2, 4, b_law_digits⟩) rfl rfl]
  obtain ⟨n', c', lp⟩ := ld_loop (k := k) (S := S) (rangeL m) n [] (some (.val (.int m))) none (by simp [rangeL]; omega)
  have e0 : (0 : Nat) ≤ sizeLine := by decide
  have hl : (rangeL m).length = m := by simp [rangeL]
  rw [hl] at lp
  have lp2 : forGo (.nm 3) (exSs (cl k) (.cons (.par 2 0 false false (.bin .add (.lst (.cons (.bin .mod (.blt .int (.cons (.var 0) .nil)) (.cst (.int 256))) .nil)) (.var 2)) (.bin .fdiv (.var 0) (.cst (.int 256)))) .nil)) .no (rangeL m) [some (.val (.int n)), some (.val (.int m)), some (.val (.lst [])), none] S = .ok (.next [n', some (.val (.int m)), some (.val (.lst (nts ((lo m n).reverse ++ [])))), c']) S := lp
  have g2 : rngOk m := rngOk_of (by omega) (by omega)
  simp [b_law_digits, envOf, e0, g2, lp2]
theorem dnz {a m : Nat} (hm : 0 < m) (h : m ≤ a) : a / m ≠ 0 := Nat.ne_of_gt (Nat.div_pos h hm)
theorem dlf_nx {f n : Nat} (h : n ≠ 0) : (dlf (f + 1) n).length = (dlf f (n / 256)).length + 1 := by
  conv => lhs; unfold dlf
  rw [if_neg h]
  rfl
theorem dlf_ze {f n : Nat} (h : n = 0) : (dlf f n).length = 0 := by
  subst h
  cases f <;> simp [dlf]
theorem pow_cnt (a : Nat) (ha : a < 281474976710656) : ((([1, 256, 65536, 16777216, 4294967296, 1099511627776] : List Int).filter fun p => decide (p ≤ (a : Int))).length) = (dl a).length := by
  have q1 : a / 256 / 256 = a / 65536 := Nat.div_div_eq_div_mul a 256 256
  have q2 : a / 65536 / 256 = a / 16777216 := Nat.div_div_eq_div_mul a 65536 256
  have q3 : a / 16777216 / 256 = a / 4294967296 := Nat.div_div_eq_div_mul a 16777216 256
  have q4 : a / 4294967296 / 256 = a / 1099511627776 := Nat.div_div_eq_div_mul a 4294967296 256
  have q5 : a / 1099511627776 / 256 = a / 281474976710656 := Nat.div_div_eq_div_mul a 1099511627776 256
  unfold dl
  by_cases h0 : a < 1
  · rw [dlf_ze (by omega)]
    have e0 : ¬ (1 : Int) ≤ a := by omega
    have e1 : ¬ (256 : Int) ≤ a := by omega
    have e2 : ¬ (65536 : Int) ≤ a := by omega
    have e3 : ¬ (16777216 : Int) ≤ a := by omega
    have e4 : ¬ (4294967296 : Int) ≤ a := by omega
    have e5 : ¬ (1099511627776 : Int) ≤ a := by omega
    simp only [List.filter_cons, List.filter_nil, e0, e1, e2, e3, e4, e5, decide_true, decide_false]; rfl
  by_cases h1 : a < 256
  · rw [dlf_nx (f := 7) (n := a) (by omega), dlf_ze (Nat.div_eq_of_lt h1)]
    have e0 : (1 : Int) ≤ a := by omega
    have e1 : ¬ (256 : Int) ≤ a := by omega
    have e2 : ¬ (65536 : Int) ≤ a := by omega
    have e3 : ¬ (16777216 : Int) ≤ a := by omega
    have e4 : ¬ (4294967296 : Int) ≤ a := by omega
    have e5 : ¬ (1099511627776 : Int) ≤ a := by omega
    simp only [List.filter_cons, List.filter_nil, e0, e1, e2, e3, e4, e5, decide_true, decide_false]; rfl
  by_cases h2 : a < 65536
  · rw [dlf_nx (f := 7) (n := a) (by omega), dlf_nx (f := 6) (dnz (a := a) (m := 256) (by decide) (by omega)), q1, dlf_ze (Nat.div_eq_of_lt h2)]
    have e0 : (1 : Int) ≤ a := by omega
    have e1 : (256 : Int) ≤ a := by omega
    have e2 : ¬ (65536 : Int) ≤ a := by omega
    have e3 : ¬ (16777216 : Int) ≤ a := by omega
    have e4 : ¬ (4294967296 : Int) ≤ a := by omega
    have e5 : ¬ (1099511627776 : Int) ≤ a := by omega
    simp only [List.filter_cons, List.filter_nil, e0, e1, e2, e3, e4, e5, decide_true, decide_false]; rfl
  by_cases h3 : a < 16777216
  · rw [dlf_nx (f := 7) (n := a) (by omega), dlf_nx (f := 6) (dnz (a := a) (m := 256) (by decide) (by omega)), q1, dlf_nx (f := 5) (dnz (a := a) (m := 65536) (by decide) (by omega)), q2, dlf_ze (Nat.div_eq_of_lt h3)]
    have e0 : (1 : Int) ≤ a := by omega
    have e1 : (256 : Int) ≤ a := by omega
    have e2 : (65536 : Int) ≤ a := by omega
    have e3 : ¬ (16777216 : Int) ≤ a := by omega
    have e4 : ¬ (4294967296 : Int) ≤ a := by omega
    have e5 : ¬ (1099511627776 : Int) ≤ a := by omega
    simp only [List.filter_cons, List.filter_nil, e0, e1, e2, e3, e4, e5, decide_true, decide_false]; rfl
  by_cases h4 : a < 4294967296
  · rw [dlf_nx (f := 7) (n := a) (by omega), dlf_nx (f := 6) (dnz (a := a) (m := 256) (by decide) (by omega)), q1, dlf_nx (f := 5) (dnz (a := a) (m := 65536) (by decide) (by omega)), q2, dlf_nx (f := 4) (dnz (a := a) (m := 16777216) (by decide) (by omega)), q3, dlf_ze (Nat.div_eq_of_lt h4)]
    have e0 : (1 : Int) ≤ a := by omega
    have e1 : (256 : Int) ≤ a := by omega
    have e2 : (65536 : Int) ≤ a := by omega
    have e3 : (16777216 : Int) ≤ a := by omega
    have e4 : ¬ (4294967296 : Int) ≤ a := by omega
    have e5 : ¬ (1099511627776 : Int) ≤ a := by omega
    simp only [List.filter_cons, List.filter_nil, e0, e1, e2, e3, e4, e5, decide_true, decide_false]; rfl
  by_cases h5 : a < 1099511627776
  · rw [dlf_nx (f := 7) (n := a) (by omega), dlf_nx (f := 6) (dnz (a := a) (m := 256) (by decide) (by omega)), q1, dlf_nx (f := 5) (dnz (a := a) (m := 65536) (by decide) (by omega)), q2, dlf_nx (f := 4) (dnz (a := a) (m := 16777216) (by decide) (by omega)), q3, dlf_nx (f := 3) (dnz (a := a) (m := 4294967296) (by decide) (by omega)), q4, dlf_ze (Nat.div_eq_of_lt h5)]
    have e0 : (1 : Int) ≤ a := by omega
    have e1 : (256 : Int) ≤ a := by omega
    have e2 : (65536 : Int) ≤ a := by omega
    have e3 : (16777216 : Int) ≤ a := by omega
    have e4 : (4294967296 : Int) ≤ a := by omega
    have e5 : ¬ (1099511627776 : Int) ≤ a := by omega
    simp only [List.filter_cons, List.filter_nil, e0, e1, e2, e3, e4, e5, decide_true, decide_false]; rfl
  · rw [dlf_nx (f := 7) (n := a) (by omega), dlf_nx (f := 6) (dnz (a := a) (m := 256) (by decide) (by omega)), q1, dlf_nx (f := 5) (dnz (a := a) (m := 65536) (by decide) (by omega)), q2, dlf_nx (f := 4) (dnz (a := a) (m := 16777216) (by decide) (by omega)), q3, dlf_nx (f := 3) (dnz (a := a) (m := 4294967296) (by decide) (by omega)), q4, dlf_nx (f := 2) (dnz (a := a) (m := 1099511627776) (by decide) (by omega)), q5, dlf_ze (Nat.div_eq_of_lt ha)]
    have e0 : (1 : Int) ≤ a := by omega
    have e1 : (256 : Int) ≤ a := by omega
    have e2 : (65536 : Int) ≤ a := by omega
    have e3 : (16777216 : Int) ≤ a := by omega
    have e4 : (4294967296 : Int) ≤ a := by omega
    have e5 : (1099511627776 : Int) ≤ a := by omega
    simp only [List.filter_cons, List.filter_nil, e0, e1, e2, e3, e4, e5, decide_true, decide_false]; rfl
def pws : List PV := [.int 1, .int 256, .int 65536, .int 16777216, .int 4294967296, .int 1099511627776]
theorem pw_cnt (a : Nat) (ha : a < 281474976710656) : (pws.filter fun p => match p with | .int p => decide (p ≤ (a : Int)) | _ => false).length = (dl a).length := by
  rw [← pow_cnt a ha]
  have e : pws = ([1, 256, 65536, 16777216, 4294967296, 1099511627776] : List Int).map PV.int := rfl
  rw [e, List.filter_map, List.length_map]
  rfl
theorem loct_int (i : Int) (hi : i.natAbs < 281474976710656) : cl (k + 2) 21 [.int i] S = .ok (.lst (nts (octs (.int i)))) S := by
  rw [run_ (f := ⟨1, 6, b_law_octets⟩) rfl rfl]
  have hd := law_digits (k := k) (S := S) i.natAbs (dl i.natAbs).length (dl_len _)
  have hlo : lo (dl i.natAbs).length i.natAbs = dl i.natAbs := lo_dlf 8 _
  rw [hlo] at hd
  have s2 : 2 ≤ sizeLine := by decide
  have s61 : 6 ≤ sizeLine := by decide
  have s3 := dl_len i.natAbs
  have s4 := big
  have s6 : 2 + (nts (dl i.natAbs).reverse).length ≤ sizeLine := by rw [nts_len, List.length_reverse]; omega
  have lc := lc_pure (g := .nm 2) (t := evTo (cl (k + 1)) (.so (.val (.cmp .ge (.blt .abs (.cons (.var 0) .nil)) (.var 2))))) (e := evE (cl (k + 1)) false (.cst (.int 1))) (ρ := [some (.val (.int i)), none, none, none, none, none]) (S := S)
    (fun p => match p with | .int p => decide (p ≤ (i.natAbs : Int)) | _ => false) (fun _ => .int 1) pws [] fun x hx => by
      have : ∃ n : Int, x = .int n := by
        simp only [pws, List.mem_cons, List.not_mem_nil, or_false] at hx
        rcases hx with rfl | rfl | rfl | rfl | rfl | rfl <;> exact ⟨_, rfl⟩
      obtain ⟨n, rfl⟩ := this
      exact ⟨_, rfl, by simp [abs_nat], fun _ => by simp⟩
  have cnt := pw_cnt i.natAbs hi
  generalize hq : (pws.filter fun p => match p with | .int p => decide (p ≤ (i.natAbs : Int)) | _ => false) = Q at lc cnt
  have lc2 : lcGo (.nm 2) (evTo (cl (k + 1)) (.so (.val (.cmp .ge (.blt .abs (.cons (.var 0) .nil)) (.var 2))))) (evE (cl (k + 1)) false (.cst (.int 1))) .no [some (.val (.int i)), none, none, none, none, none] [.int 1, .int 256, .int 65536, .int 16777216, .int 4294967296, .int 1099511627776] [] S = .ok (Q.map fun _ => .int 1) S := lc
  by_cases h0 : 0 ≤ i
  · simp [b_law_octets, envOf, isSub, wipe, s61, lc2, cnt, abs_nat, hd, s2, h0, s6, octs, -lc_cons]
    simp [nts]
  · simp [b_law_octets, envOf, isSub, wipe, s61, lc2, cnt, abs_nat, hd, s2, h0, s6, octs, -lc_cons]
    simp [nts]
theorem loct_str (x : Str) (hx : x.length ≤ 1000) : cl (k + 2) 21 [.str x] S = .ok (.lst (nts (octs (.str x)))) S := by
  rw [run_ (f := ⟨1, 6, b_law_octets⟩) rfl rfl]
  have s2 : 2 ≤ sizeLine := by decide
  have s4 := big
  have s5 : x.length ≤ sizeLine := by omega
  have s6 : (chars x).length ≤ sizeLine := by unfold chars; rw [List.length_map]; exact s5
  have lc := lc_ord (k := k + 1) (S := S) (i := 3) (ρ := [some (.val (.str x)), none, none, none, none, none]) (own := [3]) x (by simp [wipe])
  have s7 : 2 + (nts x.cps.toList).length ≤ sizeLine := by rw [nts_len, cps_len]; omega
  simp [b_law_octets, envOf, isSub, s2, s5, s6, lc, octs, s7, -Array.toList_map]
  simp [nts]
theorem loct_bl (b : Bool) : cl (k + 2) 21 [.bl b] S = .ok (.lst (nts (octs (.bl b)))) S := by
  rw [run_ (f := ⟨1, 6, b_law_octets⟩) rfl rfl]
  have s1 : 1 ≤ sizeLine := by decide
  cases b <;> simp [b_law_octets, envOf, isSub, s1, octs] <;> rfl
theorem loct_non : cl (k + 2) 21 [.non] S = .ok (.lst (nts (octs .non))) S := by
  rw [run_ (f := ⟨1, 6, b_law_octets⟩) rfl rfl]
  have s1 : 1 ≤ sizeLine := by decide
  simp [b_law_octets, envOf, isSub, s1, octs] <;> rfl
def lobL : Ss := .cons (.set (.nm 4) (.bin .add (.var 4) (.call 21 (.cons (.var 5) .nil)))) .nil
mutual
theorem law_octets : ∀ (v : PV) (n : Nat), dom v n = true → (octs v).length ≤ sizeLine → cl (k + n + 2) 21 [v] S = .ok (.lst (nts (octs v))) S
  | .non, n, _, _ => loct_non
  | .bl b, n, _, _ => loct_bl b
  | .int i, n, h, _ => loct_int i (by simpa [dom] using h)
  | .str x, n, h, _ => loct_str x (by simpa [dom] using h)
  | .lst _, n, h, _ => by simp [dom] at h
  | .ref _, n, h, _ => by simp [dom] at h
  | .scr _, n, h, _ => by simp [dom] at h
  | .tup xs, 0, h, _ => by simp [dom] at h
  | .tup xs, n + 1, h, hz => by
    simp only [dom, Bool.and_eq_true, Nat.add_sub_cancel] at h
    simp only [octs, List.length_cons] at hz
    have e : cl (k + (n + 1) + 2) 21 [.tup xs] S = cl ((k + n + 2) + 1) 21 [.tup xs] S := by rw [show k + (n + 1) + 2 = (k + n + 2) + 1 from by omega]
    rw [e, run_ (f := ⟨1, 6, b_law_octets⟩) rfl rfl]
    have s2 : 2 ≤ sizeLine := by decide
    obtain ⟨c, lp⟩ := locts_loop xs n [7, xs.length] (some (.val (.tup xs))) none h.2 (by simp; omega)
    have lp2 : forGo (.nm 5) (exSs (cl (k + n + 2)) (.cons (.set (.nm 4) (.bin .add (.var 4) (.call 21 (.cons (.var 5) .nil)))) .nil)) .no xs [some (.val (.tup xs)), none, none, none, some (.val (.lst [.int 7, .int xs.length])), none] S = .ok (.next [some (.val (.tup xs)), none, none, none, some (.val (.lst (nts ([7, xs.length] ++ octsL xs)))), c]) S := lp
    simp [b_law_octets, envOf, isSub, s2, lp2, octs]
theorem locts_loop : ∀ (xs : List PV) (n : Nat) (acc : List Nat) (a c : Option SV), doms xs n = true → acc.length + (octsL xs).length ≤ sizeLine →
    ∃ c', forGo (.nm 5) (exSs (cl (k + n + 2)) lobL) .no xs [a, none, none, none, some (.val (.lst (nts acc))), c] S = .ok (.next [a, none, none, none, some (.val (.lst (nts (acc ++ octsL xs)))), c']) S
  | [], n, acc, a, c, _, _ => ⟨c, by simp [octsL]⟩
  | x :: r, n, acc, a, c, h, hz => by
    simp only [doms, Bool.and_eq_true] at h
    simp only [octsL, List.length_append] at hz
    have hx := law_octets x n h.1 (by omega)
    obtain ⟨c', ih⟩ := locts_loop r n (acc ++ octs x) a (some (.val x)) h.2 (by simp only [List.length_append]; omega)
    refine ⟨c', ?_⟩
    have s1 : (nts acc).length + (nts (octs x)).length ≤ sizeLine := by rw [nts_len, nts_len]; omega
    have st : exSs (cl (k + n + 2)) lobL [a, none, none, none, some (.val (.lst (nts acc))), some (.val x)] S = .ok (.next [a, none, none, none, some (.val (.lst (nts (acc ++ octs x)))), some (.val x)]) S := by
      simp [lobL, hx, s1, nts_app]
    simp only [for_cons, as_nm, o_some, r_ok, List.set, st, go_next, ih, octsL, List.append_assoc]
end
theorem need_thing (v : PV) (h : lay v 60 = true) (hw : wt v ≤ sizeLine) (hf : fit v 1 = true) : cl (k + 5) 12 [v] S = .ok .non S := by
  rw [run_ (f := ⟨1, 1, b_need_thing⟩) rfl rfl]
  simp [b_need_thing, envOf, fits_thing v h hw, hf]
theorem thing_octets (v : PV) (n : Nat) (h : lay v 60 = true) (hw : wt v ≤ sizeLine) (hf : fit v 1 = true) (hd : dom v n = true) (hz : (octs v).length ≤ sizeLine) : cl (k + n + 6) 14 [v] S = .ok (.tup (nts (octs v))) S := by
  rw [run_ (f := ⟨1, 1, b_thing_octets⟩) rfl rfl]
  have h1 := need_thing (k := k + n) (S := S) v h hw hf
  have h2 : cl (k + n + 5) 6 [v] S = .ok (.lst (nts (octs v))) S := by
    have := octets_by (k := k + 3) (S := S) v n hd hz
    rw [show k + n + 5 = k + 3 + n + 2 from by omega]
    exact this
  simp [b_thing_octets, envOf, h1, h2]
end K69

/-! R69: reading octets. -/
namespace K69
open PySem EV
variable {k : Nat} {S : Sto}
def pvo : Option (PV × Nat) → PV
  | none => .non
  | some (v, n) => .tup [v, .int (n : Int)]
def numOf (ds : List Nat) : Nat := ds.foldl (fun a d => a * 256 + d) 0
def row (os : List Nat) (p n : Nat) : List Nat := (os.drop p).take n
def rdNum (os : List Nat) (p sort size : Nat) : Option (PV × Nat) :=
  if (row os (p + 2) size).length < size ∨ (0 < size ∧ (row os (p + 2) size).getD 0 0 = 0) ∨ (size = 0 ∧ sort = 5) ∨ 1000000000000 < numOf (row os (p + 2) size) then none
  else some (.int (if sort = 4 then (numOf (row os (p + 2) size) : Int) else -(numOf (row os (p + 2) size) : Int)), p + 2 + size)
def rdStr (os : List Nat) (p size : Nat) : Option (PV × Nat) :=
  if (row os (p + 2) size).length < size ∨ 40 < size ∨ ((row os (p + 2) size).any fun c => !okC c) = true then none else some (.str ⟨(row os (p + 2) size).toArray⟩, p + 2 + size)
def rdLoop (r : Nat → Option (PV × Nat)) : Nat → Nat → Option (List PV × Nat)
  | 0, p => some ([], p)
  | n + 1, p => match r p with
    | none => none
    | some (v, q) => match rdLoop r n q with
      | none => none
      | some (vs, q) => some (v :: vs, q)
def rd : Nat → List Nat → Nat → Nat → Option (PV × Nat)
  | 0, _, _, _ => none
  | f + 1, os, p, deep =>
    if os.getD p 0 = 1 then some (.non, p + 1) else if os.getD p 0 = 2 then some (.bl false, p + 1) else if os.getD p 0 = 3 then some (.bl true, p + 1)
    else if os.getD p 0 < 4 ∨ 7 < os.getD p 0 ∨ os.length ≤ p + 1 then none
    else if os.getD p 0 < 6 then rdNum os p (os.getD p 0) (os.getD (p + 1) 0)
    else if os.getD p 0 = 6 then rdStr os p (os.getD (p + 1) 0)
    else if 64 < os.getD (p + 1) 0 ∨ 40 < deep then none
    else match rdLoop (fun q => rd f os q (deep + 1)) (os.getD (p + 1) 0) (p + 2) with
      | none => none
      | some (vs, q) => some (.tup vs, q)
/-! ### looks into octets -/
theorem at_nts {os : List Nat} {p : Nat} (h : p < os.length) : L2.atI (nts os) (p : Int) = some (.int (os.getD p 0 : Nat)) := by
  unfold L2.atI L2.ixN
  have h1 : (p : Int) < ((nts os).length : Int) := by rw [nts_len]; omega
  have h2 : (0 : Int) ≤ p := by omega
  rw [if_pos h2, if_pos h1]
  simp [nts, h]
theorem at_nts1 {os : List Nat} {p : Nat} (h : p + 1 < os.length) : L2.atI (nts os) ((p : Int) + 1) = some (.int (os.getD (p + 1) 0 : Nat)) := at_nts h
theorem cut_nts {os : List Nat} {p n : Nat} (h : p ≤ os.length) : cutP (nts os) (some (p : Int)) (some ((p : Int) + n)) = nts (row os p n) := by
  unfold cutP row
  have e : ((p : Int) + n) = ((p + n : Nat) : Int) := by omega
  rw [e, HT.sIx_nat, HT.sIx_nat, nts_len, Nat.min_eq_left h]
  unfold nts
  rw [← List.map_drop, ← List.map_take]
  congr 1
  by_cases h2 : p + n ≤ os.length
  · rw [Nat.min_eq_left h2, Nat.add_sub_cancel_left]
  · rw [Nat.min_eq_right (by omega), List.take_of_length_le (by simp), List.take_of_length_le (by simp; omega)]
theorem cut_nts2 {os : List Nat} {p n : Nat} (h : p + 2 ≤ os.length) : cutP (nts os) (some ((p : Int) + 2)) (some ((p : Int) + 2 + n)) = nts (row os (p + 2) n) := cut_nts (p := p + 2) h
theorem row_len (os : List Nat) (p n : Nat) : (row os p n).length ≤ n := by
  unfold row
  rw [List.length_take]
  exact Nat.min_le_left _ _
/-! ### numbers -/
def numB : Ss := (.cons (.set (.nm 4) (.bin .add (.bin .mul (.var 4) (.cst (.int 256))) (.var 5))) .nil)
theorem num_loop : ∀ (ds : List Nat) (a b c d : Option SV) (n : Nat) (x : Option SV), ∃ x', forGo (.nm 5) (exSs (cl k) numB) .no (nts ds) [a, b, c, d, some (.val (.int n)), x] S = .ok (.next [a, b, c, d, some (.val (.int (ds.foldl (fun a d => a * 256 + d) n : Nat))), x']) S
  | [], a, b, c, d, n, x => ⟨x, by simp [nts]⟩
  | y :: r, a, b, c, d, n, x => by
    obtain ⟨x', ih⟩ := num_loop r a b c d (n * 256 + y) (some (.val (.int y)))
    refine ⟨x', ?_⟩
    have st : exSs (cl k) numB [a, b, c, d, some (.val (.int n)), some (.val (.int y))] S = .ok (.next [a, b, c, d, some (.val (.int ((n * 256 + y : Nat) : Int))), some (.val (.int y))]) S := by
      simp [numB]
    have e : nts (y :: r) = .int (y : Int) :: nts r := rfl
    rw [e]
    simp only [for_cons, as_nm, o_some, r_ok, List.set, st, go_next, ih, List.foldl_cons]
theorem at_row {ds : List Nat} (h : 0 < ds.length) : L2.atI (nts ds) 0 = some (.int (ds.getD 0 0 : Nat)) := at_nts (p := 0) h
theorem read_number (os : List Nat) (p : Nat) (h : p + 1 < os.length) (hs : os.getD p 0 = 4 ∨ os.getD p 0 = 5) :
    cl (k + 3) 7 [.tup (nts os), .int p] S = .ok (pvo (rdNum os p (os.getD p 0) (os.getD (p + 1) 0))) S := by
  rw [run_ (f := ⟨2, 6, b_read_number⟩) rfl rfl]
  have h0 := at_nts (os := os) (p := p) (by omega)
  have h1 := at_nts1 h
  generalize hz : os.getD (p + 1) 0 = z at h1
  generalize hq : os.getD p 0 = q at h0 hs
  have cut := cut_nts2 (n := z) (show p + 2 ≤ os.length from h)
  have rl := row_len os (p + 2) z
  unfold rdNum
  generalize row os (p + 2) z = ds at cut rl
  obtain ⟨x', lp⟩ := num_loop (k := k + 2) (S := S) ds (some (.val (.tup (nts os)))) (some (.val (.int p))) (some (.val (.int z))) (some (.val (.tup (nts ds)))) 0 none
  have lp2 : forGo (.nm 5) (exSs (cl (k + 2)) (.cons (.set (.nm 4) (.bin .add (.bin .mul (.var 4) (.cst (.int 256))) (.var 5))) .nil)) .no (nts ds) [some (.val (.tup (nts os))), some (.val (.int p)), some (.val (.int z)), some (.val (.tup (nts ds))), some (.val (.int 0)), none] S =
    .ok (.next [some (.val (.tup (nts os))), some (.val (.int p)), some (.val (.int z)), some (.val (.tup (nts ds))), some (.val (.int (numOf ds : Nat))), x']) S := lp
  have nl := nts_len ds
  by_cases c1 : ds.length < z
  · rw [if_pos (.inl c1)]
    simp [b_read_number, envOf, h1, cut, nl, c1, pvo]
  by_cases c2 : 0 < z ∧ ds.getD 0 0 = 0
  · rw [if_pos (.inr (.inl c2))]
    have ar := at_row (ds := ds) (by omega)
    have c3 := c2.2
    have c4 : 0 < z := c2.1
    rw [c3] at ar
    simp [b_read_number, envOf, h1, cut, nl, c1, pvo, ar, c4]
  by_cases c3 : z = 0 ∧ q = 5
  · rw [if_pos (.inr (.inr (.inl c3)))]
    obtain ⟨rfl, rfl⟩ := c3
    simp [b_read_number, envOf, h1, cut, nl, pvo, h0]
  have cond : evT (cl (k + 2)) (.or (.val (.cmp .lt (.blt .len (.cons (.var 3) .nil)) (.var 2))) (.or (.and (.val (.cmp .gt (.var 2) (.cst (.int 0)))) (.val (.cmp .eq (.idx (.var 3) (.cst (.int 0))) (.cst (.int 0))))) (.and (.val (.cmp .eq (.var 2) (.cst (.int 0)))) (.val (.cmp .eq (.idx (.var 0) (.var 1)) (.cst (.int 5)))))))
      [some (.val (.tup (nts os))), some (.val (.int p)), some (.val (.int z)), some (.val (.tup (nts ds))), some (.val (.int 0)), none] S = .ok false S := by
    by_cases z0 : z = 0
    · have q4 : q = 4 := by omega
      subst z0 q4
      simp [nl, h0]
    · have z1 : 0 < z := by omega
      have d0 : ds.getD 0 0 ≠ 0 := fun e => c2 ⟨z1, e⟩
      have ar := at_row (ds := ds) (by omega)
      generalize ds.getD 0 0 = y at ar d0
      have y0 : ¬ ((y : Int) = 0) := by omega
      have z2 : ¬ ((z : Int) = 0) := by omega
      simp [nl, c1, z1, ar, d0, z0]
  have pl : ∀ i : Int, cl (k + 2) 3 [.int i] S = .ok (.bl (fitP (.int i))) S := fun i => plain (k := k) (.int i) trivial
  by_cases q4 : q = 4
  · subst q4
    by_cases big : 1000000000000 < numOf ds
    · rw [if_pos (.inr (.inr (.inr big)))]
      have g1 : ¬ (numOf ds : Int) ≤ 1000000000000 := by omega
      simp [b_read_number, envOf, h1, cut, pvo, h0, cond, lp2, pl, fitP, g1, -t_or, -t_and]
    · rw [if_neg (fun z => by rcases z with z | z | z | z; exact c1 z; exact c2 z; exact c3 z; exact big z)]
      have g1 : (numOf ds : Int) ≤ 1000000000000 := by omega
      have g2 : (-1000000000000 : Int) ≤ (numOf ds : Int) := by omega
      have s2 : 2 ≤ sizeLine := by decide
      simp [b_read_number, envOf, h1, cut, pvo, h0, cond, lp2, pl, fitP, g1, g2, s2, -t_or, -t_and]
  · have q5 : q = 5 := by omega
    subst q5
    by_cases big : 1000000000000 < numOf ds
    · rw [if_pos (.inr (.inr (.inr big)))]
      have g1 : ¬ (-1000000000000 : Int) ≤ -(numOf ds : Int) := by omega
      simp [b_read_number, envOf, h1, cut, pvo, h0, cond, lp2, pl, fitP, g1, -t_or, -t_and]
    · rw [if_neg (fun z => by rcases z with z | z | z | z; exact c1 z; exact c2 z; exact c3 z; exact big z)]
      have g1 : (-1000000000000 : Int) ≤ -(numOf ds : Int) := by omega
      have g2 : -(numOf ds : Int) ≤ 1000000000000 := by omega
      have s2 : 2 ≤ sizeLine := by decide
      simp [b_read_number, envOf, h1, cut, pvo, h0, cond, lp2, pl, fitP, g1, g2, s2, -t_or, -t_and]
/-! ### texts -/
def SG : Str := " !\"#$?&?()*+,-./0123456789:;<=>?@ABCDEFGHIJKLMNOPQRSTUVWXYZ[\\]^_`abcdefghijklmnopqrstuvwxyz{|}~"
theorem sg_all : ((List.range 127).all fun c => !okC c || (L2.atI SG.cps.toList ((c : Int) - 32) == some c)) = true := by decide +kernel
theorem sg_len : SG.length ≤ sizeLine := by decide +kernel
theorem okC_lt {c : Nat} (h : okC c = true) : c < 127 := by
  unfold okC at h
  simp only [Bool.and_eq_true, decide_eq_true_eq] at h
  omega
theorem sg_at {c : Nat} (h : okC c = true) : idxP S (.str SG) (.int ((c : Int) - 32)) = some (.str ⟨#[c]⟩) := by
  have e := List.all_eq_true.mp sg_all c (List.mem_range.mpr (okC_lt h))
  rw [h] at e
  have e2 : L2.atI SG.cps.toList ((c : Int) - 32) = some c := by simpa using e
  show (if SG.length ≤ sizeLine then (L2.atI SG.cps.toList ((c : Int) - 32)).map fun c => PV.str ⟨#[c]⟩ else none) = _
  rw [if_pos sg_len, e2]
  rfl
theorem join_one : ∀ l : List Nat, Txt.join "" (l.map fun c => (⟨#[c]⟩ : Str)) = ⟨l.toArray⟩ := by
  intro l
  have g : Txt.join "" (l.map fun c => (⟨#[c]⟩ : Str)) = Str.join "" (l.map fun c => (⟨#[c]⟩ : Str)) := PySem.StrLaws.glued_eq_join _ _
  rw [g]
  clear g
  induction l with
  | nil => rfl
  | cons c r ih =>
    cases r with
    | nil => rfl
    | cons d r =>
      show (⟨#[c]⟩ : Str) ++ "" ++ Str.join "" ((d :: r).map fun c => (⟨#[c]⟩ : Str)) = _
      rw [ih]
      refine PySem.Str.ext' ?_
      have e : ("" : Str).cps = #[] := by decide +kernel
      rw [PySem.Str.cps_append, PySem.Str.cps_append, e]
      simp
theorem strs_one : ∀ l : List Nat, strsOf (l.map fun c => PV.str ⟨#[c]⟩) = some (l.map fun c => (⟨#[c]⟩ : Str))
  | [] => rfl
  | c :: r => by simp [strsOf, strs_one r]
theorem sum_one (l : List Nat) : ((l.map fun c => (⟨#[c]⟩ : Str)).map fun y => y.length).sum = l.length := by
  induction l with
  | nil => rfl
  | cons c r ih =>
    simp only [List.map_cons, List.sum_cons, ih, List.length_cons]
    show 1 + r.length = _
    omega
theorem joinP_one (l : List Nat) (h : l.length ≤ 1000) : joinP "" (l.map fun c => (⟨#[c]⟩ : Str)) = some ⟨l.toArray⟩ := by
  unfold joinP
  rw [sum_one, join_one]
  have e : ("" : Str).length = 0 := by decide +kernel
  rw [e]
  exact if_pos (by omega)
def elOk : E := .or (.not (.chn .le .le (.cst (.int 32)) (.var 4) (.cst (.int 126)))) (.cmp .isin (.var 4) (.cst (.tup [(.int 37), (.int 39)])))
theorem el_ok {a b c d : Option SV} (x : Nat) : evE (cl k) false elOk [a, b, c, d, some (.val (.int x))] S = .ok (.bl (!okC x)) S := by
  have a1 : decide ((37 : Int) = (x : Int)) = decide (x = 37) := by simp; omega
  have a2 : decide ((39 : Int) = (x : Int)) = decide (x = 39) := by simp; omega
  have b1 : decide ((32 : Int) ≤ (x : Int)) = decide (32 ≤ x) := by simp; omega
  have b2 : decide ((x : Int) ≤ 126) = decide (x ≤ 126) := by simp; omega
  by_cases h1 : 32 ≤ x
  · have g1 : (32 : Int) ≤ x := by omega
    by_cases h2 : x ≤ 126
    · have g2 : (x : Int) ≤ 126 := by omega
      simp [elOk, okC, h1, h2, g1, g2, a1, a2, Bool.decide_or]
    · have g2 : ¬ (x : Int) ≤ 126 := by omega
      simp [elOk, okC, h1, h2, g1, g2]
  · have g1 : ¬ (32 : Int) ≤ x := by omega
    simp [elOk, okC, h1, g1]
def asNat : PV → Nat
  | .int i => i.toNat
  | _ => 0
theorem read_string (os : List Nat) (p : Nat) (h : p + 1 < os.length) (hz : os.length ≤ 1000000) : cl (k + 1) 8 [.tup (nts os), .int p] S = .ok (pvo (rdStr os p (os.getD (p + 1) 0))) S := by
  rw [run_ (f := ⟨2, 5, b_read_string⟩) rfl rfl]
  have h1 := at_nts1 h
  generalize os.getD (p + 1) 0 = z at h1
  have cut := cut_nts2 (n := z) (show p + 2 ≤ os.length from h)
  have rl := row_len os (p + 2) z
  have rl2 : (row os (p + 2) z).length ≤ os.length := by
    unfold row
    rw [List.length_take, List.length_drop]
    omega
  unfold rdStr
  generalize row os (p + 2) z = ds at cut rl rl2
  have nl := nts_len ds
  have s0 : (nts ds).length ≤ sizeLine := by
    have : 1000000 ≤ sizeLine := by decide
    rw [nl]; omega
  by_cases c1 : ds.length < z
  · rw [if_pos (.inl c1)]
    simp [b_read_string, envOf, h1, cut, nl, c1, pvo]
  by_cases c2 : 40 < z
  · rw [if_pos (.inr (.inl c2))]
    have c2' : (40 : Int) < z := by omega
    simp [b_read_string, envOf, h1, cut, nl, c1, c2', pvo]
  have c2' : ¬ (40 : Int) < z := by omega
  have s0' : ds.length ≤ sizeLine := by rw [← nl]; exact s0
  have lc : lcGo (.nm 4) (evTo (cl k) .no) (evE (cl k) false elOk) .no [some (.val (.tup (nts os))), some (.val (.int p)), some (.val (.int z)), some (.val (.tup (nts ds))), none] (nts ds) [] S = .ok ((nts ds).map fun x => .bl (!okC (asNat x))) S :=
    lc_map _ _ fun x hx => by
      obtain ⟨n, hn, rfl⟩ := List.mem_map.mp hx
      exact ⟨_, rfl, el_ok n⟩
  have lc2 : lcGo (.nm 4) (evTo (cl k) .no) (evE (cl k) false (.or (.not (.chn .le .le (.cst (.int 32)) (.var 4) (.cst (.int 126)))) (.cmp .isin (.var 4) (.cst (.tup [(.int 37), (.int 39)]))))) .no [some (.val (.tup (nts os))), some (.val (.int p)), some (.val (.int z)), some (.val (.tup (nts ds))), none] (nts ds) [] S = .ok (ds.map fun x => .bl (!okC x)) S := by
    have e : (nts ds).map (fun x => PV.bl (!okC (asNat x))) = ds.map fun x => .bl (!okC x) := by
      unfold nts
      rw [List.map_map]
      rfl
    rw [← e]
    exact lc
  have bo := blsOf_map (fun x => !okC x) ds
  have an := any_id (fun x => !okC x) ds
  have cond : evT (cl k) (.or (.val (.cmp .lt (.blt .len (.cons (.var 3) .nil)) (.var 2))) (.or (.val (.cmp .gt (.var 2) (.cst (.int 40)))) (.val (.blt .any (.cons (.lc (.nm 4) (.seq (.var 3)) .no (.or (.not (.chn .le .le (.cst (.int 32)) (.var 4) (.cst (.int 126)))) (.cmp .isin (.var 4) (.cst (.tup [(.int 37), (.int 39)])))) [4]) .nil)))))
      [some (.val (.tup (nts os))), some (.val (.int p)), some (.val (.int z)), some (.val (.tup (nts ds))), none] S = .ok (ds.any fun c => !okC c) S := by
    simp [nl, c1, c2', s0', wipe, lc2, bo, an, -e_or, -e_and, -e_not, -List.any_map]
  by_cases c3 : (ds.any fun c => !okC c) = true
  · rw [if_pos (.inr (.inr c3))]
    rw [c3] at cond
    simp [b_read_string, envOf, h1, cut, cond, pvo, -t_or]
  · rw [if_neg (fun z => by rcases z with z | z | z; exact c1 z; exact c2 z; exact c3 z)]
    have c4 : ∀ c ∈ ds, okC c = true := by
      intro c hc
      cases ho : okC c with
      | true => rfl
      | false => exact absurd (List.any_eq_true.mpr ⟨c, hc, by rw [ho]; rfl⟩) c3
    rw [Bool.eq_false_iff.mpr c3] at cond
    have lj : lcGo (.nm 4) (evTo (cl k) .no) (evE (cl k) false (.idx (.cst (.str SG)) (.bin .sub (.var 4) (.cst (.int 32))))) .no [some (.val (.tup (nts os))), some (.val (.int p)), some (.val (.int z)), some (.val (.tup (nts ds))), none] (nts ds) [] S = .ok (ds.map fun c => .str ⟨#[c]⟩) S := by
      have := lc_map (g := .nm 4) (cal := cl k) (e := evE (cl k) false (.idx (.cst (.str SG)) (.bin .sub (.var 4) (.cst (.int 32))))) (ρ := [some (.val (.tup (nts os))), some (.val (.int p)), some (.val (.int z)), some (.val (.tup (nts ds))), none]) (S := S) (fun x => .str ⟨#[asNat x]⟩) (nts ds) fun x hx => by
        obtain ⟨n, hn, rfl⟩ := List.mem_map.mp hx
        refine ⟨_, rfl, ?_⟩
        have := sg_at (S := S) (c4 n hn)
        simp [this, asNat]
      rw [this]
      unfold nts
      rw [List.map_map]
      rfl
    have jp := joinP_one ds (by omega)
    have so := strs_one ds
    have s2 : 2 ≤ sizeLine := by decide
    have lj2 := lj
    unfold SG at lj2
    simp [b_read_string, envOf, h1, cut, cond, pvo, -t_or, nl, s0', wipe, lj2, so, jp, s2]
/-! ### items -/
def itB : Ss := (.cons (.set (.nm 7) (.call 10 (.cons (.var 0) (.cons (.var 5) (.cons (.bin .add (.var 2) (.cst (.int 1))) .nil))))) (.cons (.cnd (.val (.cmp .is (.var 7) (.cst .non))) (.cons (.ret (.cst .non)) .nil) .nil) (.cons (.app 4 (.idx (.var 7) (.cst (.int 0)))) (.cons (.set (.nm 5) (.idx (.var 7) (.cst (.int 1)))) .nil))))
theorem it_loop {os : List Nat} {deep : Nat} {r : Nat → Option (PV × Nat)} {pv zv : Option SV} (R : ∀ q : Nat, cl k 10 [.tup (nts os), .int q, .int ((deep : Int) + 1)] S = .ok (pvo (r q)) S) :
    ∀ (xs acc : List PV) (q : Nat) (a b : Option SV), acc.length + xs.length ≤ 1000 → match rdLoop r xs.length q with
      | none => forGo (.nm 6) (exSs (cl k) itB) .no xs [some (.val (.tup (nts os))), pv, some (.val (.int deep)), zv, some (.own acc), some (.val (.int q)), a, b] S = .ok (.ret .non) S
      | some (vs, q') => ∃ a' b', forGo (.nm 6) (exSs (cl k) itB) .no xs [some (.val (.tup (nts os))), pv, some (.val (.int deep)), zv, some (.own acc), some (.val (.int q)), a, b] S =
          .ok (.next [some (.val (.tup (nts os))), pv, some (.val (.int deep)), zv, some (.own (acc ++ vs)), some (.val (.int q')), a', b']) S
  | [], acc, q, a, b, _ => ⟨a, b, by simp⟩
  | x :: xs, acc, q, a, b, h => by
    simp only [List.length_cons] at h
    have Rq := R q
    simp only [List.length_cons, rdLoop]
    cases hr : r q with
    | none =>
      rw [hr] at Rq
      have st : exSs (cl k) itB [some (.val (.tup (nts os))), pv, some (.val (.int deep)), zv, some (.own acc), some (.val (.int q)), some (.val x), b] S = .ok (.ret .non) S := by
        simp [itB, Rq, pvo]
      simp only [for_cons, as_nm, o_some, r_ok, List.set, st, go_ret]
    | some vq =>
      obtain ⟨v, q1⟩ := vq
      rw [hr] at Rq
      have s1 : acc.length < sizeLine := by
        have : 1000 < sizeLine := by decide
        omega
      have st : exSs (cl k) itB [some (.val (.tup (nts os))), pv, some (.val (.int deep)), zv, some (.own acc), some (.val (.int q)), some (.val x), b] S =
          .ok (.next [some (.val (.tup (nts os))), pv, some (.val (.int deep)), zv, some (.own (acc ++ [v])), some (.val (.int q1)), some (.val x), some (.val (.tup [v, .int q1]))]) S := by
        simp [itB, Rq, pvo, at2_0, at2_1, s1]
      have ih := it_loop (pv := pv) (zv := zv) R xs (acc ++ [v]) q1 (some (.val x)) (some (.val (.tup [v, .int q1]))) (by simp; omega)
      simp only [for_cons, as_nm, o_some, r_ok, List.set, st, go_next]
      cases hl : rdLoop r xs.length q1 with
      | none =>
        rw [hl] at ih
        exact ih
      | some vs =>
        obtain ⟨vs, q2⟩ := vs
        rw [hl] at ih
        obtain ⟨a', b', ih⟩ := ih
        refine ⟨a', b', ?_⟩
        rw [List.append_assoc] at ih
        exact ih
theorem rdLoop_len {r : Nat → Option (PV × Nat)} : ∀ {n q : Nat} {vs : List PV} {q' : Nat}, rdLoop r n q = some (vs, q') → vs.length = n
  | 0, q, vs, q', h => by cases h; rfl
  | n + 1, q, vs, q', h => by
    simp only [rdLoop] at h
    cases hr : r q with
    | none => rw [hr] at h; cases h
    | some vq =>
      rw [hr] at h
      simp only at h
      cases hl : rdLoop r n vq.2 with
      | none => rw [hl] at h; cases h
      | some w =>
        rw [hl] at h
        cases h
        simp [rdLoop_len hl]
def rdItems (r : Nat → Option (PV × Nat)) (size p deep : Nat) : Option (PV × Nat) :=
  if 64 < size ∨ 40 < deep then none else match rdLoop r size (p + 2) with
    | none => none
    | some (vs, q) => some (.tup vs, q)
theorem read_items (os : List Nat) (p deep : Nat) (r : Nat → Option (PV × Nat)) (h : p + 1 < os.length) (R : deep ≤ 40 → ∀ q : Nat, cl k 10 [.tup (nts os), .int q, .int ((deep : Int) + 1)] S = .ok (pvo (r q)) S) :
    cl (k + 1) 9 [.tup (nts os), .int p, .int deep] S = .ok (pvo (rdItems r (os.getD (p + 1) 0) p deep)) S := by
  rw [run_ (f := ⟨3, 8, b_read_items⟩) rfl rfl]
  have h1 := at_nts1 h
  generalize os.getD (p + 1) 0 = z at h1
  unfold rdItems
  by_cases c1 : 64 < z
  · have c1' : (64 : Int) < z := by omega
    rw [if_pos (.inl c1)]
    simp [b_read_items, envOf, h1, c1', pvo]
  have c1' : ¬ (64 : Int) < z := by omega
  by_cases c2 : 40 < deep
  · have c2' : (40 : Int) < deep := by omega
    rw [if_pos (.inr c2)]
    simp [b_read_items, envOf, h1, c1', c2', pvo]
  have c2' : ¬ (40 : Int) < deep := by omega
  rw [if_neg (fun z => by rcases z with z | z; exact c1 z; exact c2 z)]
  have e0 : (0 : Nat) ≤ sizeLine := by decide
  have s2 : 2 ≤ sizeLine := by decide
  have g2 : rngOk z := rngOk_of (by omega) (by omega)
  have hl : (rangeL z).length = z := by simp [rangeL]
  have lp := it_loop (k := k) (S := S) (r := r) (pv := some (.val (.int p))) (zv := some (.val (.int z))) (R (by omega)) (rangeL z) [] (p + 2) none none (by rw [hl]; simp; omega)
  rw [hl] at lp
  have ep : ((p + 2 : Nat) : Int) = (p : Int) + 2 := by omega
  rw [ep] at lp
  unfold itB at lp
  cases hq : rdLoop r z (p + 2) with
  | none =>
    rw [hq] at lp
    simp only at lp
    simp [b_read_items, envOf, h1, c1', c2', pvo, e0, g2, lp, -for_cons]
  | some vs =>
    obtain ⟨vs, q⟩ := vs
    rw [hq] at lp
    obtain ⟨a', b', lp⟩ := lp
    simp [b_read_items, envOf, h1, c1', c2', pvo, e0, g2, lp, s2, -for_cons]
theorem at_in {os : List Nat} {p : Nat} : evE (cl k) false (.ite (.val (.cmp .lt (.var 1) (.blt .len (.cons (.var 0) .nil)))) (.idx (.var 0) (.var 1)) (.cst (.int 0))) [some (.val (.tup (nts os))), some (.val (.int p)), a, b] S = .ok (.int (os.getD p 0 : Nat)) S := by
  by_cases h : p < os.length
  · have h0 := at_nts (os := os) (p := p) h
    simp [nts_len, h, h0]
  · have e : os.getD p 0 = 0 := by simp [List.getD, List.getElem?_eq_none (by omega : os.length ≤ p)]
    rw [e]
    simp [nts_len, h]
theorem read_at (os : List Nat) (hz : os.length ≤ 1000000) : ∀ (f p deep : Nat), 42 ≤ deep + f → 1 ≤ f → cl (k + 2 * f + 3) 10 [.tup (nts os), .int p, .int deep] S = .ok (pvo (rd f os p deep)) S
  | 0, p, deep, _, h => by omega
  | f + 1, p, deep, hd, _ => by
    have e : cl (k + 2 * (f + 1) + 3) 10 [.tup (nts os), .int p, .int deep] S = cl ((k + 2 * f + 4) + 1) 10 [.tup (nts os), .int p, .int deep] S := by rw [show k + 2 * (f + 1) + 3 = (k + 2 * f + 4) + 1 from by omega]
    rw [e, run_ (f := ⟨3, 4, b_read_at⟩) rfl rfl]
    have s3 : 3 ≤ sizeLine := by decide
    have s2 : 2 ≤ sizeLine := by decide
    have a1 := at_in (k := k + 2 * f + 4) (S := S) (os := os) (p := p) (a := some (.val (.int deep))) (b := none)
    have num : os.length ≤ p + 1 ∨ ¬ (os.getD p 0 = 4 ∨ os.getD p 0 = 5) ∨ cl (k + 2 * f + 4) 7 [.tup (nts os), .int p] S = .ok (pvo (rdNum os p (os.getD p 0) (os.getD (p + 1) 0))) S := by
      by_cases h1 : os.length ≤ p + 1
      · exact .inl h1
      by_cases h2 : os.getD p 0 = 4 ∨ os.getD p 0 = 5
      · exact .inr (.inr (read_number (k := k + 2 * f + 1) os p (by omega) h2))
      · exact .inr (.inl h2)
    have str : os.length ≤ p + 1 ∨ cl (k + 2 * f + 4) 8 [.tup (nts os), .int p] S = .ok (pvo (rdStr os p (os.getD (p + 1) 0))) S := by
      by_cases h1 : os.length ≤ p + 1
      · exact .inl h1
      · exact .inr (read_string (k := k + 2 * f + 3) os p (by omega) hz)
    have its : os.length ≤ p + 1 ∨ cl (k + 2 * f + 4) 9 [.tup (nts os), .int p, .int deep] S = .ok (pvo (rdItems (fun q => rd f os q (deep + 1)) (os.getD (p + 1) 0) p deep)) S := by
      by_cases h1 : os.length ≤ p + 1
      · exact .inl h1
      · refine .inr (read_items (k := k + 2 * f + 3) os p deep _ (by omega) fun h40 q => ?_)
        have := read_at os hz f q (deep + 1) (by omega) (by omega)
        simpa using this
    simp only [rd]
    have ri : rdItems (fun q => rd f os q (deep + 1)) (os.getD (p + 1) 0) p deep = (if 64 < os.getD (p + 1) 0 ∨ 40 < deep then none else match rdLoop (fun q => rd f os q (deep + 1)) (os.getD (p + 1) 0) (p + 2) with
      | none => none
      | some (vs, q) => some (.tup vs, q)) := rfl
    rw [← ri]
    generalize rdItems (fun q => rd f os q (deep + 1)) (os.getD (p + 1) 0) p deep = IT at its
    generalize rdStr os p (os.getD (p + 1) 0) = ST at str
    generalize os.getD p 0 = q at a1 num
    generalize rdNum os p q (os.getD (p + 1) 0) = NM at num
    clear ri
    have start : ∀ rest : Ss, exSs (cl (k + 2 * f + 4)) (.cons (.set (.nm 3) (.ite (.val (.cmp .lt (.var 1) (.blt .len (.cons (.var 0) .nil)))) (.idx (.var 0) (.var 1)) (.cst (.int 0)))) rest) [some (.val (.tup (nts os))), some (.val (.int p)), some (.val (.int deep)), none] S =
        exSs (cl (k + 2 * f + 4)) rest [some (.val (.tup (nts os))), some (.val (.int p)), some (.val (.int deep)), some (.val (.int q))] S := fun rest => by
      rw [ss_cons, s_set', a1]
      simp only [r_ok, as_nm, o_some, go_next, List.set]
    rw [show envOf ⟨3, 4, b_read_at⟩ [.tup (nts os), .int p, .int deep] = [some (.val (.tup (nts os))), some (.val (.int p)), some (.val (.int deep)), none] from rfl]
    unfold b_read_at
    rw [start]
    clear start a1
    have i0 : L2.atI [PV.non, .bl false, .bl true] 0 = some .non := rfl
    have i1 : L2.atI [PV.non, .bl false, .bl true] 1 = some (.bl false) := rfl
    have i2 : L2.atI [PV.non, .bl false, .bl true] 2 = some (.bl true) := rfl
    by_cases q1 : q = 1
    · subst q1
      simp [s3, s2, i0, pvo]
    by_cases q2 : q = 2
    · subst q2
      simp [s3, s2, i1, pvo]
    by_cases q3 : q = 3
    · subst q3
      simp [s3, s2, i2, pvo]
    rw [if_neg q1, if_neg q2, if_neg q3]
    by_cases bad : q < 4 ∨ 7 < q ∨ os.length ≤ p + 1
    · rw [if_pos bad]
      by_cases q0 : q = 0
      · subst q0
        simp [pvo]
      have g1 : (1 : Int) ≤ q := by omega
      have g2 : ¬ (q : Int) ≤ 3 := by omega
      have g3 : (4 : Int) ≤ q := by omega
      by_cases q7 : (q : Int) ≤ 7
      · have lp : (os.length : Int) ≤ (p : Int) + 1 := by omega
        simp [g1, g2, g3, q7, nts_len, lp, pvo]
      · simp [g1, g2, g3, q7, pvo]
    rw [if_neg bad]
    have g1 : (1 : Int) ≤ q := by omega
    have g2 : ¬ (q : Int) ≤ 3 := by omega
    have g3 : (4 : Int) ≤ q := by omega
    have g4 : (q : Int) ≤ 7 := by omega
    have g5 : ¬ (os.length : Int) ≤ (p : Int) + 1 := by omega
    by_cases q6 : q < 6
    · have q6' : (q : Int) < 6 := by omega
      rw [if_pos q6]
      have nm := (num.resolve_left (by omega)).resolve_left (by omega)
      simp [g1, g2, g3, g4, nts_len, g5, q6', nm]
    · have q6' : ¬ (q : Int) < 6 := by omega
      rw [if_neg q6]
      by_cases q66 : q = 6
      · subst q66
        have nm := str.resolve_left (by omega)
        simp [nts_len, g5, nm]
      · rw [if_neg q66]
        have q7 : ¬ (q : Int) = 6 := by omega
        have nm := its.resolve_left (by omega)
        simp [g1, g2, g3, g4, nts_len, g5, q6', q7, nm]
end K69

/-! S69: the law's own reading. -/
namespace K69
open PySem EV
variable {k : Nat} {S : Sto}
theorem law_signs : cl (k + 1) 23 [] S = .ok (.str SG) S := by
  rw [run_ (f := ⟨0, 0, b_law_signs⟩) rfl rfl]
  simp [b_law_signs, envOf, SG]
def lrB : Ss := (.cons (.set (.nm 9) (.ite (.val (.cmp .isn (.var 6) (.cst .non))) (.call 24 (.cons (.var 0) (.cons (.var 7) (.cons (.bin .add (.var 2) (.cst (.int 1))) .nil)))) (.cst .non))) (.cons (.set (.two 6 7) (.ite (.and (.val (.cmp .isn (.var 9) (.cst .non))) (.val (.cmp .isn (.var 6) (.cst .non)))) (.tup (.cons (.bin .add (.var 6) (.tup (.cons (.idx (.var 9) (.cst (.int 0))) .nil))) (.cons (.idx (.var 9) (.cst (.int 1))) .nil))) (.tup (.cons (.cst .non) (.cons (.var 7) .nil))))) .nil))
section
variable {os : List Nat} {deep : Nat} {r : Nat → Option (PV × Nat)} {a1 a3 a4 a5 a10 a11 a12 : Option SV}
theorem lr_none : ∀ (xs : List PV) (pl : PV) (t u : Option SV), ∃ t' u', forGo (.nm 8) (exSs (cl k) lrB) .no xs [some (.val (.tup (nts os))), a1, some (.val (.int deep)), a3, a4, a5, some (.val .non), some (.val pl), t, u, a10, a11, a12] S =
    .ok (.next [some (.val (.tup (nts os))), a1, some (.val (.int deep)), a3, a4, a5, some (.val .non), some (.val pl), t', u', a10, a11, a12]) S
  | [], pl, t, u => ⟨t, u, by simp⟩
  | x :: xs, pl, t, u => by
    obtain ⟨t', u', ih⟩ := lr_none xs pl (some (.val x)) (some (.val .non))
    refine ⟨t', u', ?_⟩
    have s2 : 2 ≤ sizeLine := by decide
    have st : exSs (cl k) lrB [some (.val (.tup (nts os))), a1, some (.val (.int deep)), a3, a4, a5, some (.val .non), some (.val pl), some (.val x), u, a10, a11, a12] S =
        .ok (.next [some (.val (.tup (nts os))), a1, some (.val (.int deep)), a3, a4, a5, some (.val .non), some (.val pl), some (.val x), some (.val .non), a10, a11, a12]) S := by
      simp [lrB, s2]
    simp only [for_cons, as_nm, o_some, r_ok, List.set, st, go_next, ih]
theorem lr_loop (R : ∀ q : Nat, cl k 24 [.tup (nts os), .int q, .int ((deep : Int) + 1)] S = .ok (pvo (r q)) S) : ∀ (xs acc : List PV) (q : Nat) (t u : Option SV), acc.length + xs.length ≤ 1000 →
    ∃ fd pl t' u', forGo (.nm 8) (exSs (cl k) lrB) .no xs [some (.val (.tup (nts os))), a1, some (.val (.int deep)), a3, a4, a5, some (.val (.tup acc)), some (.val (.int q)), t, u, a10, a11, a12] S =
      .ok (.next [some (.val (.tup (nts os))), a1, some (.val (.int deep)), a3, a4, a5, some (.val fd), some (.val pl), t', u', a10, a11, a12]) S ∧ (match rdLoop r xs.length q with
        | none => fd = .non
        | some (vs, q') => fd = .tup (acc ++ vs) ∧ pl = .int q')
  | [], acc, q, t, u, _ => ⟨.tup acc, .int q, t, u, by simp, by simp [rdLoop]⟩
  | x :: xs, acc, q, t, u, h => by
    simp only [List.length_cons] at h
    have Rq := R q
    have s2 : 2 ≤ sizeLine := by decide
    have s1 : 1 ≤ sizeLine := by decide
    simp only [List.length_cons, rdLoop]
    cases hr : r q with
    | none =>
      rw [hr] at Rq
      have st : exSs (cl k) lrB [some (.val (.tup (nts os))), a1, some (.val (.int deep)), a3, a4, a5, some (.val (.tup acc)), some (.val (.int q)), some (.val x), u, a10, a11, a12] S =
          .ok (.next [some (.val (.tup (nts os))), a1, some (.val (.int deep)), a3, a4, a5, some (.val .non), some (.val (.int q)), some (.val x), some (.val .non), a10, a11, a12]) S := by
        simp [lrB, Rq, pvo, s2]
      obtain ⟨t', u', ih⟩ := lr_none (k := k) (S := S) (os := os) (deep := deep) (a1 := a1) (a3 := a3) (a4 := a4) (a5 := a5) (a10 := a10) (a11 := a11) (a12 := a12) xs (.int q) (some (.val x)) (some (.val .non))
      exact ⟨.non, .int q, t', u', by simp only [for_cons, as_nm, o_some, r_ok, List.set, st, go_next, ih], rfl⟩
    | some vq =>
      obtain ⟨v, q1⟩ := vq
      rw [hr] at Rq
      have s3 : acc.length + 1 ≤ sizeLine := by
        have : 1001 ≤ sizeLine := by decide
        omega
      have st : exSs (cl k) lrB [some (.val (.tup (nts os))), a1, some (.val (.int deep)), a3, a4, a5, some (.val (.tup acc)), some (.val (.int q)), some (.val x), u, a10, a11, a12] S =
          .ok (.next [some (.val (.tup (nts os))), a1, some (.val (.int deep)), a3, a4, a5, some (.val (.tup (acc ++ [v]))), some (.val (.int q1)), some (.val x), some (.val (.tup [v, .int q1])), a10, a11, a12]) S := by
        simp [lrB, Rq, pvo, at2_0, at2_1, s1, s2, s3]
      obtain ⟨fd, pl, t', u', ih, hm⟩ := lr_loop R xs (acc ++ [v]) q1 (some (.val x)) (some (.val (.tup [v, .int q1]))) (by simp; omega)
      refine ⟨fd, pl, t', u', by simp only [for_cons, as_nm, o_some, r_ok, List.set, st, go_next, ih], ?_⟩
      simp only
      cases hl : rdLoop r xs.length q1 with
      | none =>
        rw [hl] at hm
        exact hm
      | some w =>
        rw [hl] at hm
        simp only at hm ⊢
        rw [List.append_assoc] at hm
        exact hm
end
def lnB : Ss := (.cons (.set (.nm 11) (.bin .add (.bin .mul (.var 11) (.cst (.int 256))) (.var 12))) .nil)
theorem ln_loop : ∀ (ds : List Nat) (a0 a1 a2 a3 a4 a5 a6 a7 a8 a9 a10 : Option SV) (n : Nat) (x : Option SV), ∃ x', forGo (.nm 12) (exSs (cl k) lnB) .no (nts ds) [a0, a1, a2, a3, a4, a5, a6, a7, a8, a9, a10, some (.val (.int n)), x] S =
    .ok (.next [a0, a1, a2, a3, a4, a5, a6, a7, a8, a9, a10, some (.val (.int (ds.foldl (fun a d => a * 256 + d) n : Nat))), x']) S
  | [], a0, a1, a2, a3, a4, a5, a6, a7, a8, a9, a10, n, x => ⟨x, by simp [nts]⟩
  | y :: r, a0, a1, a2, a3, a4, a5, a6, a7, a8, a9, a10, n, x => by
    obtain ⟨x', ih⟩ := ln_loop r a0 a1 a2 a3 a4 a5 a6 a7 a8 a9 a10 (n * 256 + y) (some (.val (.int y)))
    refine ⟨x', ?_⟩
    have st : exSs (cl k) lnB [a0, a1, a2, a3, a4, a5, a6, a7, a8, a9, a10, some (.val (.int n)), some (.val (.int y))] S = .ok (.next [a0, a1, a2, a3, a4, a5, a6, a7, a8, a9, a10, some (.val (.int ((n * 256 + y : Nat) : Int))), some (.val (.int y))]) S := by
      simp [lnB]
    have e : nts (y :: r) = .int (y : Int) :: nts r := rfl
    rw [e]
    simp only [for_cons, as_nm, o_some, r_ok, List.set, st, go_next, ih, List.foldl_cons]
/-! the parts of the body -/
def lr7 : Ss := (.cons (.par 6 7 false false (.tup .nil) (.bin .add (.var 1) (.cst (.int 2)))) (.cons (.for (.nm 8) (.rng (.ite (.and (.val (.cmp .le (.var 4) (.cst (.int 64)))) (.val (.cmp .le (.var 2) (.cst (.int 40))))) (.var 4) (.cst (.int 0)))) lrB) (.cons (.ret (.ite (.and (.val (.cmp .isn (.var 6) (.cst .non))) (.and (.val (.cmp .le (.var 4) (.cst (.int 64)))) (.val (.cmp .le (.var 2) (.cst (.int 40)))))) (.tup (.cons (.var 6) (.cons (.var 7) .nil))) (.cst .non))) .nil)))
theorem lr_items {os : List Nat} {p deep z : Nat} {a3 a5 : Option SV} {r : Nat → Option (PV × Nat)} (R : deep ≤ 40 → ∀ q : Nat, cl k 24 [.tup (nts os), .int q, .int ((deep : Int) + 1)] S = .ok (pvo (r q)) S) :
    exSs (cl k) lr7 [some (.val (.tup (nts os))), some (.val (.int p)), some (.val (.int deep)), a3, some (.val (.int z)), a5, none, none, none, none, none, none, none] S = .ok (.ret (pvo (rdItems r z p deep))) S := by
  unfold rdItems
  have e0 : (0 : Nat) ≤ sizeLine := by decide
  have s2 : 2 ≤ sizeLine := by decide
  have g0 : rngOk 0 := rngOk_of (by omega) (by omega)
  have r0 : rangeL 0 = [] := rfl
  by_cases c1 : 64 < z
  · have c1' : ¬ (z : Int) ≤ 64 := by omega
    rw [if_pos (.inl c1)]
    simp [lr7, e0, c1', g0, r0, pvo]
  have c1' : (z : Int) ≤ 64 := by omega
  by_cases c2 : 40 < deep
  · have c2' : ¬ (deep : Int) ≤ 40 := by omega
    rw [if_pos (.inr c2)]
    simp [lr7, e0, c1', c2', g0, r0, pvo]
  have c2' : (deep : Int) ≤ 40 := by omega
  rw [if_neg (fun z => by rcases z with z | z; exact c1 z; exact c2 z)]
  have g2 : rngOk z := rngOk_of (by omega) (by omega)
  have hl : (rangeL z).length = z := by simp [rangeL]
  obtain ⟨fd, pl, t', u', lp, hm⟩ := lr_loop (k := k) (S := S) (a1 := some (.val (.int p))) (a3 := a3) (a4 := some (.val (.int z))) (a5 := a5) (a10 := none) (a11 := none) (a12 := none) (R (by omega)) (rangeL z) [] (p + 2) none none (by rw [hl]; simp; omega)
  rw [hl] at hm
  have ep : ((p + 2 : Nat) : Int) = (p : Int) + 2 := by omega
  rw [ep] at lp
  cases hq : rdLoop r z (p + 2) with
  | none =>
    rw [hq] at hm
    simp only at hm
    subst hm
    simp [lr7, e0, c1', c2', g2, lp, pvo, -for_cons]
  | some vs =>
    obtain ⟨vs, q⟩ := vs
    rw [hq] at hm
    obtain ⟨h1, h2⟩ := hm
    subst h1 h2
    simp [lr7, e0, c1', c2', g2, lp, pvo, s2, -for_cons]
def elN : T := .or (.not (.val (.chn .le .le (.cst (.int 32)) (.var 10) (.cst (.int 126))))) (.val (.cmp .isin (.var 10) (.tup (.cons (.cst (.int 37)) (.cons (.cst (.int 39)) .nil)))))
theorem eln_ok {a0 a1 a2 a3 a4 a5 a6 a7 a8 a9 a11 a12 : Option SV} (x : Nat) : evT (cl k) elN [a0, a1, a2, a3, a4, a5, a6, a7, a8, a9, some (.val (.int x)), a11, a12] S = .ok (!okC x) S := by
  have b1 : decide ((37 : Int) = (x : Int)) = decide (x = 37) := by simp; omega
  have b2 : decide ((39 : Int) = (x : Int)) = decide (x = 39) := by simp; omega
  have s2 : 2 ≤ sizeLine := by decide
  by_cases h1 : 32 ≤ x
  · have g1 : (32 : Int) ≤ x := by omega
    by_cases h2 : x ≤ 126
    · have g2 : (x : Int) ≤ 126 := by omega
      simp [elN, okC, h1, h2, g1, g2, b1, b2, s2, Bool.decide_or]
    · have g2 : ¬ (x : Int) ≤ 126 := by omega
      simp [elN, okC, h1, h2, g1, g2]
  · have g1 : ¬ (32 : Int) ≤ x := by omega
    simp [elN, okC, h1, g1]
theorem lays_ones {α : Type} (l : List α) : lays (l.map fun _ => PV.int 1) 63 = true := by
  rw [lays_mem]
  intro x hx
  obtain ⟨a, _, rfl⟩ := List.mem_map.mp hx
  rfl
def lr6 : Ss := (.cons (.cnd (.or (.val (.cmp .gt (.var 4) (.cst (.int 40)))) (.val (.cmp .ne (.lc (.nm 10) (.seq (.var 5)) (.so elN) (.cst (.int 1)) [10]) (.lst .nil)))) (.cons (.ret (.cst .non)) .nil) .nil) (.cons (.ret (.tup (.cons (.join (.cst (.str "")) (.lc (.nm 10) (.seq (.var 5)) .no (.idx (.call 23 .nil) (.bin .sub (.var 10) (.cst (.int 32)))) [10])) (.cons (.bin .add (.bin .add (.var 1) (.cst (.int 2))) (.var 4)) .nil)))) .nil))
theorem lr_text {os : List Nat} {p z : Nat} {a0 a2 a3 : Option SV} (hz : (row os (p + 2) z).length ≤ 1000000) (hf : ¬ (row os (p + 2) z).length < z) :
    exSs (cl (k + 1)) lr6 [a0, some (.val (.int p)), a2, a3, some (.val (.int z)), some (.val (.tup (nts (row os (p + 2) z)))), none, none, none, none, none, none, none] S = .ok (.ret (pvo (rdStr os p z))) S := by
  have rl := row_len os (p + 2) z
  unfold rdStr
  generalize row os (p + 2) z = ds at hz hf rl
  have nl := nts_len ds
  have s0' : ds.length ≤ sizeLine := by
    have : 1000000 ≤ sizeLine := by decide
    omega
  have e0 : (0 : Nat) ≤ sizeLine := by decide
  by_cases c2 : 40 < z
  · rw [if_pos (.inr (.inl c2))]
    have c2' : (40 : Int) < z := by omega
    simp [lr6, c2', pvo]
  have c2' : ¬ (40 : Int) < z := by omega
  have lc := lc_pure (g := .nm 10) (t := evTo (cl (k + 1)) (.so elN)) (e := evE (cl (k + 1)) false (.cst (.int 1))) (ρ := [a0, some (.val (.int p)), a2, a3, some (.val (.int z)), some (.val (.tup (nts ds))), none, none, none, none, none, none, none]) (S := S)
    (fun x => !okC (asNat x)) (fun _ => .int 1) (nts ds) [] fun x hx => by
      obtain ⟨n, hn, rfl⟩ := List.mem_map.mp hx
      refine ⟨_, rfl, ?_, fun _ => by simp⟩
      rw [to_so]
      exact eln_ok n
  have ne := c_nenil (S := S) (lays_ones ((nts ds).filter fun x => !okC (asNat x)))
  have em : (((nts ds).filter fun x => !okC (asNat x)).map fun _ => PV.int 1).isEmpty = !(ds.any fun c => !okC c) := by
    rw [List.isEmpty_map]
    clear lc ne hf rl nl s0' hz
    induction ds with
    | nil => rfl
    | cons c r ih =>
      have e : nts (c :: r) = .int (c : Int) :: nts r := rfl
      have e2 : asNat (.int (c : Int)) = c := rfl
      rw [e, List.filter_cons, e2, List.any_cons]
      cases okC c with
      | true => simpa using ih
      | false => simp
  rw [em] at ne
  simp only [List.nil_append] at lc
  have cond : evT (cl (k + 1)) (.or (.val (.cmp .gt (.var 4) (.cst (.int 40)))) (.val (.cmp .ne (.lc (.nm 10) (.seq (.var 5)) (.so elN) (.cst (.int 1)) [10]) (.lst .nil))))
      [a0, some (.val (.int p)), a2, a3, some (.val (.int z)), some (.val (.tup (nts ds))), none, none, none, none, none, none, none] S = .ok (ds.any fun c => !okC c) S := by
    generalize (((nts ds).filter fun x => !okC (asNat x)).map fun _ => PV.int 1) = Q at lc ne
    simp [c2', nl, s0', wipe, lc, ne, e0, -to_so, -lc_cons]
  by_cases c3 : (ds.any fun c => !okC c) = true
  · rw [if_pos (.inr (.inr c3))]
    rw [c3] at cond
    simp [lr6, cond, pvo, -t_or]
  · rw [if_neg (fun z => by rcases z with z | z | z; exact hf z; exact c2 z; exact c3 z)]
    have c4 : ∀ c ∈ ds, okC c = true := by
      intro c hc
      cases ho : okC c with
      | true => rfl
      | false => exact absurd (List.any_eq_true.mpr ⟨c, hc, by rw [ho]; rfl⟩) c3
    rw [Bool.eq_false_iff.mpr c3] at cond
    have lj : lcGo (.nm 10) (evTo (cl (k + 1)) .no) (evE (cl (k + 1)) false (.idx (.call 23 .nil) (.bin .sub (.var 10) (.cst (.int 32))))) .no [a0, some (.val (.int p)), a2, a3, some (.val (.int z)), some (.val (.tup (nts ds))), none, none, none, none, none, none, none] (nts ds) [] S = .ok (ds.map fun c => .str ⟨#[c]⟩) S := by
      have := lc_map (g := .nm 10) (cal := cl (k + 1)) (e := evE (cl (k + 1)) false (.idx (.call 23 .nil) (.bin .sub (.var 10) (.cst (.int 32))))) (ρ := [a0, some (.val (.int p)), a2, a3, some (.val (.int z)), some (.val (.tup (nts ds))), none, none, none, none, none, none, none]) (S := S) (fun x => .str ⟨#[asNat x]⟩) (nts ds) fun x hx => by
        obtain ⟨n, hn, rfl⟩ := List.mem_map.mp hx
        refine ⟨_, rfl, ?_⟩
        have := sg_at (S := S) (c4 n hn)
        simp [this, asNat, law_signs]
      rw [this]
      unfold nts
      rw [List.map_map]
      rfl
    have jp := joinP_one ds (by omega)
    have so := strs_one ds
    have s2 : 2 ≤ sizeLine := by decide
    simp [lr6, cond, pvo, -t_or, nl, s0', wipe, lj, so, jp, s2]
def lrN : Ss := (.cons (.set (.nm 11) (.cst (.int 0))) (.cons (.for (.nm 12) (.seq (.var 5)) lnB) (.cons (.cnd (.or (.and (.val (.cmp .gt (.var 4) (.cst (.int 0)))) (.val (.cmp .eq (.idx (.var 5) (.cst (.int 0))) (.cst (.int 0))))) (.or (.and (.val (.cmp .eq (.var 4) (.cst (.int 0)))) (.val (.cmp .eq (.var 3) (.cst (.int 5))))) (.val (.cmp .gt (.var 11) (.bin .pow (.cst (.int 10)) (.cst (.int 12))))))) (.cons (.ret (.cst .non)) .nil) .nil) (.cons (.ret (.tup (.cons (.ite (.val (.cmp .eq (.var 3) (.cst (.int 4)))) (.var 11) (.neg (.var 11))) (.cons (.bin .add (.bin .add (.var 1) (.cst (.int 2))) (.var 4)) .nil)))) .nil))))
theorem lr_num {os : List Nat} {p z q : Nat} {a0 a2 : Option SV} (hq : q = 4 ∨ q = 5) (hf : ¬ (row os (p + 2) z).length < z) :
    exSs (cl k) lrN [a0, some (.val (.int p)), a2, some (.val (.int q)), some (.val (.int z)), some (.val (.tup (nts (row os (p + 2) z)))), none, none, none, none, none, none, none] S = .ok (.ret (pvo (rdNum os p q z))) S := by
  have rl := row_len os (p + 2) z
  unfold rdNum
  generalize row os (p + 2) z = ds at hf rl
  have nl := nts_len ds
  have s2 : 2 ≤ sizeLine := by decide
  obtain ⟨x', lp⟩ := ln_loop (k := k) (S := S) ds a0 (some (.val (.int p))) a2 (some (.val (.int q))) (some (.val (.int z))) (some (.val (.tup (nts ds)))) none none none none none 0 none
  have lp2 : forGo (.nm 12) (exSs (cl k) lnB) .no (nts ds) [a0, some (.val (.int p)), a2, some (.val (.int q)), some (.val (.int z)), some (.val (.tup (nts ds))), none, none, none, none, none, some (.val (.int 0)), none] S =
    .ok (.next [a0, some (.val (.int p)), a2, some (.val (.int q)), some (.val (.int z)), some (.val (.tup (nts ds))), none, none, none, none, none, some (.val (.int (numOf ds : Nat))), x']) S := lp
  generalize numOf ds = nn at lp2
  have cond : evT (cl k) (.or (.and (.val (.cmp .gt (.var 4) (.cst (.int 0)))) (.val (.cmp .eq (.idx (.var 5) (.cst (.int 0))) (.cst (.int 0))))) (.or (.and (.val (.cmp .eq (.var 4) (.cst (.int 0)))) (.val (.cmp .eq (.var 3) (.cst (.int 5))))) (.val (.cmp .gt (.var 11) (.bin .pow (.cst (.int 10)) (.cst (.int 12)))))))
      [a0, some (.val (.int p)), a2, some (.val (.int q)), some (.val (.int z)), some (.val (.tup (nts ds))), none, none, none, none, none, some (.val (.int nn)), x'] S = .ok (decide ((0 < z ∧ ds.getD 0 0 = 0) ∨ (z = 0 ∧ q = 5) ∨ 1000000000000 < nn)) S := by
    have gb : decide ((1000000000000 : Int) < nn) = decide (1000000000000 < nn) := by
      by_cases h : 1000000000000 < nn
      · have h2 : (1000000000000 : Int) < nn := by omega
        simp only [h, h2]
      · have h2 : ¬ (1000000000000 : Int) < nn := by omega
        simp only [h, h2]
    by_cases z0 : z = 0
    · subst z0
      have n0 : ¬ (0 : Int) < ((0 : Nat) : Int) := by omega
      rcases hq with rfl | rfl
      · simp [gb]
      · simp
    · have z1 : 0 < z := by omega
      have z2 : (0 : Int) < z := by omega
      have z3 : ¬ (z : Int) = 0 := by omega
      have ar := at_row (ds := ds) (by omega)
      generalize ds.getD 0 0 = y at ar
      by_cases y0 : y = 0
      · subst y0
        simp [z1, ar]
      · have y1 : ¬ (y : Int) = 0 := by omega
        simp [z1, ar, y0, z0, gb]
  generalize hb : decide ((0 < z ∧ ds.getD 0 0 = 0) ∨ (z = 0 ∧ q = 5) ∨ 1000000000000 < nn) = b at cond
  cases b with
  | true =>
    have h := of_decide_eq_true hb
    rw [if_pos (.inr h)]
    simp [lrN, lp2, cond, pvo, -t_or, -t_and]
  | false =>
    have h := of_decide_eq_false hb
    rw [if_neg (fun z => by rcases z with z | z; exact hf z; exact h z)]
    by_cases q4 : q = 4
    · have e4 : decide ((q : Int) = 4) = true := decide_eq_true (by omega)
      simp only [lrN, ss_cons, s_set', s_for', i_seq, s_cnd', s_ret', e_cst, e_var, e_tup, e_ite, e_neg, e_cmp, e_bin, t_val, es_cons, es_nil, List.getElem?_cons_zero, List.getElem?_cons_succ, r_ok, o_some, as_nm, go_next, go_ret, List.set, it_tup, lp2, cond, c_eqi, e4, tr_bl, if_true, Bool.false_eq_true, if_false, b_add, ss_nil, List.length_cons, List.length_nil, s2, if_pos q4, pvo]
      rfl
    · have e4 : decide ((q : Int) = 4) = false := decide_eq_false (by omega)
      simp only [lrN, ss_cons, s_set', s_for', i_seq, s_cnd', s_ret', e_cst, e_var, e_tup, e_ite, e_neg, e_cmp, e_bin, t_val, es_cons, es_nil, List.getElem?_cons_zero, List.getElem?_cons_succ, r_ok, o_some, as_nm, go_next, go_ret, List.set, it_tup, lp2, cond, c_eqi, e4, tr_bl, if_true, Bool.false_eq_true, if_false, b_add, ss_nil, List.length_cons, List.length_nil, s2, asInt_ap, if_neg q4, pvo]
      rfl
theorem rd_succ (f : Nat) (os : List Nat) (p deep : Nat) : rd (f + 1) os p deep = (if os.getD p 0 = 1 then some (.non, p + 1) else if os.getD p 0 = 2 then some (.bl false, p + 1) else if os.getD p 0 = 3 then some (.bl true, p + 1)
    else if os.getD p 0 < 4 ∨ 7 < os.getD p 0 ∨ os.length ≤ p + 1 then none
    else if os.getD p 0 < 6 then rdNum os p (os.getD p 0) (os.getD (p + 1) 0)
    else if os.getD p 0 = 6 then rdStr os p (os.getD (p + 1) 0)
    else rdItems (fun q => rd f os q (deep + 1)) (os.getD (p + 1) 0) p deep) := rfl
theorem law_read (os : List Nat) (hz : os.length ≤ 1000000) : ∀ (f p deep : Nat), 42 ≤ deep + f → 1 ≤ f → cl (k + f + 1) 24 [.tup (nts os), .int p, .int deep] S = .ok (pvo (rd f os p deep)) S
  | 0, p, deep, _, h => by omega
  | f + 1, p, deep, hd, _ => by
    have e : cl (k + (f + 1) + 1) 24 [.tup (nts os), .int p, .int deep] S = cl ((k + f + 1) + 1) 24 [.tup (nts os), .int p, .int deep] S := by rw [show k + (f + 1) + 1 = (k + f + 1) + 1 from by omega]
    rw [e, run_ (f := ⟨3, 13, b_law_read⟩) rfl rfl]
    have s4 : 4 ≤ sizeLine := by decide
    have s3 : 3 ≤ sizeLine := by decide
    have s2 : 2 ≤ sizeLine := by decide
    have at_ : ∀ {c d e f' g h i j l : Option SV}, evE (cl (k + f + 1)) false (.ite (.val (.cmp .lt (.var 1) (.blt .len (.cons (.var 0) .nil)))) (.idx (.var 0) (.var 1)) (.cst (.int 0))) [some (.val (.tup (nts os))), some (.val (.int p)), some (.val (.int deep)), c, d, e, f', g, h, i, j, l, none] S = .ok (.int (os.getD p 0 : Nat)) S := by
      intro c d e f' g h i j l
      by_cases h : p < os.length
      · have h0 := at_nts (os := os) (p := p) h
        simp [nts_len, h, h0]
      · have e : os.getD p 0 = 0 := by simp [List.getD, List.getElem?_eq_none (by omega : os.length ≤ p)]
        rw [e]
        simp [nts_len, h]
    have its : os.length ≤ p + 1 ∨ ∀ a3 a5 : Option SV, exSs (cl (k + f + 1)) lr7 [some (.val (.tup (nts os))), some (.val (.int p)), some (.val (.int deep)), a3, some (.val (.int (os.getD (p + 1) 0 : Nat))), a5, none, none, none, none, none, none, none] S = .ok (.ret (pvo (rdItems (fun q => rd f os q (deep + 1)) (os.getD (p + 1) 0) p deep))) S := by
      by_cases h1 : os.length ≤ p + 1
      · exact .inl h1
      · refine .inr fun a3 a5 => lr_items fun h40 q => ?_
        have := law_read os hz f q (deep + 1) (by omega) (by omega)
        simpa using this
    have str : ∀ a0 a2 a3 : Option SV, ¬ (row os (p + 2) (os.getD (p + 1) 0)).length < os.getD (p + 1) 0 → exSs (cl (k + f + 1)) lr6 [a0, some (.val (.int p)), a2, a3, some (.val (.int (os.getD (p + 1) 0 : Nat))), some (.val (.tup (nts (row os (p + 2) (os.getD (p + 1) 0))))), none, none, none, none, none, none, none] S = .ok (.ret (pvo (rdStr os p (os.getD (p + 1) 0)))) S := fun a0 a2 a3 hf =>
      lr_text (k := k + f) (by
        have : (row os (p + 2) (os.getD (p + 1) 0)).length ≤ os.length := by
          unfold row
          rw [List.length_take, List.length_drop]
          omega
        omega) hf
    have num : ∀ (a0 a2 : Option SV), (os.getD p 0 = 4 ∨ os.getD p 0 = 5) → ¬ (row os (p + 2) (os.getD (p + 1) 0)).length < os.getD (p + 1) 0 → exSs (cl (k + f + 1)) lrN [a0, some (.val (.int p)), a2, some (.val (.int (os.getD p 0 : Nat))), some (.val (.int (os.getD (p + 1) 0 : Nat))), some (.val (.tup (nts (row os (p + 2) (os.getD (p + 1) 0))))), none, none, none, none, none, none, none] S = .ok (.ret (pvo (rdNum os p (os.getD p 0) (os.getD (p + 1) 0)))) S := fun a0 a2 hq hf => lr_num hq hf
    have cut : os.length ≤ p + 1 ∨ (L2.atI (nts os) ((p : Int) + 1) = some (.int (os.getD (p + 1) 0 : Nat)) ∧ cutP (nts os) (some ((p : Int) + 2)) (some ((p : Int) + 2 + (os.getD (p + 1) 0 : Nat))) = nts (row os (p + 2) (os.getD (p + 1) 0))) := by
      by_cases h1 : os.length ≤ p + 1
      · exact .inl h1
      · exact .inr ⟨at_nts1 (by omega), cut_nts2 (by omega)⟩
    have shortS : (row os (p + 2) (os.getD (p + 1) 0)).length < os.getD (p + 1) 0 → rdStr os p (os.getD (p + 1) 0) = none := fun h => if_pos (.inl h)
    have shortN : (row os (p + 2) (os.getD (p + 1) 0)).length < os.getD (p + 1) 0 → rdNum os p (os.getD p 0) (os.getD (p + 1) 0) = none := fun h => if_pos (.inl h)
    rw [rd_succ]
    generalize rdItems (fun q => rd f os q (deep + 1)) (os.getD (p + 1) 0) p deep = IT at its
    generalize rdStr os p (os.getD (p + 1) 0) = ST at str shortS
    generalize rdNum os p (os.getD p 0) (os.getD (p + 1) 0) = NM at num shortN
    generalize row os (p + 2) (os.getD (p + 1) 0) = ds at str num cut shortS shortN
    generalize os.getD (p + 1) 0 = z at its str num cut shortS shortN
    generalize os.getD p 0 = q at at_ num
    rw [show envOf ⟨3, 13, b_law_read⟩ [.tup (nts os), .int p, .int deep] = [some (.val (.tup (nts os))), some (.val (.int p)), some (.val (.int deep)), none, none, none, none, none, none, none, none, none, none] from rfl]
    have start : ∀ rest : Ss, exSs (cl (k + f + 1)) (.cons (.set (.nm 3) (.ite (.val (.cmp .lt (.var 1) (.blt .len (.cons (.var 0) .nil)))) (.idx (.var 0) (.var 1)) (.cst (.int 0)))) rest) [some (.val (.tup (nts os))), some (.val (.int p)), some (.val (.int deep)), none, none, none, none, none, none, none, none, none, none] S =
        exSs (cl (k + f + 1)) rest [some (.val (.tup (nts os))), some (.val (.int p)), some (.val (.int deep)), some (.val (.int q)), none, none, none, none, none, none, none, none, none] S := fun rest => by
      rw [ss_cons, s_set', at_]
      simp only [r_ok, as_nm, o_some, go_next, List.set]
    have bd : b_law_read = .cons (.set (.nm 3) (.ite (.val (.cmp .lt (.var 1) (.blt .len (.cons (.var 0) .nil)))) (.idx (.var 0) (.var 1)) (.cst (.int 0)))) (.cons (.cnd (.val (.cmp .isin (.var 3) (.tup (.cons (.cst (.int 1)) (.cons (.cst (.int 2)) (.cons (.cst (.int 3)) .nil)))))) (.cons (.ret (.tup (.cons (.ite (.val (.cmp .eq (.var 3) (.cst (.int 1)))) (.cst .non) (.cmp .eq (.var 3) (.cst (.int 3)))) (.cons (.bin .add (.var 1) (.cst (.int 1))) .nil)))) .nil) .nil)
      (.cons (.cnd (.or (.val (.cmp .nin (.var 3) (.tup (.cons (.cst (.int 4)) (.cons (.cst (.int 5)) (.cons (.cst (.int 6)) (.cons (.cst (.int 7)) .nil))))))) (.val (.cmp .ge (.bin .add (.var 1) (.cst (.int 1))) (.blt .len (.cons (.var 0) .nil))))) (.cons (.ret (.cst .non)) .nil) .nil)
      (.cons (.par 4 5 false false (.idx (.var 0) (.bin .add (.var 1) (.cst (.int 1)))) (.sli (.var 0) (.so (.bin .add (.var 1) (.cst (.int 2)))) (.so (.bin .add (.bin .add (.var 1) (.cst (.int 2))) (.idx (.var 0) (.bin .add (.var 1) (.cst (.int 1))))))))
      (.cons (.cnd (.val (.cmp .eq (.var 3) (.cst (.int 7)))) lr7 .nil) (.cons (.cnd (.val (.cmp .lt (.blt .len (.cons (.var 5) .nil)) (.var 4))) (.cons (.ret (.cst .non)) .nil) .nil) (.cons (.cnd (.val (.cmp .eq (.var 3) (.cst (.int 6)))) lr6 .nil) lrN)))))) := rfl
    rw [bd]
    show (exSs (cl (k + f + 1)) _ _ S).bind _ = _
    rw [start]
    clear start at_ bd
    by_cases q1 : q = 1
    · subst q1
      simp [s3, s2, pvo]
    by_cases q2 : q = 2
    · subst q2
      simp [s3, s2, pvo]
    by_cases q3 : q = 3
    · subst q3
      simp [s3, s2, pvo]
    rw [if_neg q1, if_neg q2, if_neg q3]
    have n1 : ¬ (1 : Int) = q := by omega
    have n2 : ¬ (2 : Int) = q := by omega
    have n3 : ¬ (3 : Int) = q := by omega
    by_cases bad : q < 4 ∨ 7 < q ∨ os.length ≤ p + 1
    · rw [if_pos bad]
      by_cases qi : q < 4 ∨ 7 < q
      · have n4 : ¬ (4 : Int) = q := by omega
        have n5 : ¬ (5 : Int) = q := by omega
        have n6 : ¬ (6 : Int) = q := by omega
        have n7 : ¬ (7 : Int) = q := by omega
        simp [s3, s4, n1, n2, n3, n4, n5, n6, n7, pvo]
      · have lp : (os.length : Int) ≤ (p : Int) + 1 := by omega
        have q4567 : q = 4 ∨ q = 5 ∨ q = 6 ∨ q = 7 := by omega
        rcases q4567 with rfl | rfl | rfl | rfl <;> simp [s3, s4, nts_len, lp, pvo]
    rw [if_neg bad]
    have g5 : ¬ (os.length : Int) ≤ (p : Int) + 1 := by omega
    obtain ⟨u1, u2⟩ := cut.resolve_left (by omega)
    have it7 := its.resolve_left (by omega)
    have nl := nts_len ds
    have q4567 : q = 4 ∨ q = 5 ∨ q = 6 ∨ q = 7 := by omega
    have d1 : decide ((1 : Int) = q) = false := decide_eq_false n1
    have d2 : decide ((2 : Int) = q) = false := decide_eq_false n2
    have d3 : decide ((3 : Int) = q) = false := decide_eq_false n3
    have dn : (decide ((4 : Int) = q) || (decide ((5 : Int) = q) || (decide ((6 : Int) = q) || (decide ((7 : Int) = q) || false)))) = true := by
      rcases q4567 with h | h | h | h <;> subst h <;> rfl
    have dg : decide ((os.length : Int) ≤ (p : Int) + 1) = false := decide_eq_false g5
    -- up to the sort
    have go1 : exSs (cl (k + f + 1)) (.cons (.cnd (.val (.cmp .isin (.var 3) (.tup (.cons (.cst (.int 1)) (.cons (.cst (.int 2)) (.cons (.cst (.int 3)) .nil)))))) (.cons (.ret (.tup (.cons (.ite (.val (.cmp .eq (.var 3) (.cst (.int 1)))) (.cst .non) (.cmp .eq (.var 3) (.cst (.int 3)))) (.cons (.bin .add (.var 1) (.cst (.int 1))) .nil)))) .nil) .nil)
      (.cons (.cnd (.or (.val (.cmp .nin (.var 3) (.tup (.cons (.cst (.int 4)) (.cons (.cst (.int 5)) (.cons (.cst (.int 6)) (.cons (.cst (.int 7)) .nil))))))) (.val (.cmp .ge (.bin .add (.var 1) (.cst (.int 1))) (.blt .len (.cons (.var 0) .nil))))) (.cons (.ret (.cst .non)) .nil) .nil)
      (.cons (.par 4 5 false false (.idx (.var 0) (.bin .add (.var 1) (.cst (.int 1)))) (.sli (.var 0) (.so (.bin .add (.var 1) (.cst (.int 2)))) (.so (.bin .add (.bin .add (.var 1) (.cst (.int 2))) (.idx (.var 0) (.bin .add (.var 1) (.cst (.int 1))))))))
      (.cons (.cnd (.val (.cmp .eq (.var 3) (.cst (.int 7)))) lr7 .nil) (.cons (.cnd (.val (.cmp .lt (.blt .len (.cons (.var 5) .nil)) (.var 4))) (.cons (.ret (.cst .non)) .nil) .nil) (.cons (.cnd (.val (.cmp .eq (.var 3) (.cst (.int 6)))) lr6 .nil) lrN))))))
      [some (.val (.tup (nts os))), some (.val (.int p)), some (.val (.int deep)), some (.val (.int q)), none, none, none, none, none, none, none, none, none] S =
      exSs (cl (k + f + 1)) (.cons (.cnd (.val (.cmp .eq (.var 3) (.cst (.int 7)))) lr7 .nil) (.cons (.cnd (.val (.cmp .lt (.blt .len (.cons (.var 5) .nil)) (.var 4))) (.cons (.ret (.cst .non)) .nil) .nil) (.cons (.cnd (.val (.cmp .eq (.var 3) (.cst (.int 6)))) lr6 .nil) lrN)))
        [some (.val (.tup (nts os))), some (.val (.int p)), some (.val (.int deep)), some (.val (.int q)), some (.val (.int z)), some (.val (.tup (nts ds))), none, none, none, none, none, none, none] S := by
      rw [ss_cons]
      have c1 : exS (cl (k + f + 1)) (.cnd (.val (.cmp .isin (.var 3) (.tup (.cons (.cst (.int 1)) (.cons (.cst (.int 2)) (.cons (.cst (.int 3)) .nil)))))) (.cons (.ret (.tup (.cons (.ite (.val (.cmp .eq (.var 3) (.cst (.int 1)))) (.cst .non) (.cmp .eq (.var 3) (.cst (.int 3)))) (.cons (.bin .add (.var 1) (.cst (.int 1))) .nil)))) .nil) .nil)
        [some (.val (.tup (nts os))), some (.val (.int p)), some (.val (.int deep)), some (.val (.int q)), none, none, none, none, none, none, none, none, none] S = .ok (.next [some (.val (.tup (nts os))), some (.val (.int p)), some (.val (.int deep)), some (.val (.int q)), none, none, none, none, none, none, none, none, none]) S := by
        simp only [s_cnd', t_val, e_cmp, e_var, e_tup, es_cons, es_nil, e_cst, List.getElem?_cons_zero, List.getElem?_cons_succ, r_ok, List.length_cons, List.length_nil, s3, if_true, c_in, inT_cons, inT_nil, Option.map_some, d1, d2, d3, Bool.or_false, o_some, tr_bl, Bool.false_eq_true, if_false, ss_nil]
      rw [c1, r_ok, go_next, ss_cons]
      have c2 : exS (cl (k + f + 1)) (.cnd (.or (.val (.cmp .nin (.var 3) (.tup (.cons (.cst (.int 4)) (.cons (.cst (.int 5)) (.cons (.cst (.int 6)) (.cons (.cst (.int 7)) .nil))))))) (.val (.cmp .ge (.bin .add (.var 1) (.cst (.int 1))) (.blt .len (.cons (.var 0) .nil))))) (.cons (.ret (.cst .non)) .nil) .nil)
        [some (.val (.tup (nts os))), some (.val (.int p)), some (.val (.int deep)), some (.val (.int q)), none, none, none, none, none, none, none, none, none] S = .ok (.next [some (.val (.tup (nts os))), some (.val (.int p)), some (.val (.int deep)), some (.val (.int q)), none, none, none, none, none, none, none, none, none]) S := by
        simp only [s_cnd', t_or, t_val, e_cmp, e_var, e_tup, es_cons, es_nil, eq_cons, eq_nil, e_cst, e_bin, e_blt, List.getElem?_cons_zero, List.getElem?_cons_succ, r_ok, List.length_cons, List.length_nil, s4, if_true, c_nin, inT_cons, inT_nil, Option.map_some, dn, Bool.not_true, o_some, tr_bl, Bool.false_eq_true, if_false, ss_nil, b_add, l_tup, c_ge, nts_len, dg]
      rw [c2, r_ok, go_next, ss_cons]
      have c3 : exS (cl (k + f + 1)) (.par 4 5 false false (.idx (.var 0) (.bin .add (.var 1) (.cst (.int 1)))) (.sli (.var 0) (.so (.bin .add (.var 1) (.cst (.int 2)))) (.so (.bin .add (.bin .add (.var 1) (.cst (.int 2))) (.idx (.var 0) (.bin .add (.var 1) (.cst (.int 1))))))))
        [some (.val (.tup (nts os))), some (.val (.int p)), some (.val (.int deep)), some (.val (.int q)), none, none, none, none, none, none, none, none, none] S = .ok (.next [some (.val (.tup (nts os))), some (.val (.int p)), some (.val (.int deep)), some (.val (.int q)), some (.val (.int z)), some (.val (.tup (nts ds))), none, none, none, none, none, none, none]) S := by
        simp only [s_par', e_idx, e_var, e_bin, e_cst, e_sli, eo_so, asInt_ap, List.getElem?_cons_zero, List.getElem?_cons_succ, r_ok, o_some, b_add, x_tup, u1, sv_f, x_slt, u2, List.set]
      rw [c3, r_ok, go_next]
    rw [go1]
    clear go1
    have d7 : decide ((q : Int) = 7) = decide (q = 7) := by
      rcases q4567 with h | h | h | h <;> subst h <;> rfl
    have d6 : decide ((q : Int) = 6) = decide (q = 6) := by
      rcases q4567 with h | h | h | h <;> subst h <;> rfl
    have dz : decide ((ds.length : Int) < z) = decide (ds.length < z) := by
      by_cases h : ds.length < z
      · have h2 : (ds.length : Int) < z := by omega
        simp only [h, h2]
      · have h2 : ¬ (ds.length : Int) < z := by omega
        simp only [h, h2]
    by_cases q7 : q = 7
    · rw [if_neg (by omega), if_neg (by omega)]
      have d7' : decide ((q : Int) = 7) = true := by rw [d7]; exact decide_eq_true q7
      simp only [ss_cons, s_cnd', t_val, e_cmp, e_var, e_cst, List.getElem?_cons_zero, List.getElem?_cons_succ, r_ok, c_eqi, d7', o_some, tr_bl, if_true, it7, go_ret]
    have d7' : decide ((q : Int) = 7) = false := by rw [d7]; exact decide_eq_false q7
    by_cases sh : ds.length < z
    · have dz' : decide ((ds.length : Int) < z) = true := by rw [dz]; exact decide_eq_true sh
      have no : (if q < 6 then NM else if q = 6 then ST else IT) = none := by
        by_cases h6 : q < 6
        · rw [if_pos h6]; exact shortN sh
        · rw [if_neg h6, if_pos (by omega)]; exact shortS sh
      rw [no]
      simp only [ss_cons, ss_nil, s_cnd', t_val, e_cmp, e_var, e_cst, e_blt, eq_cons, eq_nil, List.getElem?_cons_zero, List.getElem?_cons_succ, r_ok, c_eqi, d7', o_some, tr_bl, if_true, Bool.false_eq_true, if_false, go_next, l_tup, nl, c_lt, dz', s_ret', go_ret, pvo]
    have dz' : decide ((ds.length : Int) < z) = false := by rw [dz]; exact decide_eq_false sh
    by_cases q6 : q = 6
    · rw [if_neg (by omega), if_pos q6]
      have d6' : decide ((q : Int) = 6) = true := by rw [d6]; exact decide_eq_true q6
      have st := str (some (.val (.tup (nts os)))) (some (.val (.int deep))) (some (.val (.int q))) sh
      simp only [ss_cons, ss_nil, s_cnd', t_val, e_cmp, e_var, e_cst, e_blt, eq_cons, eq_nil, List.getElem?_cons_zero, List.getElem?_cons_succ, r_ok, c_eqi, d7', d6', o_some, tr_bl, if_true, Bool.false_eq_true, if_false, go_next, l_tup, nl, c_lt, dz', st, go_ret]
    have d6' : decide ((q : Int) = 6) = false := by rw [d6]; exact decide_eq_false q6
    rw [if_pos (by omega)]
    have st := num (some (.val (.tup (nts os)))) (some (.val (.int deep))) (by omega) sh
    simp only [ss_cons (.cnd (.val (.cmp .eq (.var 3) (.cst (.int 7)))) lr7 .nil), ss_cons (.cnd (.val (.cmp .lt (.blt .len (.cons (.var 5) .nil)) (.var 4))) (.cons (.ret (.cst .non)) .nil) .nil), ss_cons (.cnd (.val (.cmp .eq (.var 3) (.cst (.int 6)))) lr6 .nil), ss_nil, s_cnd', t_val, e_cmp, e_var, e_cst, e_blt, eq_cons, eq_nil, List.getElem?_cons_zero, List.getElem?_cons_succ, r_ok, c_eqi, d7', d6', o_some, tr_bl, if_true, Bool.false_eq_true, if_false, go_next, l_tup, nl, c_lt, dz', st, go_ret]
end K69

/-! T69: repr, read_thing. -/
namespace K69
open PySem EV
variable {k : Nat} {S : Sto}
mutual
def rep : PV → Nat → Bool
  | .tup xs, n => decide (0 < n) && reps xs (n - 1)
  | .int i, _ => decide (i.natAbs < 1000000000000000)
  | .str x, _ => PyData.strOk x
  | .non, _ => true
  | .bl _, _ => true
  | .lst _, _ => false
  | .ref _, _ => false
  | .scr _, _ => false
def reps : List PV → Nat → Bool
  | [], _ => true
  | x :: r, n => rep x n && reps r n
end
mutual
def wgt : PV → Nat
  | .tup xs => wgts xs
  | .int _ => 50
  | .str x => x.length
  | .non => 0
  | .bl _ => 0
  | .lst _ => 0
  | .ref _ => 0
  | .scr _ => 0
def wgts : List PV → Nat
  | [] => 0
  | x :: r => wgt x + 1 + wgts r
end
theorem log_50 {n : Nat} (h : n < 1000000000000000) : n.log2 + 1 ≤ 50 := by
  by_cases h0 : n = 0
  · subst h0; decide
  · have := (Nat.log2_lt h0).mpr (show n < 2 ^ 50 from Nat.lt_of_lt_of_le h (by decide))
    omega
theorem int_16 {i : Int} (h : i.natAbs < 1000000000000000) : (PyData.shown (.int i)).length ≤ 16 := by
  have e := int_text_length_le10 (k := 15) (by decide) (show i.natAbs < 10 ^ 15 from Nat.lt_of_lt_of_le h (by decide))
  show (Str.ofString (toString i)).length ≤ 16
  rw [ofString_length]
  exact e
mutual
theorem rep_d : ∀ (v : PV) (n : Nat), rep v n = true → ∃ d, toD v = some d ∧ d.canLay0 = true ∧ d.depth ≤ n ∧ d.intsShort 16 = true ∧ d.showable = true ∧ d.weight ≤ wgt v
  | .tup xs, n, h => by
    simp only [rep, Bool.and_eq_true, decide_eq_true_eq] at h
    obtain ⟨ds, h1, h2, h3, h4, h5, h6⟩ := reps_d xs (n - 1) h.2
    exact ⟨.tuple ds, by simp only [toD, h1]; rfl, by simpa only [PyData.canLay0] using h2, by simp only [PyData.depth]; omega, by simpa only [PyData.intsShort] using h4, by simpa only [PyData.showable] using h5, by simpa only [PyData.weight, wgt] using h6⟩
  | .non, n, _ => ⟨.none, rfl, rfl, Nat.zero_le _, rfl, rfl, Nat.zero_le _⟩
  | .bl b, n, _ => ⟨.bool b, rfl, rfl, Nat.zero_le _, rfl, rfl, Nat.zero_le _⟩
  | .int i, n, h => by
    have hi : i.natAbs < 1000000000000000 := by simpa [rep] using h
    have l50 := log_50 hi
    refine ⟨.int i, rfl, rfl, Nat.zero_le _, ?_, ?_, ?_⟩
    · simp only [PyData.intsShort]
      exact decide_eq_true (int_16 hi)
    · simp only [PyData.showable]
      exact decide_eq_true (by omega)
    · simp only [PyData.weight, wgt]
      split <;> omega
  | .str x, n, h => ⟨.str x, rfl, by simpa only [rep, PyData.canLay0] using h, Nat.zero_le _, rfl, rfl, Nat.le_refl _⟩
  | .lst _, n, h => by simp [rep] at h
  | .ref _, n, h => by simp [rep] at h
  | .scr _, n, h => by simp [rep] at h
theorem reps_d : ∀ (xs : List PV) (n : Nat), reps xs n = true → ∃ ds, toDs xs = some ds ∧ PyData.canLayAll0 ds = true ∧ PyData.depthAll ds ≤ n ∧ PyData.intsShortAll 16 ds = true ∧ PyData.showableAll ds = true ∧ PyData.weightAll ds ≤ wgts xs
  | [], n, _ => ⟨[], rfl, rfl, Nat.zero_le _, rfl, rfl, Nat.zero_le _⟩
  | x :: r, n, h => by
    simp only [reps, Bool.and_eq_true] at h
    obtain ⟨d, h1, h2, h3, h4, h5, h6⟩ := rep_d x n h.1
    obtain ⟨ds, g1, g2, g3, g4, g5, g6⟩ := reps_d r n h.2
    refine ⟨d :: ds, by simp only [toDs, h1, g1]; rfl, by simp only [PyData.canLayAll0, h2, g2]; rfl, ?_, by simp only [PyData.intsShortAll, h4, g4]; rfl, by simp only [PyData.showableAll, h5, g5]; rfl, ?_⟩
    · simp only [PyData.depthAll]
      exact Nat.max_le.mpr ⟨h3, g3⟩
    · simp only [PyData.weightAll, wgts]
      omega
end
theorem repr_ok {v : PV} (h : rep v 60 = true) (hw : wgt v ≤ 800000) : ∃ s, reprP v = some s := by
  obtain ⟨d, h1, h2, h3, h4, h5, h6⟩ := rep_d v 60 h
  have hs := PyData.shown_le 16 (by decide) d (PyData.leavesShort_of_canLay0 16 d h2 h4)
  have hl : d.shown.length ≤ sizeLine := by
    have e : sizeLine = 16777216 := by decide
    have h7 : (16 + 2) * d.weight ≤ (16 + 2) * 800000 := Nat.mul_le_mul_left _ (by omega)
    omega
  unfold reprP
  rw [h1]
  exact ⟨_, if_pos ⟨h5, PyData.hasDict_of_canLay d h2, by omega, hl⟩⟩
theorem l_repr (v : PV) : bltOp S .repr [v] = (reprP v).map .str := by cases v <;> rfl
theorem same {v : PV} (h : rep v 60 = true) (hw : wgt v ≤ 800000) : cl (k + 1) 22 [v, v] S = .ok (.bl true) S := by
  rw [run_ (f := ⟨2, 2, b_law_same⟩) rfl rfl]
  obtain ⟨s, hs⟩ := repr_ok h hw
  simp [b_law_same, envOf, l_repr, hs]
/-! ### read_thing -/
theorem all_octs {os : List Nat} (h : ∀ o ∈ os, o < 256) : (os.map fun n : Nat => decide ((0 : Int) ≤ (n : Int)) && decide ((n : Int) ≤ 255)).all id = true := by
  rw [List.all_eq_true]
  intro b hb
  obtain ⟨n, hn, rfl⟩ := List.mem_map.mp hb
  have h1 := h n hn
  have h2 : (0 : Int) ≤ n := by omega
  have h3 : (n : Int) ≤ 255 := by omega
  simp [h2, h3]
theorem need_octets {os : List Nat} (h : ∀ o ∈ os, o < 256) (hz : os.length ≤ 1000000) : cl (k + 2) 11 [.tup (nts os)] S = .ok .non S := by
  rw [run_ (f := ⟨1, 2, b_need_octets⟩) rfl rfl]
  have nl := nts_len os
  have z1 : (os.length : Int) ≤ 1000000 := by omega
  have z2 : os.length ≤ sizeLine := by
    have : 1000000 ≤ sizeLine := by decide
    omega
  have lc : lcGo (.nm 1) (evTo (cl (k + 1)) .no) (evE (cl (k + 1)) false (.call 0 (.cons (.var 1) (.cons (.cst (.int 0)) (.cons (.cst (.int 255)) .nil))))) .no [some (.val (.tup (nts os))), none] (nts os) [] S = .ok (os.map fun n : Nat => PV.bl (decide ((0 : Int) ≤ (n : Int)) && decide ((n : Int) ≤ 255))) S := by
    have e := lc_map (g := .nm 1) (cal := cl (k + 1)) (e := evE (cl (k + 1)) false (.call 0 (.cons (.var 1) (.cons (.cst (.int 0)) (.cons (.cst (.int 255)) .nil))))) (ρ := [some (.val (.tup (nts os))), none]) (S := S) (fun x => match x with
      | .int i => .bl (decide (0 ≤ i) && decide (i ≤ 255))
      | _ => .non) (nts os) fun x hx => by
        obtain ⟨n, hn, rfl⟩ := List.mem_map.mp hx
        exact ⟨_, rfl, by simp [whole]⟩
    rw [e]
    unfold nts
    rw [List.map_map]
    rfl
  have bo := blsOf_map (fun n : Nat => decide ((0 : Int) ≤ (n : Int)) && decide ((n : Int) ≤ 255)) os
  have al := all_octs h
  generalize (os.map fun n : Nat => PV.bl (decide ((0 : Int) ≤ (n : Int)) && decide ((n : Int) ≤ 255))) = Q at lc bo
  generalize (os.map fun n : Nat => decide ((0 : Int) ≤ (n : Int)) && decide ((n : Int) ≤ 255)) = B at bo al
  simp [b_need_octets, envOf, tupof, nl, z1, z2, wipe, lc, bo, al, -List.all_eq_true]
theorem read_thing {os : List Nat} (p : Nat) (h : ∀ o ∈ os, o < 256) (hz : os.length ≤ 1000000) (hp : p ≤ os.length) : cl (k + 86) 15 [.tup (nts os), .int p] S = .ok (pvo (rd 41 os p 1)) S := by
  rw [run_ (f := ⟨2, 2, b_read_thing⟩) rfl rfl]
  have n1 := need_octets (k := k + 83) (S := S) h hz
  have ra := read_at (k := k) (S := S) os hz 41 p 1 (by decide) (by decide)
  have w := whole (k := k + 84) (S := S) (p : Int) 0 os.length
  have nl := nts_len os
  have hp2 : (p : Int) ≤ os.length := by omega
  have hp3 : (0 : Int) ≤ p := by omega
  have w2 : cl (k + 84 + 1) 0 [.int p, .int 0, .int os.length] S = .ok (.bl true) S := by
    rw [w]
    simp [hp]
  have ra2 : cl (k + 85) 10 [.tup (nts os), .int p, .int 1] S = .ok (pvo (rd 41 os p 1)) S := ra
  simp [b_read_thing, envOf, n1, nl, w2, ra2]
end K69

/-! U69: what reading gives; there and back. -/
namespace K69
open PySem EV
theorem okC_all {ds : List Nat} (h : ¬ (ds.any fun c => !okC c) = true) : ∀ c ∈ ds, okC c = true := by
  intro c hc
  cases ho : okC c with
  | true => rfl
  | false => exact absurd (List.any_eq_true.mpr ⟨c, hc, by rw [ho]; rfl⟩) h
theorem strOk_of {ds : List Nat} (h : ∀ c ∈ ds, okC c = true) : PyData.strOk ⟨ds.toArray⟩ = true := by
  unfold PyData.strOk
  rw [← Array.all_toList]
  rw [List.all_eq_true]
  intro c hc
  have := okC_lt (h c (by simpa using hc))
  exact decide_eq_true (by omega)
theorem row_full {os : List Nat} {p n : Nat} (h : ¬ (row os p n).length < n) (hp : p ≤ os.length) : p + n ≤ os.length := by
  unfold row at h
  rw [List.length_take, List.length_drop] at h
  omega
theorem getD_pos {os : List Nat} {p : Nat} (h : os.getD p 0 ≠ 0) : p < os.length := by
  by_cases hp : p < os.length
  · exact hp
  · exact absurd (by simp [List.getD, List.getElem?_eq_none (by omega : os.length ≤ p)]) h
theorem loop_ok {os : List Nat} {r : Nat → Option (PV × Nat)} {f : Nat} (R : ∀ p v q, r p = some (v, q) → p < q ∧ q ≤ os.length ∧ rep v f = true ∧ wgt v + 1 ≤ 60 * (q - p)) : ∀ (n p : Nat) (vs : List PV) (q : Nat), p ≤ os.length → rdLoop r n p = some (vs, q) → p ≤ q ∧ q ≤ os.length ∧ reps vs f = true ∧ wgts vs ≤ 60 * (q - p)
  | 0, p, vs, q, hp, h => by
    cases h
    exact ⟨Nat.le_refl _, hp, rfl, Nat.zero_le _⟩
  | n + 1, p, vs, q, hp, h => by
    simp only [rdLoop] at h
    cases hr : r p with
    | none => rw [hr] at h; cases h
    | some vq =>
      obtain ⟨v, q1⟩ := vq
      rw [hr] at h
      simp only at h
      obtain ⟨a1, a2, a3, a4⟩ := R p v q1 hr
      cases hl : rdLoop r n q1 with
      | none => rw [hl] at h; cases h
      | some w =>
        obtain ⟨ws, q2⟩ := w
        rw [hl] at h
        cases h
        obtain ⟨b1, b2, b3, b4⟩ := loop_ok R n q1 ws q a2 hl
        refine ⟨by omega, b2, by simp only [reps, a3, b3]; rfl, ?_⟩
        simp only [wgts]
        omega
theorem rd_ok (os : List Nat) : ∀ (f p deep : Nat) (v : PV) (q : Nat), rd f os p deep = some (v, q) → p < q ∧ q ≤ os.length ∧ rep v f = true ∧ wgt v + 1 ≤ 60 * (q - p)
  | 0, p, deep, v, q, h => nomatch h
  | f + 1, p, deep, v, q, h => by
    rw [rd_succ] at h
    by_cases q1 : os.getD p 0 = 1
    · rw [if_pos q1] at h
      cases h
      have := getD_pos (os := os) (p := p) (by omega)
      exact ⟨by omega, by omega, rfl, by simp only [wgt]; omega⟩
    rw [if_neg q1] at h
    by_cases q2 : os.getD p 0 = 2
    · rw [if_pos q2] at h
      cases h
      have := getD_pos (os := os) (p := p) (by omega)
      exact ⟨by omega, by omega, rfl, by simp only [wgt]; omega⟩
    rw [if_neg q2] at h
    by_cases q3 : os.getD p 0 = 3
    · rw [if_pos q3] at h
      cases h
      have := getD_pos (os := os) (p := p) (by omega)
      exact ⟨by omega, by omega, rfl, by simp only [wgt]; omega⟩
    rw [if_neg q3] at h
    by_cases bad : os.getD p 0 < 4 ∨ 7 < os.getD p 0 ∨ os.length ≤ p + 1
    · rw [if_pos bad] at h; cases h
    rw [if_neg bad] at h
    generalize os.getD (p + 1) 0 = z at h
    by_cases q6 : os.getD p 0 < 6
    · rw [if_pos q6] at h
      unfold rdNum at h
      by_cases c : (row os (p + 2) z).length < z ∨ (0 < z ∧ (row os (p + 2) z).getD 0 0 = 0) ∨ (z = 0 ∧ os.getD p 0 = 5) ∨ 1000000000000 < numOf (row os (p + 2) z)
      · rw [if_pos c] at h; cases h
      rw [if_neg c] at h
      have hn : ¬ 1000000000000 < numOf (row os (p + 2) z) := fun e => c (.inr (.inr (.inr e)))
      have hf := row_full (fun e => c (.inl e)) (by omega)
      generalize numOf (row os (p + 2) z) = nn at h hn
      cases h
      refine ⟨by omega, hf, ?_, by simp only [wgt]; omega⟩
      simp only [rep]
      exact decide_eq_true (by split <;> omega)
    rw [if_neg q6] at h
    by_cases q66 : os.getD p 0 = 6
    · rw [if_pos q66] at h
      unfold rdStr at h
      by_cases c : (row os (p + 2) z).length < z ∨ 40 < z ∨ ((row os (p + 2) z).any fun c => !okC c) = true
      · rw [if_pos c] at h; cases h
      rw [if_neg c] at h
      have hf := row_full (fun e => c (.inl e)) (by omega)
      have ha := okC_all (fun e => c (.inr (.inr e)))
      have rl := row_len os (p + 2) z
      generalize row os (p + 2) z = ds at h ha rl
      cases h
      refine ⟨by omega, hf, by simp only [rep]; exact strOk_of ha, ?_⟩
      have e : (⟨ds.toArray⟩ : Str).length = ds.length := by
        show ds.toArray.size = _
        simp
      simp only [wgt, e]
      omega
    rw [if_neg q66] at h
    unfold rdItems at h
    by_cases c : 64 < z ∨ 40 < deep
    · rw [if_pos c] at h; cases h
    rw [if_neg c] at h
    cases hl : rdLoop (fun q => rd f os q (deep + 1)) z (p + 2) with
    | none => rw [hl] at h; cases h
    | some w =>
      obtain ⟨ws, q2⟩ := w
      rw [hl] at h
      cases h
      obtain ⟨b1, b2, b3, b4⟩ := loop_ok (os := os) (f := f) (fun p v q h => rd_ok os f p (deep + 1) v q h) z (p + 2) ws q (by omega) hl
      refine ⟨by omega, b2, by simp only [rep, b3, Nat.add_sub_cancel]; simp, ?_⟩
      simp only [wgt]
      omega
end K69

/-! V69: there and back. -/
namespace K69
open PySem EV
theorem drop_get {os l b : List Nat} {p i : Nat} (h : os.drop p = l ++ b) (hi : i < l.length) : os.getD (p + i) 0 = l.getD i 0 := by
  have e : os[p + i]? = l[i]? := by
    rw [← List.getElem?_drop, h, List.getElem?_append_left hi]
  simp only [List.getD, e]
theorem drop_len {os l b : List Nat} {p : Nat} (h : os.drop p = l ++ b) (hl : l ≠ []) : p + l.length ≤ os.length := by
  have e := congrArg List.length h
  rw [List.length_drop, List.length_append] at e
  have := List.length_pos_iff.mpr hl
  omega
theorem drop_row {os l b : List Nat} {p x y n : Nat} (h : os.drop p = x :: y :: (l ++ b)) (hn : l.length = n) : row os (p + 2) n = l := by
  unfold row
  rw [← List.drop_drop, h]
  simp [← hn]
theorem drop_more {os l b : List Nat} {p : Nat} (h : os.drop p = l ++ b) : os.drop (p + l.length) = b := by
  rw [← List.drop_drop, h]
  simp
theorem num_app (a b : List Nat) : numOf (a ++ b) = b.foldl (fun x d => x * 256 + d) (numOf a) := by
  unfold numOf
  rw [List.foldl_append]
theorem num_dlf : ∀ (f n : Nat), n < 256 ^ f → numOf (dlf f n).reverse = n
  | 0, n, h => by
    simp at h
    subst h
    rfl
  | f + 1, n, h => by
    unfold dlf
    by_cases h0 : n = 0
    · rw [if_pos h0, h0]; rfl
    · rw [if_neg h0]
      have h2 : n / 256 < 256 ^ f := by
        rw [Nat.pow_succ] at h
        exact Nat.div_lt_of_lt_mul (by omega)
      have ih := num_dlf f (n / 256) h2
      rw [List.reverse_cons, num_app, ih]
      simp only [List.foldl_cons, List.foldl_nil]
      omega
theorem head_dlf : ∀ (f n : Nat), n < 256 ^ f → n ≠ 0 → (dlf f n).reverse.getD 0 0 ≠ 0
  | 0, n, h, h0 => by
    simp at h
    exact absurd h h0
  | f + 1, n, h, h0 => by
    unfold dlf
    rw [if_neg h0, List.reverse_cons]
    by_cases h1 : n / 256 = 0
    · rw [h1]
      have e : dlf f 0 = [] := by cases f <;> simp [dlf]
      rw [e]
      simp
      omega
    · have h2 : n / 256 < 256 ^ f := by
        rw [Nat.pow_succ] at h
        exact Nat.div_lt_of_lt_mul (by omega)
      have ih := head_dlf f (n / 256) h2 h1
      have hl : 0 < (dlf f (n / 256)).reverse.length := by
        cases hd : (dlf f (n / 256)).reverse with
        | nil => rw [hd] at ih; exact absurd rfl ih
        | cons a r => simp
      have e : ((dlf f (n / 256)).reverse ++ [n % 256]).getD 0 0 = (dlf f (n / 256)).reverse.getD 0 0 := by
        simp only [List.getD, List.getElem?_append_left hl]
      rw [e]
      exact ih
theorem dl_num (n : Nat) (h : n < 18446744073709551616) : numOf (dl n).reverse = n := num_dlf 8 n (by rw [p256]; exact h)
theorem dl_head (n : Nat) (h : n < 18446744073709551616) (h0 : n ≠ 0) : (dl n).reverse.getD 0 0 ≠ 0 := head_dlf 8 n (by rw [p256]; exact h) h0
theorem dl_zero {n : Nat} (h : (dl n).length = 0) : n = 0 := by
  unfold dl dlf at h
  by_cases h0 : n = 0
  · exact h0
  · rw [if_neg h0] at h; cases h
mutual
theorem rt : ∀ (v : PV) (f deep p : Nat) (os b : List Nat), fit v deep = true → 42 ≤ deep + f → 1 ≤ f → os.drop p = octs v ++ b → rd f os p deep = some (v, p + (octs v).length)
  | _, 0, _, _, _, _, _, _, h, _ => by omega
  | .non, f + 1, deep, p, os, b, _, _, _, h => by
    have g0 := drop_get (i := 0) h (by simp [octs])
    rw [rd_succ, if_pos (by simpa [octs] using g0)]
    rfl
  | .bl c, f + 1, deep, p, os, b, _, _, _, h => by
    have g0 := drop_get (i := 0) h (by simp [octs])
    rw [rd_succ]
    cases c with
    | false =>
      have g : os.getD p 0 = 2 := by simpa [octs] using g0
      rw [if_neg (by omega), if_pos g]
      rfl
    | true =>
      have g : os.getD p 0 = 3 := by simpa [octs] using g0
      rw [if_neg (by omega), if_neg (by omega), if_pos g]
      rfl
  | .int i, f + 1, deep, p, os, b, hf, _, _, h => by
    have g0 := drop_get (i := 0) h (by simp [octs])
    have g1 := drop_get (i := 1) h (by simp [octs])
    have gl := drop_len h (by simp [octs])
    simp only [fit, Bool.and_eq_true, decide_eq_true_eq] at hf
    have hb : i.natAbs < 18446744073709551616 := by omega
    have hn := dl_num i.natAbs hb
    have hh := dl_head i.natAbs hb
    have hz := dl_zero (n := i.natAbs)
    have gr : row os (p + 2) (dl i.natAbs).length = (dl i.natAbs).reverse := drop_row (x := if 0 ≤ i then 4 else 5) (y := (dl i.natAbs).length) (b := b) (by rw [h]; simp [octs]) (by simp)
    have gs : os.getD p 0 = if 0 ≤ i then 4 else 5 := by simpa [octs] using g0
    have gz : os.getD (p + 1) 0 = (dl i.natAbs).length := by simpa [octs] using g1
    have le : (octs (.int i)).length = 2 + (dl i.natAbs).length := by simp [octs]; omega
    have sa : os.getD p 0 = 4 ∨ os.getD p 0 = 5 := by rw [gs]; split <;> simp
    rw [rd_succ, if_neg (by omega), if_neg (by omega), if_neg (by omega), if_neg (by rw [le] at gl; omega), if_pos (by omega), gz]
    unfold rdNum
    rw [gr, hn, le]
    have rl : (dl i.natAbs).reverse.length = (dl i.natAbs).length := List.length_reverse
    have c : ¬ ((dl i.natAbs).reverse.length < (dl i.natAbs).length ∨ (0 < (dl i.natAbs).length ∧ (dl i.natAbs).reverse.getD 0 0 = 0) ∨ ((dl i.natAbs).length = 0 ∧ os.getD p 0 = 5) ∨ 1000000000000 < i.natAbs) := by
      rintro (c | c | c | c)
      · omega
      · refine hh (fun e => ?_) c.2
        rw [e] at c
        exact absurd c.1 (by decide)
      · have := hz c.1
        rw [gs] at c
        by_cases h0 : 0 ≤ i
        · rw [if_pos h0] at c; omega
        · omega
      · omega
    rw [if_neg c, gs]
    have e : (PV.int (if (if 0 ≤ i then 4 else 5) = 4 then (i.natAbs : Int) else -(i.natAbs : Int))) = .int i := by
      by_cases h0 : 0 ≤ i
      · rw [if_pos h0, if_pos rfl]
        congr 1
        omega
      · rw [if_neg h0, if_neg (by decide)]
        congr 1
        omega
    rw [e, Nat.add_assoc]
  | .str x, f + 1, deep, p, os, b, hf, _, _, h => by
    have g0 := drop_get (i := 0) h (by simp [octs])
    have g1 := drop_get (i := 1) h (by simp [octs])
    have gl := drop_len h (by simp [octs])
    simp only [fit, Bool.and_eq_true, decide_eq_true_eq] at hf
    have gr : row os (p + 2) x.length = x.cps.toList := drop_row (x := 6) (y := x.length) (b := b) (by rw [h]; simp [octs]) rfl
    have gs : os.getD p 0 = 6 := by simpa [octs] using g0
    have gz : os.getD (p + 1) 0 = x.length := by simpa [octs] using g1
    have le : (octs (.str x)).length = 2 + x.length := by
      show x.cps.toList.length + 1 + 1 = _
      rw [cps_len]; omega
    rw [rd_succ, if_neg (by omega), if_neg (by omega), if_neg (by omega), if_neg (by rw [le] at gl; omega), if_neg (by omega), if_pos gs, gz]
    unfold rdStr
    rw [gr, le]
    have c : ¬ (x.cps.toList.length < x.length ∨ 40 < x.length ∨ (x.cps.toList.any fun c => !okC c) = true) := by
      rintro (c | c | c)
      · rw [cps_len] at c; omega
      · omega
      · obtain ⟨d, hd, ho⟩ := List.any_eq_true.mp c
        have := List.all_eq_true.mp hf.2 d hd
        rw [this] at ho
        cases ho
    rw [if_neg c, Nat.add_assoc]
  | .tup xs, f + 1, deep, p, os, b, hf, hd, _, h => by
    have g0 := drop_get (i := 0) h (by simp [octs])
    have g1 := drop_get (i := 1) h (by simp [octs])
    have gl := drop_len h (by simp [octs])
    simp only [fit, Bool.and_eq_true, decide_eq_true_eq] at hf
    obtain ⟨f1, f2, f3⟩ := hf
    have gs : os.getD p 0 = 7 := by simpa [octs] using g0
    have gz : os.getD (p + 1) 0 = xs.length := by simpa [octs] using g1
    have le : (octs (.tup xs)).length = 2 + (octsL xs).length := by simp only [octs, List.length_cons]; omega
    have gd : os.drop (p + 2) = octsL xs ++ b := by
      rw [← List.drop_drop, h]
      simp [octs]
    rw [rd_succ, if_neg (by omega), if_neg (by omega), if_neg (by omega), if_neg (by rw [le] at gl; omega), if_neg (by omega), if_neg (by omega), gz]
    unfold rdItems
    rw [if_neg (by omega), rts xs f deep (p + 2) os b f3 (by omega) (by omega) gd, le]
    simp only [Nat.add_assoc]
  | .lst _, f + 1, deep, p, os, b, hf, _, _, h => by simp [fit] at hf
  | .ref _, f + 1, deep, p, os, b, hf, _, _, h => by simp [fit] at hf
  | .scr _, f + 1, deep, p, os, b, hf, _, _, h => by simp [fit] at hf
theorem rts : ∀ (xs : List PV) (f deep p : Nat) (os b : List Nat), fits xs (deep + 1) = true → 42 ≤ deep + 1 + f → 1 ≤ f → os.drop p = octsL xs ++ b → rdLoop (fun q => rd f os q (deep + 1)) xs.length p = some (xs, p + (octsL xs).length)
  | [], f, deep, p, os, b, _, _, _, _ => by simp [rdLoop, octsL]
  | x :: r, f, deep, p, os, b, hf, hd, h1, h => by
    simp only [fits, Bool.and_eq_true] at hf
    simp only [octsL, List.append_assoc] at h
    have hx := rt x f (deep + 1) p os (octsL r ++ b) hf.1 hd h1 h
    have hr := rts r f deep (p + (octs x).length) os b hf.2 hd h1 (drop_more h)
    simp only [List.length_cons, rdLoop, hx, hr, octsL, List.length_append, Nat.add_assoc]
end
/-- there and back -/
theorem there_back (v : PV) (a b : List Nat) (h : fit v 1 = true) : rd 41 (a ++ octs v ++ b) a.length 1 = some (v, a.length + (octs v).length) :=
  rt v 41 1 a.length _ b h (by decide) (by decide) (by rw [List.append_assoc]; simp)
end K69

/-! W69: the things that the law draws. -/
namespace K69
open PySem EV
variable {k : Nat}
def leafB : PV → Bool
  | .non => true
  | .bl _ => true
  | .int i => decide (-1000000000000 ≤ i) && decide (i ≤ 1000000000000)
  | .str x => decide (x.length ≤ 40) && x.cps.toList.all okC
  | _ => false
inductive Gen : Nat → PV → Prop
  | leaf {n : Nat} {v : PV} (h : leafB v = true) : Gen n v
  | tup {n : Nat} {xs : List PV} (hl : xs.length ≤ 4) (g : ∀ x ∈ xs, Gen n x) : Gen (n + 1) (.tup xs)
theorem Gen.fit {n : Nat} {v : PV} (h : Gen n v) : ∀ d, d + n ≤ 41 → K69.fit v d = true := by
  induction h with
  | @leaf n v h =>
    intro d hd
    cases v with
    | non => rfl
    | bl b => rfl
    | int i => simpa [leafB, K69.fit] using h
    | str x => simpa [leafB, K69.fit] using h
    | _ => cases h
  | @tup n xs hl g ih =>
    intro d hd
    have e : fits xs (d + 1) = true := by
      rw [fits_mem, List.all_eq_true]
      exact fun x hx => ih x hx (d + 1) (by omega)
    have h1 : d ≤ 40 := by omega
    have h2 : xs.length ≤ 64 := by omega
    simp only [K69.fit, e, h1, h2, decide_true, Bool.and_self]
theorem strOk_cps {x : Str} (h : x.cps.toList.all okC = true) : PyData.strOk x = true :=
  strOk_of (ds := x.cps.toList) fun c hc => List.all_eq_true.mp h c hc
theorem Gen.lay {n : Nat} {v : PV} (h : Gen n v) : K69.lay v n = true := by
  induction h with
  | @leaf n v h =>
    cases v with
    | non => rfl
    | bl b => rfl
    | int i => rfl
    | str x =>
      simp only [leafB, Bool.and_eq_true, decide_eq_true_eq] at h
      have := big
      simp only [K69.lay, strOk_cps h.2, Bool.true_and]
      exact decide_eq_true (by omega)
    | _ => cases h
  | @tup n xs hl g ih =>
    have e : lays xs n = true := lays_mem.mpr ih
    simp only [K69.lay, Nat.add_sub_cancel, e, Bool.and_true]
    exact decide_eq_true (by omega)
theorem doms_mem {xs : List PV} {n : Nat} : doms xs n = true ↔ ∀ x ∈ xs, dom x n = true := by
  induction xs with
  | nil => simp [doms]
  | cons x r ih => simp [doms, ih]
theorem Gen.dom {n : Nat} {v : PV} (h : Gen n v) : K69.dom v n = true := by
  induction h with
  | @leaf n v h =>
    cases v with
    | non => rfl
    | bl b => rfl
    | int i =>
      simp only [leafB, Bool.and_eq_true, decide_eq_true_eq] at h
      simp only [K69.dom]
      exact decide_eq_true (by omega)
    | str x =>
      simp only [leafB, Bool.and_eq_true, decide_eq_true_eq] at h
      simp only [K69.dom]
      exact decide_eq_true (by omega)
    | _ => cases h
  | @tup n xs hl g ih =>
    have e : doms xs n = true := doms_mem.mpr ih
    simp only [K69.dom, Nat.add_sub_cancel, e, Bool.and_true]
    exact decide_eq_true (by omega)
def Bo : Nat → Nat
  | 0 => 42
  | n + 1 => 42 + 4 * Bo n
theorem octsL_len {xs : List PV} {m : Nat} (h : ∀ x ∈ xs, (octs x).length ≤ m) : (octsL xs).length ≤ xs.length * m := by
  induction xs with
  | nil => simp [octsL]
  | cons x r ih =>
    have h1 := h x (List.mem_cons_self ..)
    have h2 := ih fun y hy => h y (List.mem_cons_of_mem _ hy)
    simp only [octsL, List.length_append, List.length_cons, Nat.add_mul, Nat.one_mul]
    omega
theorem bo_pos (n : Nat) : 42 ≤ Bo n := by
  cases n <;> simp only [Bo] <;> omega
theorem Gen.len {n : Nat} {v : PV} (h : Gen n v) : (octs v).length ≤ Bo n := by
  induction h with
  | @leaf n v h =>
    have := bo_pos n
    cases v with
    | non => simp only [octs, List.length_singleton]; omega
    | bl b => simp only [octs, List.length_singleton]; omega
    | int i =>
      have := dl_len i.natAbs
      simp only [octs, List.length_cons, List.length_reverse]
      omega
    | str x =>
      simp only [leafB, Bool.and_eq_true, decide_eq_true_eq] at h
      simp only [octs, List.length_cons, cps_len]
      omega
    | _ => cases h
  | @tup n xs hl g ih =>
    have e := octsL_len ih
    have e2 : xs.length * Bo n ≤ 4 * Bo n := Nat.mul_le_mul_right _ hl
    simp only [octs, List.length_cons, Bo]
    omega
theorem wts_len {xs : List PV} {m : Nat} (h : ∀ x ∈ xs, wt x ≤ m) : wts xs ≤ xs.length * m := by
  induction xs with
  | nil => simp [wts]
  | cons x r ih =>
    have h1 := h x (List.mem_cons_self ..)
    have h2 := ih fun y hy => h y (List.mem_cons_of_mem _ hy)
    simp only [wts, List.length_cons, Nat.add_mul, Nat.one_mul]
    omega
theorem Gen.wt {n : Nat} {v : PV} (h : Gen n v) : K69.wt v ≤ Bo n := by
  induction h with
  | @leaf n v h =>
    have := bo_pos n
    cases v <;> first
      | (simp only [K69.wt]; omega)
      | cases h
  | @tup n xs hl g ih =>
    have e := wts_len ih
    have e2 : xs.length * Bo n ≤ 4 * Bo n := Nat.mul_le_mul_right _ hl
    simp only [K69.wt, Bo]
    omega
theorem dlf_lt : ∀ (f n : Nat), ∀ d ∈ dlf f n, d < 256
  | 0, n, d, h => by simp [dlf] at h
  | f + 1, n, d, h => by
    unfold dlf at h
    by_cases h0 : n = 0
    · rw [if_pos h0] at h; cases h
    · rw [if_neg h0] at h
      rcases List.mem_cons.mp h with rfl | h
      · omega
      · exact dlf_lt f _ d h
theorem octsL_lt {xs : List PV} (h : ∀ x ∈ xs, ∀ o ∈ octs x, o < 256) : ∀ o ∈ octsL xs, o < 256 := by
  induction xs with
  | nil => intro o ho; cases ho
  | cons x r ih =>
    intro o ho
    simp only [octsL, List.mem_append] at ho
    rcases ho with ho | ho
    · exact h x (List.mem_cons_self ..) o ho
    · exact ih (fun y hy => h y (List.mem_cons_of_mem _ hy)) o ho
theorem Gen.lt {n : Nat} {v : PV} (h : Gen n v) : ∀ o ∈ octs v, o < 256 := by
  induction h with
  | @leaf n v h =>
    intro o ho
    cases v with
    | non => simp only [octs, List.mem_singleton] at ho; omega
    | bl b =>
      simp only [octs, List.mem_singleton] at ho
      cases b
      · have e : o = 2 := by simpa using ho
        omega
      · have e : o = 3 := by simpa using ho
        omega
    | int i =>
      have l8 := dl_len i.natAbs
      simp only [octs, List.mem_cons, List.mem_reverse] at ho
      rcases ho with ho | ho | ho
      · split at ho <;> omega
      · omega
      · exact dlf_lt 8 _ o ho
    | str x =>
      simp only [leafB, Bool.and_eq_true, decide_eq_true_eq] at h
      simp only [octs, List.mem_cons] at ho
      rcases ho with ho | ho | ho
      · omega
      · omega
      · have := okC_lt (List.all_eq_true.mp h.2 o ho)
        omega
    | _ => cases h
  | @tup n xs hl g ih =>
    intro o ho
    simp only [octs, List.mem_cons] at ho
    rcases ho with ho | ho | ho
    · omega
    · omega
    · exact octsL_lt ih o ho
/-! ### drawing -/
theorem roll (many a b : Int) (h1 : 0 < many) (h2 : many < 1073741824) : ∃ x a' b', cl (k + 1) 17 [.ref 0, .int many] (cupS a b []) = .ok (.int x) (cupS a' b' []) ∧ 0 ≤ x ∧ x < many :=
  roll_ok (fns := lw.sems) (i := 17) rfl many a b [] h1 h2
theorem some_ (t : PV) (xs : List PV) (ht : t = .lst xs ∨ t = .tup xs) (a b : Int) (h1 : xs ≠ []) (h2 : xs.length < 1000000) : ∃ x a' b', cl (k + 2) 18 [.ref 0, t] (cupS a b []) = .ok x (cupS a' b' []) ∧ x ∈ xs :=
  some_ok (fns := lw.sems) (i := 17) (j := 18) rfl rfl t xs ht a b [] h1 h2
theorem lc_st {i : Nat} {e : EV.Env → M PV} {cal : Nat → List PV → M PV} {ρ : EV.Env} {P : PV → Prop} {C : Sto → Prop} : ∀ (xs acc : List PV) (S : Sto), (∀ x S, x ∈ xs → C S → ∃ v S', e (ρ.set i (some (.val x))) S = .ok v S' ∧ P v ∧ C S') → C S →
    ∃ vs S', lcGo (.nm i) (evTo cal .no) e .no ρ xs acc S = .ok (acc ++ vs) S' ∧ vs.length = xs.length ∧ (∀ v ∈ vs, P v) ∧ C S'
  | [], acc, S, h, hC => ⟨[], S, by simp, rfl, by simp, hC⟩
  | x :: xs, acc, S, h, hC => by
    obtain ⟨v, S1, h1, h2, h3⟩ := h x S (List.mem_cons_self ..) hC
    obtain ⟨vs, S2, g1, g2, g3, g4⟩ := lc_st xs (acc ++ [v]) S1 (fun y S hy => h y S (List.mem_cons_of_mem _ hy)) h3
    refine ⟨v :: vs, S2, ?_, by simp [g2], ?_, g4⟩
    · rw [lc_cons, as_nm, o_some, r_ok, to_no, nx_ok, r_ok, if_pos rfl, h1, nx_ok, r_ok, g1, List.append_assoc]
      rfl
    · intro w hw
      rcases List.mem_cons.mp hw with rfl | hw
      · exact h2
      · exact g3 w hw
end K69

/-! X69: the law's drawing of things. -/
namespace K69
open PySem EV
variable {k : Nat}
def CupC (S : Sto) : Prop := ∃ a b, S = cupS a b []
def lits : List PV := [.int 0, .int 1, .int 255, .int 256, .int 65535, .int 65536, .int (-1), .int (-256), .int 1000000000000, .int (-1000000000000)]
theorem lits_leaf : ∀ v ∈ lits, leafB v = true := by decide +kernel
theorem x40 : (Txt.mul "x" 40).length = 40 ∧ (Txt.mul "x" 40).cps.toList.all okC = true := by decide +kernel
theorem x40m {S : Sto} : binOp S .mul (.str "x") (.int 40) = some (.str (Txt.mul "x" 40)) := by
  show (if ("x" : Str).length ≤ 1000 ∧ 1 ≤ (40 : Int) ∧ (40 : Int) ≤ 1000 then some (PV.str (Txt.mul "x" 40)) else none) = _
  exact if_pos (by decide +kernel)
def txts : List PV := [.str "", .str "a", .str "doc", .str "B 7 ~", .str (Txt.mul "x" 40), .str "\"!"]
theorem txts_leaf : ∀ v ∈ txts, leafB v = true := by
  intro v hv
  simp only [txts, List.mem_cons, List.not_mem_nil, or_false] at hv
  rcases hv with rfl | rfl | rfl | rfl | rfl | rfl
  · decide +kernel
  · decide +kernel
  · decide +kernel
  · decide +kernel
  · simp only [leafB, x40.1, x40.2, Bool.and_true]; rfl
  · decide +kernel
def ltA : Ss := (.cons (.ret (.call 18 (.cons (.var 0) (.cons (.lst (.cons (.cst (.int 0)) (.cons (.cst (.int 1)) (.cons (.cst (.int 255)) (.cons (.cst (.int 256)) (.cons (.cst (.int 65535)) (.cons (.cst (.int 65536)) (.cons (.neg (.cst (.int 1))) (.cons (.neg (.cst (.int 256))) (.cons (.bin .pow (.cst (.int 10)) (.cst (.int 12))) (.cons (.neg (.bin .pow (.cst (.int 10)) (.cst (.int 12)))) (.cons (.call 17 (.cons (.var 0) (.cons (.bin .pow (.cst (.int 10)) (.cst (.int 6))) .nil))) .nil)))))))))))) .nil)))) .nil)
def ltB : Ss := (.cons (.ret (.call 18 (.cons (.var 0) (.cons (.lst (.cons (.cst (.str "")) (.cons (.cst (.str "a")) (.cons (.cst (.str "doc")) (.cons (.cst (.str "B 7 ~")) (.cons (.bin .mul (.cst (.str "x")) (.cst (.int 40))) (.cons (.cst (.str "\"!")) .nil))))))) .nil)))) .nil)
def ltC : Ss := (.cons (.ret (.call 18 (.cons (.var 0) (.cons (.lst (.cons (.cst .non) (.cons (.cst (.bl true)) (.cons (.cst (.bl false)) .nil)))) .nil)))) .nil)
def ltD : Ss := (.cons (.ret (.blt .tuple (.cons (.lc (.nm 3) (.rng (.call 17 (.cons (.var 0) (.cons (.cst (.int 5)) .nil)))) .no (.call 19 (.cons (.var 0) (.cons (.bin .sub (.var 1) (.cst (.int 1))) .nil))) [3]) .nil))) .nil)
theorem b_lt : b_law_thing = .cons (.set (.nm 2) (.call 17 (.cons (.var 0) (.cons (.ite (.val (.cmp .gt (.var 1) (.cst (.int 0)))) (.cst (.int 9)) (.cst (.int 6))) .nil)))) (.cons (.cnd (.val (.cmp .lt (.var 2) (.cst (.int 3)))) ltA .nil) (.cons (.cnd (.val (.cmp .lt (.var 2) (.cst (.int 5)))) ltB .nil) (.cons (.cnd (.val (.cmp .eq (.var 2) (.cst (.int 5)))) ltC .nil) ltD))) := rfl
theorem lt_a (d : Int) (w : Int) (a b : Int) : ∃ v S', exSs (cl (k + 2)) ltA [some (.val (.ref 0)), some (.val (.int d)), some (.val (.int w)), none] (cupS a b []) = .ok (.ret v) S' ∧ leafB v = true ∧ CupC S' := by
  obtain ⟨x, a1, b1, e1, x0, x1⟩ := roll (k := k + 1) 1000000 a b (by decide) (by decide)
  have s11 : 11 ≤ sizeLine := by decide
  obtain ⟨v, a2, b2, e2, m⟩ := some_ (k := k) (.lst [.int 0, .int 1, .int 255, .int 256, .int 65535, .int 65536, .int (-1), .int (-256), .int 1000000000000, .int (-1000000000000), .int x]) _ (.inl rfl) a1 b1 (by simp) (by simp)
  have e1' : cl (k + 2) 17 [.ref 0, .int 1000000] (cupS a b []) = .ok (.int x) (cupS a1 b1 []) := e1
  refine ⟨v, _, ?_, ?_, ⟨a2, b2, rfl⟩⟩
  · simp [ltA, e1', e2, s11]
  · have m2 : v ∈ lits ++ [.int x] := m
    rcases List.mem_append.mp m2 with h | h
    · exact lits_leaf v h
    · have hv : v = .int x := by simpa using h
      subst hv
      simp only [leafB, Bool.and_eq_true, decide_eq_true_eq]
      omega
theorem lt_b (d : Int) (w : Int) (a b : Int) : ∃ v S', exSs (cl (k + 2)) ltB [some (.val (.ref 0)), some (.val (.int d)), some (.val (.int w)), none] (cupS a b []) = .ok (.ret v) S' ∧ leafB v = true ∧ CupC S' := by
  have s6 : 6 ≤ sizeLine := by decide
  obtain ⟨v, a2, b2, e2, m⟩ := some_ (k := k) (.lst txts) _ (.inl rfl) a b (by simp [txts]) (by decide)
  refine ⟨v, _, ?_, txts_leaf v m, ⟨a2, b2, rfl⟩⟩
  unfold txts at e2
  simp [ltB, x40m, e2, s6]
theorem lt_c (d : Int) (w : Int) (a b : Int) : ∃ v S', exSs (cl (k + 2)) ltC [some (.val (.ref 0)), some (.val (.int d)), some (.val (.int w)), none] (cupS a b []) = .ok (.ret v) S' ∧ leafB v = true ∧ CupC S' := by
  have s3 : 3 ≤ sizeLine := by decide
  obtain ⟨v, a2, b2, e2, m⟩ := some_ (k := k) (.lst [.non, .bl true, .bl false]) _ (.inl rfl) a b (by simp) (by decide)
  refine ⟨v, _, ?_, ?_, ⟨a2, b2, rfl⟩⟩
  · simp [ltC, e2, s3]
  · simp only [List.mem_cons, List.not_mem_nil, or_false] at m
    rcases m with rfl | rfl | rfl <;> rfl
theorem lt_d {n : Nat} {K : Nat} (ih : ∀ a b : Int, ∃ v S', cl (K + 1) 19 [.ref 0, .int n] (cupS a b []) = .ok v S' ∧ Gen n v ∧ CupC S') (w : Int) (a b : Int) :
    ∃ v S', exSs (cl (K + 1)) ltD [some (.val (.ref 0)), some (.val (.int ((n : Int) + 1))), some (.val (.int w)), none] (cupS a b []) = .ok (.ret v) S' ∧ Gen (n + 1) v ∧ CupC S' := by
  obtain ⟨x, a1, b1, e1, x0, x1⟩ := roll (k := K) 5 a b (by decide) (by decide)
  have g : rngOk x := rngOk_of x0 (by omega)
  have hl : (rangeL x).length ≤ 4 := by simp [rangeL]; omega
  have hl2 : (rangeL x).length ≤ sizeLine := by have := big; omega
  obtain ⟨vs, S', l1, l2, l3, l4⟩ := lc_st (i := 3) (e := evE (cl (K + 1)) false (.call 19 (.cons (.var 0) (.cons (.bin .sub (.var 1) (.cst (.int 1))) .nil)))) (cal := cl (K + 1)) (ρ := [some (.val (.ref 0)), some (.val (.int ((n : Int) + 1))), some (.val (.int w)), none]) (P := Gen n) (C := CupC) (rangeL x) [] (cupS a1 b1 []) (fun y S hy ⟨c, d, hc⟩ => by
    subst hc
    obtain ⟨v, S', h1, h2, h3⟩ := ih c d
    have e : (n : Int) + 1 - 1 = n := by omega
    exact ⟨v, S', by simp [e, h1], h2, h3⟩) ⟨a1, b1, rfl⟩
  refine ⟨.tup vs, S', ?_, .tup (by omega) l3, l4⟩
  simp only [List.nil_append] at l1
  simp [ltD, e1, g, hl2, wipe, l1, -lc_cons]
theorem law_thing : ∀ (n : Nat) (a b : Int), ∃ v S', cl (k + n + 3) 19 [.ref 0, .int n] (cupS a b []) = .ok v S' ∧ Gen n v ∧ CupC S'
  | 0, a, b => by
    obtain ⟨x, a1, b1, e1, x0, x1⟩ := roll (k := k + 1) 6 a b (by decide) (by decide)
    have e1' : cl (k + 2) 17 [.ref 0, .int 6] (cupS a b []) = .ok (.int x) (cupS a1 b1 []) := e1
    have st : exS (cl (k + 2)) (.set (.nm 2) (.call 17 (.cons (.var 0) (.cons (.ite (.val (.cmp .gt (.var 1) (.cst (.int 0)))) (.cst (.int 9)) (.cst (.int 6))) .nil)))) [some (.val (.ref 0)), some (.val (.int 0)), none, none] (cupS a b []) =
      .ok (.next [some (.val (.ref 0)), some (.val (.int 0)), some (.val (.int x)), none]) (cupS a1 b1 []) := by
      simp [e1']
    have main : ∃ v S', exSs (cl (k + 2)) b_law_thing [some (.val (.ref 0)), some (.val (.int 0)), none, none] (cupS a b []) = .ok (.ret v) S' ∧ Gen 0 v ∧ CupC S' := by
      rw [b_lt]
      by_cases w3 : x < 3
      · obtain ⟨v, S', h1, h2, h3⟩ := lt_a (k := k) 0 x a1 b1
        exact ⟨v, S', by rw [ss_cons, st]; simp [w3, h1], .leaf h2, h3⟩
      by_cases w5 : x < 5
      · obtain ⟨v, S', h1, h2, h3⟩ := lt_b (k := k) 0 x a1 b1
        exact ⟨v, S', by rw [ss_cons, st]; simp [w3, w5, h1], .leaf h2, h3⟩
      · have w55 : x = 5 := by omega
        subst w55
        obtain ⟨v, S', h1, h2, h3⟩ := lt_c (k := k) 0 5 a1 b1
        exact ⟨v, S', by rw [ss_cons, st]; simp [h1], .leaf h2, h3⟩
    obtain ⟨v, S', h1, h2, h3⟩ := main
    refine ⟨v, S', ?_, h2, h3⟩
    show cl (k + 2 + 1) 19 _ _ = _
    rw [run_ (f := ⟨2, 4, b_law_thing⟩) rfl rfl]
    show (exSs (cl (k + 2)) b_law_thing [some (.val (.ref 0)), some (.val (.int 0)), none, none] (cupS a b [])).bind _ = _
    rw [h1]
    rfl
  | n + 1, a, b => by
    obtain ⟨x, a1, b1, e1, x0, x1⟩ := roll (k := k + n + 2) 9 a b (by decide) (by decide)
    have e1' : cl (k + n + 3) 17 [.ref 0, .int 9] (cupS a b []) = .ok (.int x) (cupS a1 b1 []) := e1
    have np : (0 : Int) < (n : Int) + 1 := by omega
    have st : exS (cl (k + n + 3)) (.set (.nm 2) (.call 17 (.cons (.var 0) (.cons (.ite (.val (.cmp .gt (.var 1) (.cst (.int 0)))) (.cst (.int 9)) (.cst (.int 6))) .nil)))) [some (.val (.ref 0)), some (.val (.int ((n : Int) + 1))), none, none] (cupS a b []) =
      .ok (.next [some (.val (.ref 0)), some (.val (.int ((n : Int) + 1))), some (.val (.int x)), none]) (cupS a1 b1 []) := by
      simp [e1', np]
    have main : ∃ v S', exSs (cl (k + n + 3)) b_law_thing [some (.val (.ref 0)), some (.val (.int ((n : Int) + 1))), none, none] (cupS a b []) = .ok (.ret v) S' ∧ Gen (n + 1) v ∧ CupC S' := by
      rw [b_lt]
      by_cases w3 : x < 3
      · obtain ⟨v, S', h1, h2, h3⟩ := lt_a (k := k + n + 1) ((n : Int) + 1) x a1 b1
        exact ⟨v, S', by rw [ss_cons, st]; simp [w3, h1], .leaf h2, h3⟩
      by_cases w5 : x < 5
      · obtain ⟨v, S', h1, h2, h3⟩ := lt_b (k := k + n + 1) ((n : Int) + 1) x a1 b1
        exact ⟨v, S', by rw [ss_cons, st]; simp [w3, w5, h1], .leaf h2, h3⟩
      by_cases w55 : x = 5
      · subst w55
        obtain ⟨v, S', h1, h2, h3⟩ := lt_c (k := k + n + 1) ((n : Int) + 1) 5 a1 b1
        exact ⟨v, S', by rw [ss_cons, st]; simp [h1], .leaf h2, h3⟩
      · obtain ⟨v, S', h1, h2, h3⟩ := lt_d (K := k + n + 2) (n := n) (fun a b => law_thing n a b) x a1 b1
        have h1' : exSs (cl (k + n + 3)) ltD [some (.val (.ref 0)), some (.val (.int ((n : Int) + 1))), some (.val (.int x)), none] (cupS a1 b1 []) = .ok (.ret v) S' := h1
        exact ⟨v, S', by rw [ss_cons, st]; simp [w3, w5, w55, h1'], h2, h3⟩
    obtain ⟨v, S', h1, h2, h3⟩ := main
    refine ⟨v, S', ?_, h2, h3⟩
    have e : cl (k + (n + 1) + 3) 19 [.ref 0, .int (n + 1 : Nat)] (cupS a b []) = cl ((k + n + 3) + 1) 19 [.ref 0, .int ((n : Int) + 1)] (cupS a b []) := by
      rw [show k + (n + 1) + 3 = (k + n + 3) + 1 from by omega]
      rfl
    rw [e, run_ (f := ⟨2, 4, b_law_thing⟩) rfl rfl]
    show (exSs (cl (k + n + 3)) b_law_thing [some (.val (.ref 0)), some (.val (.int ((n : Int) + 1))), none, none] (cupS a b [])).bind _ = _
    rw [h1]
    rfl
end K69

/-! Y69: bent octets. -/
namespace K69
open PySem EV
variable {k : Nat}
theorem cut_take (os : List Nat) (p : Nat) : cutP (nts os) none (some (p : Int)) = nts (os.take p) := by
  unfold cutP
  rw [HT.sIx_none, HT.sIx_nat, nts_len, List.drop_zero, Nat.sub_zero]
  unfold nts
  rw [← List.map_take]
  congr 1
  by_cases h : p ≤ os.length
  · rw [Nat.min_eq_left h]
  · rw [Nat.min_eq_right (by omega), List.take_length, List.take_of_length_le (by omega)]
theorem cut_drop (os : List Nat) (p : Nat) : cutP (nts os) (some (p : Int)) none = nts (os.drop p) := by
  unfold cutP
  rw [HT.sIx_none, HT.sIx_nat, nts_len]
  unfold nts
  rw [← List.map_drop, ← List.map_take]
  congr 1
  by_cases h : p ≤ os.length
  · rw [Nat.min_eq_left h, List.take_of_length_le (by simp)]
  · rw [Nat.min_eq_right (by omega), List.drop_length, List.drop_of_length_le (by omega)]
    simp
theorem mem_take_drop {os : List Nat} (h : ∀ o ∈ os, o < 256) (m : Nat) (hm : m < 256) (p q : Nat) : ∀ o ∈ os.take p ++ ([m] ++ os.drop q), o < 256 := by
  intro o ho
  rcases List.mem_append.mp ho with ho | ho
  · exact h o (List.mem_of_mem_take ho)
  · rcases List.mem_append.mp ho with ho | ho
    · rw [List.mem_singleton.mp ho]; exact hm
    · exact h o (List.mem_of_mem_drop ho)
theorem law_bent (os : List Nat) (h : ∀ o ∈ os, o < 256) (hz : os.length ≤ 100000) (a b : Int) : ∃ os' S', cl (k + 3) 25 [.ref 0, .tup (nts os)] (cupS a b []) = .ok (.tup (nts os')) S' ∧ (∀ o ∈ os', o < 256) ∧ os'.length ≤ os.length + 1 ∧ CupC S' := by
  rw [run_ (f := ⟨2, 5, b_law_bent⟩) rfl rfl]
  obtain ⟨x, a1, b1, e1, x0, x1⟩ := roll (k := k + 1) ((os.length : Int) + 1) a b (by omega) (by omega)
  obtain ⟨w, a2, b2, e2, w0, w1⟩ := roll (k := k + 1) 4 a1 b1 (by decide) (by decide)
  obtain ⟨m, a3, b3, e3, m0, m1⟩ := roll (k := k + 1) 256 a2 b2 (by decide) (by decide)
  obtain ⟨v, a4, b4, e4, mv⟩ := some_ (k := k) (.lst [.int 0, .int 1, .int 2, .int 3, .int 4, .int 5, .int 6, .int 7, .int 8, .int 37, .int 39, .int 65, .int 127, .int 255, .int m]) _ (.inl rfl) a3 b3 (by simp) (by simp)
  obtain ⟨p, rfl⟩ := Int.eq_ofNat_of_zero_le x0
  have hv : ∃ n : Nat, v = .int n ∧ n < 256 := by
    simp only [List.mem_cons, List.not_mem_nil, or_false] at mv
    rcases mv with rfl | rfl | rfl | rfl | rfl | rfl | rfl | rfl | rfl | rfl | rfl | rfl | rfl | rfl | rfl
    · exact ⟨0, rfl, by decide⟩
    · exact ⟨1, rfl, by decide⟩
    · exact ⟨2, rfl, by decide⟩
    · exact ⟨3, rfl, by decide⟩
    · exact ⟨4, rfl, by decide⟩
    · exact ⟨5, rfl, by decide⟩
    · exact ⟨6, rfl, by decide⟩
    · exact ⟨7, rfl, by decide⟩
    · exact ⟨8, rfl, by decide⟩
    · exact ⟨37, rfl, by decide⟩
    · exact ⟨39, rfl, by decide⟩
    · exact ⟨65, rfl, by decide⟩
    · exact ⟨127, rfl, by decide⟩
    · exact ⟨255, rfl, by decide⟩
    · obtain ⟨n, rfl⟩ := Int.eq_ofNat_of_zero_le m0
      exact ⟨n, rfl, by omega⟩
  obtain ⟨n, rfl, hn⟩ := hv
  have e1' : cl (k + 2) 17 [.ref 0, .int ((os.length : Int) + 1)] (cupS a b []) = .ok (.int p) (cupS a1 b1 []) := e1
  have e2' : cl (k + 2) 17 [.ref 0, .int 4] (cupS a1 b1 []) = .ok (.int w) (cupS a2 b2 []) := e2
  have e3' : cl (k + 2) 17 [.ref 0, .int 256] (cupS a2 b2 []) = .ok (.int m) (cupS a3 b3 []) := e3
  have nl := nts_len os
  have s15 : 15 ≤ sizeLine := by decide
  have s1 : 1 ≤ sizeLine := by decide
  have hp : p ≤ os.length := by omega
  have big5 : 200000 ≤ sizeLine := by decide
  have t1 := cut_take os p
  have d0 := cut_drop os p
  have d1 := cut_drop os (p + 1)
  have ep : ((p + 1 : Nat) : Int) = (p : Int) + 1 := by omega
  rw [ep] at d1
  have l0 : (nts (os.take p)).length = p := by rw [nts_len, List.length_take, Nat.min_eq_left hp]
  have l1 : (nts (os.drop (p + 1))).length = os.length - (p + 1) := by rw [nts_len, List.length_drop]
  have l2 : (nts (os.drop p)).length = os.length - p := by rw [nts_len, List.length_drop]
  have n1 : PV.int (n : Int) :: nts (os.drop (p + 1)) = nts ([n] ++ os.drop (p + 1)) := rfl
  have n2 : PV.int (n : Int) :: nts (os.drop p) = nts ([n] ++ os.drop p) := rfl
  by_cases w00 : w = 0
  · subst w00
    refine ⟨os.take p ++ os.drop (p + 1), _, ?_, fun o ho => ?_, ?_, ⟨a4, b4, rfl⟩⟩
    · have sz : p + (os.length - (p + 1)) ≤ sizeLine := by omega
      simp [b_law_bent, envOf, nl, e1', e2', e3', e4, s15, t1, d1, l0, l1, sz, nts_app]
    · rcases List.mem_append.mp ho with ho | ho
      · exact h o (List.mem_of_mem_take ho)
      · exact h o (List.mem_of_mem_drop ho)
    · simp only [List.length_append, List.length_take, List.length_drop]; omega
  by_cases w3 : w < 3
  · refine ⟨os.take p ++ ([n] ++ os.drop (p + 1)), _, ?_, mem_take_drop h n hn p (p + 1), ?_, ⟨a4, b4, rfl⟩⟩
    · have sz : p + 1 ≤ sizeLine := by omega
      have sz2 : p + 1 + (os.length - (p + 1)) ≤ sizeLine := by omega
      rw [← nts_app, ← n1]
      simp [b_law_bent, envOf, nl, e1', e2', e3', e4, s15, s1, t1, d1, l0, l1, sz, sz2, w00, w3]
    · simp only [List.length_append, List.length_take, List.length_drop, List.length_singleton]; omega
  · refine ⟨os.take p ++ ([n] ++ os.drop p), _, ?_, mem_take_drop h n hn p p, ?_, ⟨a4, b4, rfl⟩⟩
    · have sz : p + 1 ≤ sizeLine := by omega
      have sz2 : p + 1 + (os.length - p) ≤ sizeLine := by omega
      rw [← nts_app, ← n2]
      simp [b_law_bent, envOf, nl, e1', e2', e3', e4, s15, s1, t1, d0, l0, l2, sz, sz2, w00, w3]
    · simp only [List.length_append, List.length_take, List.length_drop, List.length_singleton]; omega
end K69

/-! Z69: the law's checks. -/
namespace K69
open PySem EV
variable {k : Nat} {S : Sto}
mutual
theorem rep_up : ∀ (v : PV) {n m : Nat}, n ≤ m → rep v n = true → rep v m = true
  | .tup xs, n, m, hm, h => by
    simp only [rep, Bool.and_eq_true, decide_eq_true_eq] at h ⊢
    exact ⟨by omega, reps_up xs (by omega) h.2⟩
  | .non, n, m, _, h => rfl
  | .bl _, n, m, _, h => rfl
  | .int _, n, m, _, h => h
  | .str _, n, m, _, h => h
  | .lst _, n, m, _, h => h
  | .ref _, n, m, _, h => h
  | .scr _, n, m, _, h => h
theorem reps_up : ∀ (xs : List PV) {n m : Nat}, n ≤ m → reps xs n = true → reps xs m = true
  | [], n, m, _, h => rfl
  | x :: r, n, m, hm, h => by
    simp only [reps, Bool.and_eq_true] at h ⊢
    exact ⟨rep_up x hm h.1, reps_up r hm h.2⟩
end
theorem pvo_rep {os : List Nat} (hz : os.length ≤ 10000) (p : Nat) : rep (pvo (rd 41 os p 1)) 60 = true ∧ wgt (pvo (rd 41 os p 1)) ≤ 800000 := by
  cases h : rd 41 os p 1 with
  | none => exact ⟨rfl, Nat.zero_le _⟩
  | some vq =>
    obtain ⟨v, q⟩ := vq
    obtain ⟨h1, h2, h3, h4⟩ := rd_ok os 41 p 1 v q h
    have h5 := rep_up v (m := 59) (by decide) h3
    constructor
    · simp only [pvo, rep, reps, h5, Bool.true_and, Bool.and_true]
      simp
      omega
    · simp only [pvo, wgt, wgts]
      omega
theorem same_pvo {os : List Nat} (hz : os.length ≤ 10000) (p : Nat) : cl (k + 1) 22 [pvo (rd 41 os p 1), pvo (rd 41 os p 1)] S = .ok (.bl true) S :=
  same (pvo_rep hz p).1 (pvo_rep hz p).2
theorem eqv_ints : ∀ l : List Nat, PyData.eqvAll (l.map fun (n : Nat) => PyData.int (n : Int)) (l.map fun (n : Nat) => PyData.int (n : Int)) = true
  | [] => rfl
  | n :: r => by
    simp only [List.map_cons, PyData.eqvAll, PyData.eqv, eqv_ints r, beq_self_eq_true, Bool.and_self]
theorem toDs_nts : ∀ l : List Nat, toDs (nts l) = some (l.map fun (n : Nat) => PyData.int (n : Int))
  | [] => rfl
  | n :: r => by
    have e : nts (n :: r) = .int (n : Int) :: nts r := rfl
    rw [e]
    simp only [toDs, toD, toDs_nts r]
    rfl
theorem lays_nts (l : List Nat) (n : Nat) : lays (nts l) n = true := by
  rw [lays_mem]
  intro x hx
  obtain ⟨a, _, rfl⟩ := List.mem_map.mp hx
  rfl
theorem ne_nts (l : List Nat) : cmpOp S .ne (.tup (nts l)) (.tup (nts l)) = some false := by
  obtain ⟨d, h1, h2⟩ := lay_shD (v := .tup (nts l)) (by simp only [lay, lays_nts]; rfl)
  have e : toD (.tup (nts l)) = some (.tuple (l.map fun (n : Nat) => PyData.int (n : Int))) := by simp only [toD, toDs_nts]; rfl
  rw [e] at h1
  cases h1
  show (eqP (.tup (nts l)) (.tup (nts l))).map (!·) = _
  unfold eqP
  rw [e]
  show (if shD _ = true ∧ shD _ = true then some (PyData.eqv _ _) else none).map (!·) = _
  rw [if_pos ⟨h2, h2⟩]
  simp only [PyData.eqv, eqv_ints]
  rfl
/-- reading back what was written, shown -/
theorem back {v : PV} {a b : List Nat} (h : fit v 1 = true) (ha : ∀ o ∈ a ++ octs v ++ b, o < 256) (hz : (a ++ octs v ++ b).length ≤ 10000) :
    cl (k + 86) 15 [.tup (nts (a ++ octs v ++ b)), .int a.length] S = .ok (.tup [v, .int ((a.length : Int) + (octs v).length)]) S ∧ cl (k + 1) 22 [.tup [v, .int ((a.length : Int) + (octs v).length)], .tup [v, .int ((a.length : Int) + (octs v).length)]] S = .ok (.bl true) S := by
  have tb := there_back v a b h
  have rt := read_thing (k := k) (S := S) (os := a ++ octs v ++ b) a.length ha (by omega) (by simp only [List.length_append]; omega)
  have sp := same_pvo (k := k) (S := S) (os := a ++ octs v ++ b) hz a.length
  rw [tb] at rt sp
  have e : pvo (some (v, a.length + (octs v).length)) = .tup [v, .int ((a.length : Int) + (octs v).length)] := by
    show PV.tup [v, .int ((a.length + (octs v).length : Nat) : Int)] = _
    rw [show ((a.length + (octs v).length : Nat) : Int) = (a.length : Int) + (octs v).length from by omega]
  rw [e] at rt sp
  exact ⟨rt, sp⟩
end K69

/-! L69: the law's turns. -/
namespace K69
open PySem EV
def f0 : EV.S := (.set (.nm 8) (.call 18 (.cons (.var 1) (.cons (.lst (.cons (.cst (.int 0)) (.cons (.cst (.int 0)) (.cons (.call 17 (.cons (.var 1) (.cons (.bin .add (.blt .len (.cons (.var 7) .nil)) (.cst (.int 1))) .nil))) .nil)))) .nil))))
def f1 : EV.S := (.cnd (.not (.val (.call 22 (.cons (.call 15 (.cons (.var 7) (.cons (.var 8) .nil))) (.cons (.call 24 (.cons (.var 7) (.cons (.var 8) (.cons (.cst (.int 1)) .nil)))) .nil))))) (.cons (.ret (.cst (.bl false))) .nil) .nil)
def fB : Ss := .cons f0 (.cons f1 .nil)
def fI : IT := (.seq (.tup (.cons (.call 25 (.cons (.var 1) (.cons (.var 4) .nil))) (.cons (.blt .tuple (.cons (.lc (.nm 6) (.rng (.call 17 (.cons (.var 1) (.cons (.cst (.int 7)) .nil)))) .no (.call 18 (.cons (.var 1) (.cons (.lst (.cons (.cst (.int 1)) (.cons (.cst (.int 2)) (.cons (.cst (.int 4)) (.cons (.cst (.int 5)) (.cons (.cst (.int 6)) (.cons (.cst (.int 7)) (.cons (.cst (.int 0)) (.cons (.cst (.int 65)) .nil))))))))) .nil))) [6]) .nil)) .nil))))
def c0 : EV.S := (.set (.nm 3) (.call 19 (.cons (.var 1) (.cons (.cst (.int 3)) .nil))))
def c1 : EV.S := (.set (.nm 4) (.blt .tuple (.cons (.call 21 (.cons (.var 3) .nil)) .nil)))
def c2 : EV.S := (.cnd (.or (.val (.cmp .isn (.call 13 (.cons (.var 3) .nil)) (.cst (.bl true)))) (.or (.val (.cmp .ne (.call 14 (.cons (.var 3) .nil)) (.var 4))) (.not (.val (.call 22 (.cons (.call 15 (.cons (.var 4) (.cons (.cst (.int 0)) .nil))) (.cons (.tup (.cons (.var 3) (.cons (.blt .len (.cons (.var 4) .nil)) .nil))) .nil))))))) (.cons (.ret (.cst (.bl false))) .nil) .nil)
def c3 : EV.S := (.set (.nm 5) (.blt .tuple (.cons (.lc (.nm 6) (.rng (.call 17 (.cons (.var 1) (.cons (.cst (.int 4)) .nil)))) .no (.call 17 (.cons (.var 1) (.cons (.cst (.int 256)) .nil))) [6]) .nil)))
def c4 : EV.S := (.cnd (.not (.val (.call 22 (.cons (.call 15 (.cons (.bin .add (.bin .add (.var 5) (.var 4)) (.var 5)) (.cons (.blt .len (.cons (.var 5) .nil)) .nil))) (.cons (.tup (.cons (.var 3) (.cons (.bin .add (.blt .len (.cons (.var 5) .nil)) (.blt .len (.cons (.var 4) .nil))) .nil))) .nil))))) (.cons (.ret (.cst (.bl false))) .nil) .nil)
def c5 : EV.S := .for (.nm 7) fI fB
def cB : Ss := .cons c0 (.cons c1 (.cons c2 (.cons c3 (.cons c4 (.cons c5 .nil)))))
def l0 : EV.S := (.set (.nm 1) (.call 16 (.cons (.var 0) .nil)))
def l2 : EV.S := (.set (.nm 9) (.lst (.cons (.tup (.cons (.cst (.str "?x")) (.cons (.tup (.cons (.cst (.int 6)) (.cons (.cst (.int 2)) (.cons (.cst (.int 63)) (.cons (.cst (.int 120)) .nil))))) .nil))) (.cons (.tup (.cons (.cst .non) (.cons (.tup (.cons (.cst (.int 1)) .nil)) .nil))) (.cons (.tup (.cons (.cst (.bl false)) (.cons (.tup (.cons (.cst (.int 2)) .nil)) .nil))) (.cons (.tup (.cons (.cst (.int 0)) (.cons (.tup (.cons (.cst (.int 4)) (.cons (.cst (.int 0)) .nil))) .nil))) (.cons (.tup (.cons (.cst (.int 256)) (.cons (.tup (.cons (.cst (.int 4)) (.cons (.cst (.int 2)) (.cons (.cst (.int 1)) (.cons (.cst (.int 0)) .nil))))) .nil))) (.cons (.tup (.cons (.neg (.cst (.int 1))) (.cons (.tup (.cons (.cst (.int 5)) (.cons (.cst (.int 1)) (.cons (.cst (.int 1)) .nil)))) .nil))) (.cons (.tup (.cons (.cst (.str "ab")) (.cons (.tup (.cons (.cst (.int 6)) (.cons (.cst (.int 2)) (.cons (.cst (.int 97)) (.cons (.cst (.int 98)) .nil))))) .nil))) (.cons (.tup (.cons (.tup .nil) (.cons (.tup (.cons (.cst (.int 7)) (.cons (.cst (.int 0)) .nil))) .nil))) (.cons (.tup (.cons (.tup (.cons (.cst (.bl true)) (.cons (.tup .nil) .nil))) (.cons (.tup (.cons (.cst (.int 7)) (.cons (.cst (.int 2)) (.cons (.cst (.int 3)) (.cons (.cst (.int 7)) (.cons (.cst (.int 0)) .nil)))))) .nil))) .nil)))))))))))
def l3 : EV.S := (.cnd (.val (.cmp .ne (.lc (.two 3 4) (.seq (.var 9)) (.so (.or (.val (.cmp .ne (.call 14 (.cons (.var 3) .nil)) (.var 4))) (.not (.val (.call 22 (.cons (.call 15 (.cons (.var 4) (.cons (.cst (.int 0)) .nil))) (.cons (.tup (.cons (.var 3) (.cons (.blt .len (.cons (.var 4) .nil)) .nil))) .nil))))))) (.cst (.int 1)) [3, 4]) (.lst .nil))) (.cons (.ret (.cst (.bl false))) .nil) .nil)
def l4 : EV.S := (.set (.nm 10) (.tup .nil))
def l5 : EV.S := (.for (.nm 2) (.rng (.cst (.int 39))) (.cons (.set (.nm 10) (.tup (.cons (.var 10) .nil))) .nil))
def l6 : EV.S := (.set (.nm 11) (.cst (.int 1)))
def l7 : EV.S := (.for (.nm 2) (.rng (.cst (.int 40))) (.cons (.set (.nm 11) (.tup (.cons (.var 11) .nil))) .nil))
def l9 : EV.S := (.set (.nm 13) (.lst (.cons (.tup .nil) (.cons (.tup (.cons (.cst (.int 0)) .nil)) (.cons (.tup (.cons (.cst (.int 8)) (.cons (.cst (.int 0)) .nil))) (.cons (.tup (.cons (.cst (.int 4)) .nil)) (.cons (.tup (.cons (.cst (.int 4)) (.cons (.cst (.int 1)) .nil))) (.cons (.tup (.cons (.cst (.int 4)) (.cons (.cst (.int 1)) (.cons (.cst (.int 0)) .nil)))) (.cons (.tup (.cons (.cst (.int 4)) (.cons (.cst (.int 2)) (.cons (.cst (.int 0)) (.cons (.cst (.int 7)) .nil))))) (.cons (.tup (.cons (.cst (.int 5)) (.cons (.cst (.int 0)) .nil))) (.cons (.tup (.cons (.cst (.int 6)) (.cons (.cst (.int 1)) .nil))) (.cons (.tup (.cons (.cst (.int 6)) (.cons (.cst (.int 1)) (.cons (.cst (.int 10)) .nil)))) (.cons (.tup (.cons (.cst (.int 6)) (.cons (.cst (.int 1)) (.cons (.cst (.int 37)) .nil)))) (.cons (.tup (.cons (.cst (.int 7)) .nil)) (.cons (.tup (.cons (.cst (.int 7)) (.cons (.cst (.int 1)) .nil))) (.cons (.tup (.cons (.cst (.int 7)) (.cons (.cst (.int 2)) (.cons (.cst (.int 1)) .nil)))) .nil))))))))))))))))
def l10 : EV.S := (.ret (.and (.cmp .eq (.lc (.nm 14) (.seq (.var 13)) (.so (.val (.cmp .isn (.call 15 (.cons (.var 14) (.cons (.cst (.int 0)) .nil))) (.cst .non)))) (.var 14) [14]) (.lst .nil)) (.cmp .eq (.lc (.nm 14) (.seq (.tup (.cons (.lst .nil) (.cons (.lst (.cons (.cst (.int 1)) .nil)) (.cons (.tup (.cons (.cst (.int 1)) (.cons (.lst (.cons (.cst (.int 2)) .nil)) .nil))) (.cons (.cst (.str "\n")) (.cons (.cst (.str "\t")) (.cons (.tup (.cons (.cst (.str "a")) (.cons (.tup (.cons (.cst (.str "\n")) .nil)) .nil))) .nil)))))))) (.so (.val (.cmp .isn (.call 13 (.cons (.var 14) .nil)) (.cst (.bl false))))) (.var 14) [14]) (.lst .nil))))
def gI : IT := (.seq (.tup (.cons (.tup (.cons (.var 10) (.cons (.tup (.cons (.var 10) .nil)) .nil))) (.cons (.tup (.cons (.var 11) (.cons (.tup (.cons (.var 11) .nil)) .nil))) (.cons (.tup (.cons (.bin .mul (.tup (.cons (.cst (.int 0)) .nil)) (.cst (.int 64))) (.cons (.bin .mul (.tup (.cons (.cst (.int 0)) .nil)) (.cst (.int 65))) .nil))) (.cons (.tup (.cons (.bin .mul (.cst (.str "x")) (.cst (.int 40))) (.cons (.bin .mul (.cst (.str "x")) (.cst (.int 41))) .nil))) (.cons (.tup (.cons (.bin .pow (.cst (.int 10)) (.cst (.int 12))) (.cons (.bin .add (.bin .pow (.cst (.int 10)) (.cst (.int 12))) (.cst (.int 1))) .nil))) (.cons (.tup (.cons (.neg (.bin .pow (.cst (.int 10)) (.cst (.int 12)))) (.cons (.bin .sub (.neg (.bin .pow (.cst (.int 10)) (.cst (.int 12)))) (.cst (.int 1))) .nil))) (.cons (.tup (.cons (.cst (.str "~ ")) (.cons (.cst (.str "it's")) .nil))) .nil)))))))))
def gB : Ss := (.cons (.cnd (.or (.val (.cmp .isn (.call 13 (.cons (.var 3) .nil)) (.cst (.bl true)))) (.or (.val (.cmp .isn (.call 13 (.cons (.var 12) .nil)) (.cst (.bl false)))) (.not (.val (.call 22 (.cons (.call 15 (.cons (.call 14 (.cons (.var 3) .nil)) (.cons (.cst (.int 0)) .nil))) (.cons (.tup (.cons (.var 3) (.cons (.blt .len (.cons (.call 21 (.cons (.var 3) .nil)) .nil)) .nil))) .nil))))))) (.cons (.ret (.cst (.bl false))) .nil) .nil) (.cons (.cnd (.val (.cmp .isn (.call 15 (.cons (.blt .tuple (.cons (.call 21 (.cons (.var 12) .nil)) .nil)) (.cons (.cst (.int 0)) .nil))) (.cst .non))) (.cons (.ret (.cst (.bl false))) .nil) .nil) .nil))
def l1 : EV.S := .for (.nm 2) (.rng (.cst (.int 6))) cB
def l8 : EV.S := .for (.two 3 12) gI gB
theorem b_lw : b_law = .cons l0 (.cons l1 (.cons l2 (.cons l3 (.cons l4 (.cons l5 (.cons l6 (.cons l7 (.cons l8 (.cons l9 (.cons l10 .nil)))))))))) := rfl
section
variable {e0 e1 e2 e3 e4 e5 e6 e7 e8 e9 e10 e11 e12 e13 e14 : Option SV}
theorem f_turn (os : List Nat) (h : ∀ o ∈ os, o < 256) (hz : os.length ≤ 10000) (a b : Int) : ∃ p S', exSs (cl 99) fB [e0, some (.val (.ref 0)), e2, e3, e4, e5, e6, some (.val (.tup (nts os))), e8, e9, e10, e11, e12, e13, e14] (cupS a b []) =
    .ok (.next [e0, some (.val (.ref 0)), e2, e3, e4, e5, e6, some (.val (.tup (nts os))), some p, e9, e10, e11, e12, e13, e14]) S' ∧ CupC S' := by
  obtain ⟨x, a1, b1, r1, x0, x1⟩ := roll (k := 98) ((os.length : Int) + 1) a b (by omega) (by omega)
  obtain ⟨v, a2, b2, r2, m⟩ := some_ (k := 97) (.lst [.int 0, .int 0, .int x]) _ (.inl rfl) a1 b1 (by simp) (by simp)
  have hv : ∃ p : Nat, v = .int (p : Int) ∧ p ≤ os.length := by
    obtain ⟨n, rfl⟩ := Int.eq_ofNat_of_zero_le x0
    simp only [List.mem_cons, List.not_mem_nil, or_false] at m
    rcases m with rfl | rfl | rfl
    · exact ⟨0, rfl, Nat.zero_le _⟩
    · exact ⟨0, rfl, Nat.zero_le _⟩
    · exact ⟨n, rfl, by omega⟩
  obtain ⟨p, rfl, hp⟩ := hv
  have s3 : 3 ≤ sizeLine := by decide
  have nl := nts_len os
  have r1' : cl 99 17 [.ref 0, .int ((os.length : Int) + 1)] (cupS a b []) = .ok (.int x) (cupS a1 b1 []) := r1
  have r2' : cl 99 18 [.ref 0, .lst [.int 0, .int 0, .int x]] (cupS a1 b1 []) = .ok (.int p) (cupS a2 b2 []) := r2
  have t1 : cl 99 15 [.tup (nts os), .int p] (cupS a2 b2 []) = .ok (pvo (rd 41 os p 1)) (cupS a2 b2 []) := read_thing (k := 13) p h (by omega) hp
  have t2 : cl 99 24 [.tup (nts os), .int p, .int 1] (cupS a2 b2 []) = .ok (pvo (rd 41 os p 1)) (cupS a2 b2 []) := law_read (k := 57) os (by omega) 41 p 1 (by decide) (by decide)
  have t3 : cl 99 22 [pvo (rd 41 os p 1), pvo (rd 41 os p 1)] (cupS a2 b2 []) = .ok (.bl true) (cupS a2 b2 []) := same_pvo (k := 98) hz p
  refine ⟨.val (.int p), cupS a2 b2 [], ?_, ⟨a2, b2, rfl⟩⟩
  generalize pvo (rd 41 os p 1) = w at t1 t2 t3
  simp [fB, f0, f1, nl, s3, r1', r2', t1, t2, t3]
theorem to_nts : ∀ {vs : List PV}, (∀ v ∈ vs, ∃ n : Nat, v = .int (n : Int) ∧ n < 256) → ∃ ns : List Nat, vs = nts ns ∧ ∀ o ∈ ns, o < 256
  | [], _ => ⟨[], rfl, by simp⟩
  | v :: r, h => by
    obtain ⟨n, rfl, hn⟩ := h v (List.mem_cons_self ..)
    obtain ⟨ns, hr, h2⟩ := to_nts fun w hw => h w (List.mem_cons_of_mem _ hw)
    refine ⟨n :: ns, by rw [hr]; rfl, fun o ho => ?_⟩
    rcases List.mem_cons.mp ho with rfl | ho
    · exact hn
    · exact h2 o ho
theorem c01 (a b : Int) : ∃ v S', (∀ rest : Ss, exSs (cl 99) (.cons c0 (.cons c1 rest)) [e0, some (.val (.ref 0)), e2, e3, e4, e5, e6, e7, e8, e9, e10, e11, e12, e13, e14] (cupS a b []) =
    exSs (cl 99) rest [e0, some (.val (.ref 0)), e2, some (.val v), some (.val (.tup (nts (octs v)))), e5, e6, e7, e8, e9, e10, e11, e12, e13, e14] S') ∧ Gen 3 v ∧ CupC S' := by
  obtain ⟨v, S', h1, g, hC⟩ := law_thing (k := 93) 3 a b
  have h1' : cl 99 19 [.ref 0, .int 3] (cupS a b []) = .ok v S' := h1
  have hl : (octs v).length ≤ sizeLine := by
    have := g.len
    have e : Bo 3 = 3570 := rfl
    have : 3570 ≤ sizeLine := by decide
    omega
  have h2 : cl 99 21 [v] S' = .ok (.lst (nts (octs v))) S' := law_octets (k := 94) v 3 g.dom hl
  exact ⟨v, S', fun rest => by simp [c0, c1, h1', h2], g, hC⟩
theorem gen_len {v : PV} (g : Gen 3 v) : (octs v).length ≤ 3570 := g.len
theorem c2_ok {v : PV} {S : Sto} (g : Gen 3 v) : exS (cl 99) c2 [e0, e1, e2, some (.val v), some (.val (.tup (nts (octs v)))), e5, e6, e7, e8, e9, e10, e11, e12, e13, e14] S =
    .ok (.next [e0, e1, e2, some (.val v), some (.val (.tup (nts (octs v)))), e5, e6, e7, e8, e9, e10, e11, e12, e13, e14]) S := by
  have gl := gen_len g
  have s3570 : 3570 ≤ sizeLine := by decide
  have hw : wt v ≤ sizeLine := by
    have := g.wt
    have e : Bo 3 = 3570 := rfl
    omega
  have hf : fit v 1 = true := g.fit 1 (by decide)
  have hy : lay v 60 = true := lay_up v (by decide) g.lay
  have t1 : cl 99 13 [v] S = .ok (.bl true) S := by
    have := is_thing (k := 94) (S := S) v hy hw
    rw [hf] at this
    exact this
  have t2 : cl 99 14 [v] S = .ok (.tup (nts (octs v))) S := thing_octets (k := 90) v 3 hy hw hf g.dom (by omega)
  have t3 := ne_nts (S := S) (octs v)
  have bk := back (k := 13) (S := S) (v := v) (a := []) (b := []) hf (by simpa using g.lt) (by simp; omega)
  simp only [List.nil_append, List.append_nil, List.length_nil] at bk
  have z : ((0 : Nat) : Int) + ((octs v).length : Int) = (octs v).length := by omega
  rw [z] at bk
  have t4 : cl 99 15 [.tup (nts (octs v)), .int 0] S = .ok (.tup [v, .int (octs v).length]) S := bk.1
  have bk2 := back (k := 98) (S := S) (v := v) (a := []) (b := []) hf (by simpa using g.lt) (by simp; omega)
  simp only [List.nil_append, List.append_nil, List.length_nil] at bk2
  rw [z] at bk2
  have t5 : cl 99 22 [.tup [v, .int (octs v).length], .tup [v, .int (octs v).length]] S = .ok (.bl true) S := bk2.2
  have s2 : 2 ≤ sizeLine := by decide
  have nl := nts_len (octs v)
  simp [c2, t1, t2, t3, t4, t5, s2, nl]
theorem rolls (i : Nat) (ρ : EV.Env) (many : Int) (h0 : 0 < many) (h1 : many ≤ 256) (hr : ∀ x, (ρ.set i (some (.val x)))[1]? = some (some (.val (.ref 0)))) (xs : List PV) (S : Sto) (hC : CupC S) :
    ∃ ns S', lcGo (.nm i) (evTo (cl 99) .no) (evE (cl 99) false (.call 17 (.cons (.var 1) (.cons (.cst (.int many)) .nil)))) .no ρ xs [] S = .ok (nts ns) S' ∧ ns.length = xs.length ∧ (∀ o ∈ ns, o < 256) ∧ CupC S' := by
  obtain ⟨vs, S', l1, l2, l3, l4⟩ := lc_st (i := i) (e := evE (cl 99) false (.call 17 (.cons (.var 1) (.cons (.cst (.int many)) .nil)))) (cal := cl 99) (ρ := ρ) (P := fun v => ∃ n : Nat, v = .int (n : Int) ∧ n < 256) (C := CupC) xs [] S (fun x S hx ⟨a, b, hS⟩ => by
    subst hS
    obtain ⟨y, a1, b1, r1, y0, y1⟩ := roll (k := 98) many a b h0 (by omega)
    have r1' : cl 99 17 [.ref 0, .int many] (cupS a b []) = .ok (.int y) (cupS a1 b1 []) := r1
    obtain ⟨n, rfl⟩ := Int.eq_ofNat_of_zero_le y0
    exact ⟨_, _, by simp [hr x, r1'], ⟨n, rfl, by omega⟩, ⟨a1, b1, rfl⟩⟩) hC
  obtain ⟨ns, rfl, hn⟩ := to_nts l3
  exact ⟨ns, S', by rw [l1]; rfl, by rw [← l2, nts_len], hn, l4⟩
theorem c3_ok {S : Sto} (hC : CupC S) : ∃ ah S', exS (cl 99) c3 [e0, some (.val (.ref 0)), e2, e3, e4, e5, e6, e7, e8, e9, e10, e11, e12, e13, e14] S =
    .ok (.next [e0, some (.val (.ref 0)), e2, e3, e4, some (.val (.tup (nts ah))), e6, e7, e8, e9, e10, e11, e12, e13, e14]) S' ∧ (∀ o ∈ ah, o < 256) ∧ ah.length ≤ 3 ∧ CupC S' := by
  obtain ⟨a, b, rfl⟩ := hC
  obtain ⟨x, a1, b1, r1, x0, x1⟩ := roll (k := 98) 4 a b (by decide) (by decide)
  have r1' : cl 99 17 [.ref 0, .int 4] (cupS a b []) = .ok (.int x) (cupS a1 b1 []) := r1
  have g : rngOk x := rngOk_of x0 (by omega)
  obtain ⟨ns, S', l1, l2, l3, l4⟩ := rolls 6 (wipe [e0, some (.val (.ref 0)), e2, e3, e4, e5, e6, e7, e8, e9, e10, e11, e12, e13, e14] [6]) 256 (by decide) (by decide) (fun x => rfl) (rangeL x) (cupS a1 b1 []) ⟨a1, b1, rfl⟩
  have hl : (rangeL x).length ≤ 3 := by simp [rangeL]; omega
  have hl2 : (rangeL x).length ≤ sizeLine := by have := big; omega
  exact ⟨ns, S', by simp [c3, r1', g, hl2, l1, -lc_cons], l3, by omega, l4⟩
end
end K69

/-! M69: the law's turns, whole. -/
namespace K69
open PySem EV
section
variable {e0 e1 e2 e3 e4 e5 e6 e7 e8 e9 e10 e11 e12 e13 e14 : Option SV}
theorem c4_ok {v : PV} {ah : List Nat} {S : Sto} (g : Gen 3 v) (ha : ∀ o ∈ ah, o < 256) (hl : ah.length ≤ 3) : exS (cl 99) c4 [e0, e1, e2, some (.val v), some (.val (.tup (nts (octs v)))), some (.val (.tup (nts ah))), e6, e7, e8, e9, e10, e11, e12, e13, e14] S =
    .ok (.next [e0, e1, e2, some (.val v), some (.val (.tup (nts (octs v)))), some (.val (.tup (nts ah))), e6, e7, e8, e9, e10, e11, e12, e13, e14]) S := by
  have gl := gen_len g
  have s3570 : 4000 ≤ sizeLine := by decide
  have hf : fit v 1 = true := g.fit 1 (by decide)
  have all : ∀ o ∈ ah ++ octs v ++ ah, o < 256 := by
    intro o ho
    rcases List.mem_append.mp ho with ho | ho
    · rcases List.mem_append.mp ho with ho | ho
      · exact ha o ho
      · exact g.lt o ho
    · exact ha o ho
  have len : (ah ++ octs v ++ ah).length ≤ 10000 := by simp only [List.length_append]; omega
  have t4 : cl 99 15 [.tup (nts (ah ++ octs v ++ ah)), .int ah.length] S = .ok (.tup [v, .int ((ah.length : Int) + (octs v).length)]) S := (back (k := 13) (S := S) (v := v) (a := ah) (b := ah) hf all len).1
  have t5 : cl 99 22 [.tup [v, .int ((ah.length : Int) + (octs v).length)], .tup [v, .int ((ah.length : Int) + (octs v).length)]] S = .ok (.bl true) S := (back (k := 98) (S := S) (v := v) (a := ah) (b := ah) hf all len).2
  have s2 : 2 ≤ sizeLine := by decide
  have nl := nts_len (octs v)
  have nl2 := nts_len ah
  have z1 : (nts ah).length + (nts (octs v)).length ≤ sizeLine := by omega
  have z2 : (nts (ah ++ octs v)).length + (nts ah).length ≤ sizeLine := by rw [nts_len, List.length_append]; omega
  have z1' : ah.length + (octs v).length ≤ sizeLine := by omega
  have z2' : (nts (ah ++ octs v)).length + ah.length ≤ sizeLine := by rw [nts_len, List.length_append]; omega
  simp only [c4, s_cnd', t_not, t_val, e_call, es_cons, es_nil, e_bin, e_var, e_tup, e_blt, eq_cons, eq_nil, List.getElem?_cons_zero, List.getElem?_cons_succ, r_ok, o_some, b_addt, z1', if_true, nts_app, z2', l_tup, nl, nl2, t4, b_add, List.length_cons, List.length_nil, s2, t5, tr_bl, Bool.not_true, Bool.false_eq_true, if_false, ss_nil]
theorem c5_ok {v : PV} {S : Sto} (g : Gen 3 v) (hC : CupC S) : ∃ e7' e8' S', exS (cl 99) c5 [e0, some (.val (.ref 0)), e2, some (.val v), some (.val (.tup (nts (octs v)))), e5, e6, e7, e8, e9, e10, e11, e12, e13, e14] S =
    .ok (.next [e0, some (.val (.ref 0)), e2, some (.val v), some (.val (.tup (nts (octs v)))), e5, e6, e7', e8', e9, e10, e11, e12, e13, e14]) S' ∧ CupC S' := by
  have gl := gen_len g
  obtain ⟨a, b, rfl⟩ := hC
  obtain ⟨o1, S1, b1, b2, b3, a1, b1', rfl⟩ := law_bent (k := 96) (octs v) g.lt (by omega) a b
  have b1e : cl 99 25 [.ref 0, .tup (nts (octs v))] (cupS a b []) = .ok (.tup (nts o1)) (cupS a1 b1' []) := b1
  obtain ⟨x, a2, b2', r1, x0, x1⟩ := roll (k := 98) 7 a1 b1' (by decide) (by decide)
  have r1' : cl 99 17 [.ref 0, .int 7] (cupS a1 b1' []) = .ok (.int x) (cupS a2 b2' []) := r1
  have gk : rngOk x := rngOk_of x0 (by omega)
  have s8 : 8 ≤ sizeLine := by decide
  have hl : (rangeL x).length ≤ 6 := by simp [rangeL]; omega
  have hl2 : (rangeL x).length ≤ sizeLine := by have := big; omega
  have s2 : 2 ≤ sizeLine := by decide
  obtain ⟨vs, S2, l1, l2, l3, l4⟩ := lc_st (i := 6) (e := evE (cl 99) false (.call 18 (.cons (.var 1) (.cons (.lst (.cons (.cst (.int 1)) (.cons (.cst (.int 2)) (.cons (.cst (.int 4)) (.cons (.cst (.int 5)) (.cons (.cst (.int 6)) (.cons (.cst (.int 7)) (.cons (.cst (.int 0)) (.cons (.cst (.int 65)) .nil))))))))) .nil)))) (cal := cl 99)
    (ρ := wipe [e0, some (.val (.ref 0)), e2, some (.val v), some (.val (.tup (nts (octs v)))), e5, e6, e7, e8, e9, e10, e11, e12, e13, e14] [6]) (P := fun v => ∃ n : Nat, v = .int (n : Int) ∧ n < 256) (C := CupC) (rangeL x) [] (cupS a2 b2' []) (fun x S hx ⟨c, d, hS⟩ => by
    subst hS
    obtain ⟨w, c1, d1, q1, qm⟩ := some_ (k := 97) (.lst [.int 1, .int 2, .int 4, .int 5, .int 6, .int 7, .int 0, .int 65]) _ (.inl rfl) c d (by simp) (by simp)
    have q1' : cl 99 18 [.ref 0, .lst [.int 1, .int 2, .int 4, .int 5, .int 6, .int 7, .int 0, .int 65]] (cupS c d []) = .ok w (cupS c1 d1 []) := q1
    refine ⟨w, _, by simp [wipe, s8, q1'], ?_, ⟨c1, d1, rfl⟩⟩
    simp only [List.mem_cons, List.not_mem_nil, or_false] at qm
    rcases qm with rfl | rfl | rfl | rfl | rfl | rfl | rfl | rfl
    · exact ⟨1, rfl, by decide⟩
    · exact ⟨2, rfl, by decide⟩
    · exact ⟨4, rfl, by decide⟩
    · exact ⟨5, rfl, by decide⟩
    · exact ⟨6, rfl, by decide⟩
    · exact ⟨7, rfl, by decide⟩
    · exact ⟨0, rfl, by decide⟩
    · exact ⟨65, rfl, by decide⟩) ⟨a2, b2', rfl⟩
  obtain ⟨ns, rfl, hn⟩ := to_nts l3
  have nsl : ns.length ≤ 6 := by rw [← nts_len, l2]; exact hl
  obtain ⟨a3, b3', rfl⟩ := l4
  obtain ⟨p1, S3, t1, a4, b4', rfl⟩ := f_turn (e0 := e0) (e2 := e2) (e3 := some (.val v)) (e4 := some (.val (.tup (nts (octs v))))) (e5 := e5) (e6 := e6) (e8 := e8) (e9 := e9) (e10 := e10) (e11 := e11) (e12 := e12) (e13 := e13) (e14 := e14) o1 b2 (by omega) a3 b3'
  obtain ⟨p2, S4, t2, hC⟩ := f_turn (e0 := e0) (e2 := e2) (e3 := some (.val v)) (e4 := some (.val (.tup (nts (octs v))))) (e5 := e5) (e6 := e6) (e8 := some p1) (e9 := e9) (e10 := e10) (e11 := e11) (e12 := e12) (e13 := e13) (e14 := e14) ns hn (by omega) a4 b4'
  refine ⟨some (.val (.tup (nts ns))), some p2, S4, ?_, hC⟩
  simp only [List.nil_append] at l1
  have it : evI (cl 99) false fI [e0, some (.val (.ref 0)), e2, some (.val v), some (.val (.tup (nts (octs v)))), e5, e6, e7, e8, e9, e10, e11, e12, e13, e14] (cupS a b []) = .ok ([.tup (nts o1), .tup (nts ns)], .no) (cupS a3 b3' []) := by
    simp [fI, b1e, r1', gk, hl2, l1, s2, -lc_cons]
  simp only [c5, s_for', it, r_ok, for_cons, for_nil, as_nm, o_some, List.set, t1, t2, go_next]
/-- one turn -/
theorem turn {S : Sto} (hC : CupC S) : ∃ f3 f4 f5 f7 f8 S', exSs (cl 99) cB [e0, some (.val (.ref 0)), e2, e3, e4, e5, e6, e7, e8, e9, e10, e11, e12, e13, e14] S =
    .ok (.next [e0, some (.val (.ref 0)), e2, f3, f4, f5, e6, f7, f8, e9, e10, e11, e12, e13, e14]) S' ∧ CupC S' := by
  obtain ⟨a, b, rfl⟩ := hC
  obtain ⟨v, S1, h1, g, hC1⟩ := c01 (e0 := e0) (e2 := e2) (e3 := e3) (e4 := e4) (e5 := e5) (e6 := e6) (e7 := e7) (e8 := e8) (e9 := e9) (e10 := e10) (e11 := e11) (e12 := e12) (e13 := e13) (e14 := e14) a b
  obtain ⟨ah, S2, h3, ha, hl, hC2⟩ := c3_ok (e0 := e0) (e2 := e2) (e3 := some (.val v)) (e4 := some (.val (.tup (nts (octs v))))) (e5 := e5) (e6 := e6) (e7 := e7) (e8 := e8) (e9 := e9) (e10 := e10) (e11 := e11) (e12 := e12) (e13 := e13) (e14 := e14) hC1
  obtain ⟨f7, f8, S3, h5, hC3⟩ := c5_ok (e0 := e0) (e2 := e2) (e5 := some (.val (.tup (nts ah)))) (e6 := e6) (e7 := e7) (e8 := e8) (e9 := e9) (e10 := e10) (e11 := e11) (e12 := e12) (e13 := e13) (e14 := e14) g hC2
  refine ⟨some (.val v), some (.val (.tup (nts (octs v)))), some (.val (.tup (nts ah))), f7, f8, S3, ?_, hC3⟩
  unfold cB
  rw [h1]
  simp only [ss_cons, ss_nil, c2_ok g, h3, c4_ok g ha hl, h5, r_ok, go_next]
end
end K69

/-! N69: the law's closed rows. -/
namespace K69
open PySem EV
section
variable {e0 e1 e2 e3 e4 e5 e6 e7 e8 e9 e10 e11 e12 e13 e14 : Option SV}
theorem turns : ∀ (xs : List PV) (e2 e3 e4 e5 e7 e8 : Option SV) (S : Sto), CupC S → ∃ f2 f3 f4 f5 f7 f8 S', forGo (.nm 2) (exSs (cl 99) cB) .no xs [e0, some (.val (.ref 0)), e2, e3, e4, e5, e6, e7, e8, e9, e10, e11, e12, e13, e14] S =
    .ok (.next [e0, some (.val (.ref 0)), f2, f3, f4, f5, e6, f7, f8, e9, e10, e11, e12, e13, e14]) S' ∧ CupC S'
  | [], e2, e3, e4, e5, e7, e8, S, hC => ⟨e2, e3, e4, e5, e7, e8, S, by simp, hC⟩
  | x :: xs, e2, e3, e4, e5, e7, e8, S, hC => by
    obtain ⟨f3, f4, f5, f7, f8, S1, h1, hC1⟩ := turn (e0 := e0) (e2 := some (.val x)) (e3 := e3) (e4 := e4) (e5 := e5) (e6 := e6) (e7 := e7) (e8 := e8) (e9 := e9) (e10 := e10) (e11 := e11) (e12 := e12) (e13 := e13) (e14 := e14) hC
    obtain ⟨g2, g3, g4, g5, g7, g8, S2, h2, hC2⟩ := turns xs (some (.val x)) f3 f4 f5 f7 f8 S1 hC1
    refine ⟨g2, g3, g4, g5, g7, g8, S2, ?_, hC2⟩
    simp only [for_cons, as_nm, o_some, r_ok, List.set, h1, go_next, h2]
/-- what is asked of a thing that fits -/
structure Fits (v : PV) : Prop where
  fit : fit v 1 = true
  lay : lay v 60 = true
  dom : dom v 60 = true
  wt : wt v ≤ 10000
  lt : ∀ o ∈ octs v, o < 256
  len : (octs v).length ≤ 9000
theorem Fits.octets {v : PV} {S : Sto} (F : Fits v) : cl 99 14 [v] S = .ok (.tup (nts (octs v))) S :=
  thing_octets (k := 33) v 60 F.lay (by have : 10000 ≤ sizeLine := by decide
                                        have := F.wt
                                        omega) F.fit F.dom (by have : 10000 ≤ sizeLine := by decide
                                                               have := F.len
                                                               omega)
theorem Fits.back {v : PV} {S : Sto} (F : Fits v) : cl 99 15 [.tup (nts (octs v)), .int 0] S = .ok (.tup [v, .int (octs v).length]) S ∧ cl 99 22 [.tup [v, .int (octs v).length], .tup [v, .int (octs v).length]] S = .ok (.bl true) S := by
  have fl := F.len
  have z : ((0 : Nat) : Int) + ((octs v).length : Int) = (octs v).length := by omega
  have bk := K69.back (k := 13) (S := S) (v := v) (a := []) (b := []) F.fit (by simpa using F.lt) (by simp; omega)
  have bk2 := K69.back (k := 98) (S := S) (v := v) (a := []) (b := []) F.fit (by simpa using F.lt) (by simp; omega)
  simp only [List.nil_append, List.append_nil, List.length_nil] at bk bk2
  rw [z] at bk bk2
  exact ⟨bk.1, bk2.2⟩
def rowT : T := .or (.val (.cmp .ne (.call 14 (.cons (.var 3) .nil)) (.var 4))) (.not (.val (.call 22 (.cons (.call 15 (.cons (.var 4) (.cons (.cst (.int 0)) .nil))) (.cons (.tup (.cons (.var 3) (.cons (.blt .len (.cons (.var 4) .nil)) .nil))) .nil)))))
theorem row_no {v : PV} {S : Sto} (F : Fits v) : evT (cl 99) rowT [e0, e1, e2, some (.val v), some (.val (.tup (nts (octs v)))), e5, e6, e7, e8, e9, e10, e11, e12, e13, e14] S = .ok false S := by
  have t2 := F.octets (S := S)
  obtain ⟨t4, t5⟩ := F.back (S := S)
  have t3 := ne_nts (S := S) (octs v)
  have s2 : 2 ≤ sizeLine := by decide
  have nl := nts_len (octs v)
  simp [rowT, t2, t3, t4, t5, s2, nl]
def rowVs : List PV := [.str "?x", .non, .bl false, .int 0, .int 256, .int (-1), .str "ab", .tup [], .tup [.bl true, .tup []]]
theorem row_fits : ∀ v ∈ rowVs, Fits v := by
  have hb : (rowVs.all fun v => fit v 1 && (lay v 60 && (dom v 60 && (decide (wt v ≤ 10000) && ((octs v).all (fun o => decide (o < 256)) && decide ((octs v).length ≤ 9000)))))) = true := by decide +kernel
  intro v hv
  have h := List.all_eq_true.mp hb v hv
  simp only [Bool.and_eq_true, decide_eq_true_eq, List.all_eq_true] at h
  obtain ⟨h1, h2, h3, h4, h5, h6⟩ := h
  exact ⟨h1, h2, h3, h4, h5, h6⟩
def rows : List PV := rowVs.map fun v => .tup [v, .tup (nts (octs v))]
theorem rows_eq : [PV.tup [.str "?x", .tup [.int 6, .int 2, .int 63, .int 120]], .tup [.non, .tup [.int 1]], .tup [.bl false, .tup [.int 2]], .tup [.int 0, .tup [.int 4, .int 0]], .tup [.int 256, .tup [.int 4, .int 2, .int 1, .int 0]], .tup [.int (-1), .tup [.int 5, .int 1, .int 1]],
    .tup [.str "ab", .tup [.int 6, .int 2, .int 97, .int 98]], .tup [.tup [], .tup [.int 7, .int 0]], .tup [.tup [.bl true, .tup []], .tup [.int 7, .int 2, .int 3, .int 7, .int 0]]] = rows := by kernel_rfl
theorem sz : 0 ≤ sizeLine ∧ 1 ≤ sizeLine ∧ 2 ≤ sizeLine ∧ 3 ≤ sizeLine ∧ 4 ≤ sizeLine ∧ 5 ≤ sizeLine ∧ 6 ≤ sizeLine ∧ 7 ≤ sizeLine ∧ 8 ≤ sizeLine ∧ 9 ≤ sizeLine ∧ 14 ≤ sizeLine := by decide
theorem l2_ok {S : Sto} : exS (cl 99) l2 [e0, e1, e2, e3, e4, e5, e6, e7, e8, e9, e10, e11, e12, e13, e14] S = .ok (.next [e0, e1, e2, e3, e4, e5, e6, e7, e8, some (.val (.lst rows)), e10, e11, e12, e13, e14]) S := by
  obtain ⟨s0, s1, s2, s3, s4, s5, s6, s7, s8, s9, s14⟩ := sz
  rw [← rows_eq]
  simp [l2, s0, s1, s2, s3, s4, s5, s9]
theorem l3_ok {S : Sto} : exS (cl 99) l3 [e0, e1, e2, e3, e4, e5, e6, e7, e8, some (.val (.lst rows)), e10, e11, e12, e13, e14] S = .ok (.next [e0, e1, e2, e3, e4, e5, e6, e7, e8, some (.val (.lst rows)), e10, e11, e12, e13, e14]) S := by
  obtain ⟨s0, s1, s2, s3, s4, s5, s6, s7, s8, s9, s14⟩ := sz
  have hl : rows.length ≤ sizeLine := s9
  have lc := lc_pure (g := .two 3 4) (t := evTo (cl 99) (.so rowT)) (e := evE (cl 99) false (.cst (.int 1))) (ρ := wipe [e0, e1, e2, e3, e4, e5, e6, e7, e8, some (.val (.lst rows)), e10, e11, e12, e13, e14] [3, 4]) (S := S) (fun _ => false) (fun _ => .int 1) rows [] fun x hx => by
    obtain ⟨v, hv, rfl⟩ := List.mem_map.mp hx
    exact ⟨_, rfl, by rw [to_so]; exact row_no (row_fits v hv), fun h => nomatch h⟩
  have e : (rows.filter fun _ => false).map (fun _ => PV.int 1) = [] := by simp
  rw [e] at lc
  simp only [List.append_nil] at lc
  have ne : cmpOp S .ne (.lst []) (.lst []) = some (!([] : List PV).isEmpty) := c_nenil rfl
  show exS (cl 99) (.cnd (.val (.cmp .ne (.lc (.two 3 4) (.seq (.var 9)) (.so rowT) (.cst (.int 1)) [3, 4]) (.lst .nil))) (.cons (.ret (.cst (.bl false))) .nil) .nil) _ S = _
  generalize rows = R at lc hl
  simp [lc, hl, ne, s0, -lc_cons, -to_so]
def nest : Nat → PV → PV
  | 0, v => v
  | n + 1, v => nest n (.tup [v])
theorem nest10 : ∀ (xs : List PV) (v : PV) (e2 : Option SV) (S : Sto), ∃ f2, forGo (.nm 2) (exSs (cl 99) (.cons (.set (.nm 10) (.tup (.cons (.var 10) .nil))) .nil)) .no xs [e0, e1, e2, e3, e4, e5, e6, e7, e8, e9, some (.val v), e11, e12, e13, e14] S =
    .ok (.next [e0, e1, f2, e3, e4, e5, e6, e7, e8, e9, some (.val (nest xs.length v)), e11, e12, e13, e14]) S
  | [], v, e2, S => ⟨e2, by simp [nest]⟩
  | x :: xs, v, e2, S => by
    obtain ⟨f2, ih⟩ := nest10 xs (.tup [v]) (some (.val x)) S
    refine ⟨f2, ?_⟩
    obtain ⟨s0, s1, _⟩ := sz
    have st : exSs (cl 99) (.cons (.set (.nm 10) (.tup (.cons (.var 10) .nil))) .nil) [e0, e1, some (.val x), e3, e4, e5, e6, e7, e8, e9, some (.val v), e11, e12, e13, e14] S = .ok (.next [e0, e1, some (.val x), e3, e4, e5, e6, e7, e8, e9, some (.val (.tup [v])), e11, e12, e13, e14]) S := by
      simp [s1]
    simp only [for_cons, as_nm, o_some, r_ok, List.set, st, go_next, ih, List.length_cons, nest]
theorem nest11 : ∀ (xs : List PV) (v : PV) (e2 : Option SV) (S : Sto), ∃ f2, forGo (.nm 2) (exSs (cl 99) (.cons (.set (.nm 11) (.tup (.cons (.var 11) .nil))) .nil)) .no xs [e0, e1, e2, e3, e4, e5, e6, e7, e8, e9, e10, some (.val v), e12, e13, e14] S =
    .ok (.next [e0, e1, f2, e3, e4, e5, e6, e7, e8, e9, e10, some (.val (nest xs.length v)), e12, e13, e14]) S
  | [], v, e2, S => ⟨e2, by simp [nest]⟩
  | x :: xs, v, e2, S => by
    obtain ⟨f2, ih⟩ := nest11 xs (.tup [v]) (some (.val x)) S
    refine ⟨f2, ?_⟩
    obtain ⟨s0, s1, _⟩ := sz
    have st : exSs (cl 99) (.cons (.set (.nm 11) (.tup (.cons (.var 11) .nil))) .nil) [e0, e1, some (.val x), e3, e4, e5, e6, e7, e8, e9, e10, some (.val v), e12, e13, e14] S = .ok (.next [e0, e1, some (.val x), e3, e4, e5, e6, e7, e8, e9, e10, some (.val (.tup [v])), e12, e13, e14]) S := by
      simp [s1]
    simp only [for_cons, as_nm, o_some, r_ok, List.set, st, go_next, ih, List.length_cons, nest]
theorem l4567 {S : Sto} : ∃ f2, ∀ rest : Ss, exSs (cl 99) (.cons l4 (.cons l5 (.cons l6 (.cons l7 rest)))) [e0, e1, e2, e3, e4, e5, e6, e7, e8, e9, e10, e11, e12, e13, e14] S =
    exSs (cl 99) rest [e0, e1, f2, e3, e4, e5, e6, e7, e8, e9, some (.val (nest 39 (.tup []))), some (.val (nest 40 (.int 1))), e12, e13, e14] S := by
  obtain ⟨s0, s1, _⟩ := sz
  obtain ⟨g2, h1⟩ := nest10 (e0 := e0) (e1 := e1) (e3 := e3) (e4 := e4) (e5 := e5) (e6 := e6) (e7 := e7) (e8 := e8) (e9 := e9) (e11 := e11) (e12 := e12) (e13 := e13) (e14 := e14) (rangeL 39) (.tup []) e2 S
  obtain ⟨f2, h2⟩ := nest11 (e0 := e0) (e1 := e1) (e3 := e3) (e4 := e4) (e5 := e5) (e6 := e6) (e7 := e7) (e8 := e8) (e9 := e9) (e10 := some (.val (nest 39 (.tup [])))) (e12 := e12) (e13 := e13) (e14 := e14) (rangeL 40) (.int 1) g2 S
  have r39 : (rangeL 39).length = 39 := rfl
  have r40 : (rangeL 40).length = 40 := rfl
  rw [r39] at h1
  rw [r40] at h2
  have k39 : rngOk 39 := rngOk_of (by decide) (by decide)
  have k40 : rngOk 40 := rngOk_of (by decide) (by decide)
  refine ⟨f2, fun rest => ?_⟩
  simp only [l4, l5, l6, l7, ss_cons (.set _ _), ss_cons (.for _ _ _), s_set', s_for', i_rng, e_tup, es_nil, e_cst, r_ok, asInt_ap, k39, k40, if_true, List.length_nil, s0, as_nm, o_some, go_next, List.set, h1, h2]
end
end K69

/-! O69: pairs, odds. -/
namespace K69
open PySem EV
section
variable {e0 e1 e2 e3 e4 e5 e6 e7 e8 e9 e10 e11 e12 e13 e14 : Option SV}
/-- what is asked of a thing that does not fit -/
structure Unfit (m : PV) : Prop where
  fit : fit m 1 = false
  lay : lay m 60 = true
  dom : dom m 50 = true
  wt : wt m ≤ 10000
  lt : ∀ o ∈ octs m, o < 256
  len : (octs m).length ≤ 9000
  rd : (rd 41 (octs m) 0 1).isNone = true
theorem pair_ok {v m : PV} {S : Sto} (F : Fits v) (hd : dom v 50 = true) (U : Unfit m) : exSs (cl 99) gB [e0, e1, e2, some (.val v), e4, e5, e6, e7, e8, e9, e10, e11, some (.val m), e13, e14] S = .ok (.next [e0, e1, e2, some (.val v), e4, e5, e6, e7, e8, e9, e10, e11, some (.val m), e13, e14]) S := by
  have s10 : 10000 ≤ sizeLine := by decide
  have fw := F.wt
  have uw := U.wt
  have fl := F.len
  have ul := U.len
  have a1 : cl 99 13 [v] S = .ok (.bl true) S := by
    have := is_thing (k := 94) (S := S) v F.lay (by omega)
    rw [F.fit] at this
    exact this
  have a2 : cl 99 13 [m] S = .ok (.bl false) S := by
    have := is_thing (k := 94) (S := S) m U.lay (by omega)
    rw [U.fit] at this
    exact this
  have a3 := F.octets (S := S)
  obtain ⟨a4, a5⟩ := F.back (S := S)
  have a6 : cl 99 21 [v] S = .ok (.lst (nts (octs v))) S := law_octets (k := 47) v 50 hd (by omega)
  have a7 : cl 99 21 [m] S = .ok (.lst (nts (octs m))) S := law_octets (k := 47) m 50 U.dom (by omega)
  have a8 : cl 99 15 [.tup (nts (octs m)), .int 0] S = .ok .non S := by
    have := read_thing (k := 13) (S := S) (os := octs m) 0 U.lt (by omega) (Nat.zero_le _)
    have e : pvo (K69.rd 41 (octs m) 0 1) = .non := by
      have := U.rd
      cases h : K69.rd 41 (octs m) 0 1 with
      | none => rfl
      | some w => rw [h] at this; cases this
    rw [e] at this
    exact this
  have s2 : 2 ≤ sizeLine := by decide
  have nl := nts_len (octs v)
  simp [gB, a1, a2, a3, a4, a5, a6, a7, a8, s2, nl]
def goods : List PV := [nest 39 (.tup []), nest 40 (.int 1), .tup (List.replicate 64 (.int 0)), .str (Txt.mul "x" 40), .int 1000000000000, .int (-1000000000000), .str "~ "]
def bads : List PV := [.tup [nest 39 (.tup [])], .tup [nest 40 (.int 1)], .tup (List.replicate 65 (.int 0)), .str (Txt.mul "x" 41), .int 1000000000001, .int (-1000000000001), .str "it's"]
theorem goods_ok : ∀ v ∈ goods, Fits v ∧ dom v 50 = true := by
  have hb : (goods.all fun v => fit v 1 && (lay v 60 && (dom v 60 && (dom v 50 && (decide (wt v ≤ 10000) && ((octs v).all (fun o => decide (o < 256)) && decide ((octs v).length ≤ 9000))))))) = true := by decide +kernel
  intro v hv
  have h := List.all_eq_true.mp hb v hv
  simp only [Bool.and_eq_true, decide_eq_true_eq, List.all_eq_true] at h
  obtain ⟨h1, h2, h3, h35, h4, h5, h6⟩ := h
  exact ⟨⟨h1, h2, h3, h4, h5, h6⟩, h35⟩
theorem bads_ok : ∀ v ∈ bads, Unfit v := by
  have hb : (bads.all fun v => !fit v 1 && (lay v 60 && (dom v 50 && (decide (wt v ≤ 10000) && ((octs v).all (fun o => decide (o < 256)) && (decide ((octs v).length ≤ 9000) && (rd 41 (octs v) 0 1).isNone)))))) = true := by decide +kernel
  intro v hv
  have h := List.all_eq_true.mp hb v hv
  simp only [Bool.and_eq_true, decide_eq_true_eq, List.all_eq_true, Bool.not_eq_true'] at h
  obtain ⟨h1, h2, h3, h4, h5, h6, h7⟩ := h
  exact ⟨h1, h2, h3, h4, h5, h6, h7⟩
theorem pairs_loop : ∀ (gs : List (PV × PV)) (e3 e12 : Option SV) (S : Sto), (∀ q ∈ gs, Fits q.1 ∧ dom q.1 50 = true ∧ Unfit q.2) → ∃ f3 f12, forGo (.two 3 12) (exSs (cl 99) gB) .no (gs.map fun q => .tup [q.1, q.2]) [e0, e1, e2, e3, e4, e5, e6, e7, e8, e9, e10, e11, e12, e13, e14] S =
    .ok (.next [e0, e1, e2, f3, e4, e5, e6, e7, e8, e9, e10, e11, f12, e13, e14]) S
  | [], e3, e12, S, _ => ⟨e3, e12, by simp⟩
  | (v, m) :: gs, e3, e12, S, h => by
    obtain ⟨h1, h2, h3⟩ := h (v, m) (List.mem_cons_self ..)
    obtain ⟨f3, f12, ih⟩ := pairs_loop gs (some (.val v)) (some (.val m)) S fun q hq => h q (List.mem_cons_of_mem _ hq)
    refine ⟨f3, f12, ?_⟩
    simp only [List.map_cons, for_cons, as_two, o_some, r_ok, List.set, pair_ok h1 h2 h3, go_next, ih]
theorem mul64 {S : Sto} : binOp S .mul (.tup [.int 0]) (.int 64) = some (.tup (List.replicate 64 (.int 0))) := by
  show (if [PV.int 0] ≠ [] ∧ 2 ≤ (64 : Int) ∧ (64 : Int) ≤ 1000 ∧ [PV.int 0].length ≤ 1000 then some (PV.tup (List.replicate (64 : Int).toNat [PV.int 0]).flatten) else none) = _
  rw [if_pos ⟨by simp, by decide, by decide, by decide⟩]
  rfl
theorem mul65 {S : Sto} : binOp S .mul (.tup [.int 0]) (.int 65) = some (.tup (List.replicate 65 (.int 0))) := by
  show (if [PV.int 0] ≠ [] ∧ 2 ≤ (65 : Int) ∧ (65 : Int) ≤ 1000 ∧ [PV.int 0].length ≤ 1000 then some (PV.tup (List.replicate (65 : Int).toNat [PV.int 0]).flatten) else none) = _
  rw [if_pos ⟨by simp, by decide, by decide, by decide⟩]
  rfl
theorem x41m {S : Sto} : binOp S .mul (.str "x") (.int 41) = some (.str (Txt.mul "x" 41)) := by
  show (if ("x" : Str).length ≤ 1000 ∧ 1 ≤ (41 : Int) ∧ (41 : Int) ≤ 1000 then some (PV.str (Txt.mul "x" 41)) else none) = _
  exact if_pos (by decide +kernel)
def prs : List (PV × PV) := goods.zip bads
theorem prs_ok : ∀ q ∈ prs, Fits q.1 ∧ dom q.1 50 = true ∧ Unfit q.2 := fun q hq => by
  have h := List.of_mem_zip (show (q.1, q.2) ∈ goods.zip bads from hq)
  exact ⟨(goods_ok _ h.1).1, (goods_ok _ h.1).2, bads_ok _ h.2⟩
theorem gI_ok {S : Sto} : evI (cl 99) false gI [e0, e1, e2, e3, e4, e5, e6, e7, e8, e9, some (.val (nest 39 (.tup []))), some (.val (nest 40 (.int 1))), e12, e13, e14] S = .ok (prs.map fun q => .tup [q.1, q.2], .no) S := by
  obtain ⟨s0, s1, s2, s3, s4, s5, s6, s7, s8, s9, s14⟩ := sz
  have e : (prs.map fun q => PV.tup [q.1, q.2]) = [.tup [nest 39 (.tup []), .tup [nest 39 (.tup [])]], .tup [nest 40 (.int 1), .tup [nest 40 (.int 1)]], .tup [.tup (List.replicate 64 (.int 0)), .tup (List.replicate 65 (.int 0))], .tup [.str (Txt.mul "x" 40), .str (Txt.mul "x" 41)],
    .tup [.int 1000000000000, .int 1000000000001], .tup [.int (-1000000000000), .int (-1000000000001)], .tup [.str "~ ", .str "it's"]] := rfl
  rw [e]
  generalize nest 39 (.tup []) = N39
  generalize nest 40 (.int 1) = N40
  have m1 := mul64 (S := S)
  have m2 := mul65 (S := S)
  generalize List.replicate 64 (PV.int 0) = R64 at m1
  generalize List.replicate 65 (PV.int 0) = R65 at m2
  simp [gI, s1, s2, s7, m1, m2, x40m, x41m]
theorem l8_ok {S : Sto} : ∃ f3 f12, exS (cl 99) l8 [e0, e1, e2, e3, e4, e5, e6, e7, e8, e9, some (.val (nest 39 (.tup []))), some (.val (nest 40 (.int 1))), e12, e13, e14] S =
    .ok (.next [e0, e1, e2, f3, e4, e5, e6, e7, e8, e9, some (.val (nest 39 (.tup []))), some (.val (nest 40 (.int 1))), f12, e13, e14]) S := by
  obtain ⟨f3, f12, h⟩ := pairs_loop (e0 := e0) (e1 := e1) (e2 := e2) (e4 := e4) (e5 := e5) (e6 := e6) (e7 := e7) (e8 := e8) (e9 := e9) (e10 := some (.val (nest 39 (.tup [])))) (e11 := some (.val (nest 40 (.int 1)))) (e13 := e13) (e14 := e14) prs e3 e12 S prs_ok
  exact ⟨f3, f12, by simp only [l8, s_for', gI_ok, r_ok, h]⟩
def oddL : List (List Nat) := [[], [0], [8, 0], [4], [4, 1], [4, 1, 0], [4, 2, 0, 7], [5, 0], [6, 1], [6, 1, 10], [6, 1, 37], [7], [7, 1], [7, 2, 1]]
theorem odd_ok : ∀ os ∈ oddL, (∀ o ∈ os, o < 256) ∧ os.length ≤ 1000 ∧ (rd 41 os 0 1).isNone = true := by
  have hb : (oddL.all fun os => os.all (fun o => decide (o < 256)) && (decide (os.length ≤ 1000) && (rd 41 os 0 1).isNone)) = true := by decide +kernel
  intro v hv
  have h := List.all_eq_true.mp hb v hv
  simp only [Bool.and_eq_true, decide_eq_true_eq, List.all_eq_true] at h
  obtain ⟨h1, h2, h3⟩ := h
  exact ⟨h1, h2, h3⟩
def strange : List PV := [.lst [], .lst [.int 1], .tup [.int 1, .lst [.int 2]], .str "\n", .str "\t", .tup [.str "a", .tup [.str "\n"]]]
theorem strange_ok : ∀ v ∈ strange, fit v 1 = false ∧ lay v 60 = true ∧ wt v ≤ 1000 := by
  have hb : (strange.all fun v => !fit v 1 && (lay v 60 && decide (wt v ≤ 1000))) = true := by decide +kernel
  intro v hv
  have h := List.all_eq_true.mp hb v hv
  simp only [Bool.and_eq_true, decide_eq_true_eq, Bool.not_eq_true'] at h
  obtain ⟨h1, h2, h3⟩ := h
  exact ⟨h1, h2, h3⟩
theorem l9_ok {S : Sto} : exS (cl 99) l9 [e0, e1, e2, e3, e4, e5, e6, e7, e8, e9, e10, e11, e12, e13, e14] S = .ok (.next [e0, e1, e2, e3, e4, e5, e6, e7, e8, e9, e10, e11, e12, some (.val (.lst (oddL.map fun os => .tup (nts os)))), e14]) S := by
  obtain ⟨s0, s1, s2, s3, s4, s5, s6, s7, s8, s9, s14⟩ := sz
  simp [l9, s0, s1, s2, s3, s4, s14, oddL, nts]
end
end K69

/-! Fin69: the law says True. -/
namespace K69
open PySem EV
section
variable {e0 e1 e2 e3 e4 e5 e6 e7 e8 e9 e10 e11 e12 e13 e14 : Option SV}
theorem l10_ok {S : Sto} : exS (cl 99) l10 [e0, e1, e2, e3, e4, e5, e6, e7, e8, e9, e10, e11, e12, some (.val (.lst (oddL.map fun os => .tup (nts os)))), e14] S = .ok (.ret (.bl true)) S := by
  obtain ⟨s0, s1, s2, s3, s4, s5, s6, s7, s8, s9, s14⟩ := sz
  have lc1 := lc_pure (g := .nm 14) (t := evTo (cl 99) (.so (.val (.cmp .isn (.call 15 (.cons (.var 14) (.cons (.cst (.int 0)) .nil))) (.cst .non))))) (e := evE (cl 99) false (.var 14)) (ρ := wipe [e0, e1, e2, e3, e4, e5, e6, e7, e8, e9, e10, e11, e12, some (.val (.lst (oddL.map fun os => .tup (nts os)))), e14] [14]) (S := S) (fun _ => false) (fun x => x) (oddL.map fun os => .tup (nts os)) [] fun x hx => by
    obtain ⟨os, ho, rfl⟩ := List.mem_map.mp hx
    obtain ⟨h1, h2, h3⟩ := odd_ok os ho
    have rt : cl 99 15 [.tup (nts os), .int 0] S = .ok .non S := by
      have := read_thing (k := 13) (S := S) (os := os) 0 h1 (by omega) (Nat.zero_le _)
      have e : pvo (rd 41 os 0 1) = .non := by
        cases h : rd 41 os 0 1 with
        | none => rfl
        | some w => rw [h] at h3; cases h3
      rw [e] at this
      exact this
    exact ⟨_, rfl, by simp [wipe, rt], fun h => nomatch h⟩
  have lc2 := lc_pure (g := .nm 14) (t := evTo (cl 99) (.so (.val (.cmp .isn (.call 13 (.cons (.var 14) .nil)) (.cst (.bl false)))))) (e := evE (cl 99) false (.var 14)) (ρ := wipe [e0, e1, e2, e3, e4, e5, e6, e7, e8, e9, e10, e11, e12, some (.val (.lst (oddL.map fun os => .tup (nts os)))), e14] [14]) (S := S) (fun _ => false) (fun x => x) strange [] fun x hx => by
    obtain ⟨h1, h2, h3⟩ := strange_ok x hx
    have it : cl 99 13 [x] S = .ok (.bl false) S := by
      have := is_thing (k := 94) (S := S) x h2 (by have : 1000 ≤ sizeLine := by decide
                                                   omega)
      rw [h1] at this
      exact this
    exact ⟨_, rfl, by simp [wipe, it], fun h => nomatch h⟩
  have e1' : ∀ l : List PV, (l.filter fun _ => false).map (fun x => x) = [] := fun l => by simp
  rw [e1'] at lc1 lc2
  simp only [List.append_nil] at lc1 lc2
  have hl : (oddL.map fun os => PV.tup (nts os)).length ≤ sizeLine := s14
  have ne : cmpOp S .eq (.lst []) (.lst []) = some ([] : List PV).isEmpty := c_eqnil rfl
  generalize (oddL.map fun os => PV.tup (nts os)) = R at lc1 lc2 hl
  unfold strange at lc2
  simp [l10, lc1, lc2, hl, ne, s0, s1, s2, s6, -lc_cons, -to_so]
end
theorem law_true (ns : List Int) (hl : ns.length < sizeLine) : ∃ S', cl 100 26 [.scr ns] [] = .ok (.bl true) S' := by
  obtain ⟨a, b, hc⟩ := cup_ok (fns := lw.sems) (i := 16) (k := 98) rfl ns hl
  have hc' : cl 99 16 [.scr ns] [] = .ok (.ref 0) (cupS a b []) := hc
  obtain ⟨f2, f3, f4, f5, f7, f8, S1, h1, hC⟩ := turns (e0 := some (.val (.scr ns))) (e6 := none) (e9 := none) (e10 := none) (e11 := none) (e12 := none) (e13 := none) (e14 := none) (rangeL 6) none none none none none none (cupS a b []) ⟨a, b, rfl⟩
  have k6 : rngOk 6 := rngOk_of (by decide) (by decide)
  obtain ⟨g2, h4⟩ := l4567 (e0 := some (.val (.scr ns))) (e1 := some (.val (.ref 0))) (e2 := f2) (e3 := f3) (e4 := f4) (e5 := f5) (e6 := none) (e7 := f7) (e8 := f8) (e9 := some (.val (.lst rows))) (e10 := none) (e11 := none) (e12 := none) (e13 := none) (e14 := none) (S := S1)
  obtain ⟨g3, g12, h8⟩ := l8_ok (e0 := some (.val (.scr ns))) (e1 := some (.val (.ref 0))) (e2 := g2) (e3 := f3) (e4 := f4) (e5 := f5) (e6 := none) (e7 := f7) (e8 := f8) (e9 := some (.val (.lst rows))) (e12 := none) (e13 := none) (e14 := none) (S := S1)
  refine ⟨S1, ?_⟩
  show cl (99 + 1) 26 _ _ = _
  rw [run_ (f := ⟨1, 15, b_law⟩) rfl rfl, b_lw]
  show (exSs (cl 99) (.cons l0 (.cons l1 (.cons l2 (.cons l3 (.cons l4 (.cons l5 (.cons l6 (.cons l7 (.cons l8 (.cons l9 (.cons l10 .nil)))))))))))  [some (.val (.scr ns)), none, none, none, none, none, none, none, none, none, none, none, none, none, none] []).bind _ = _
  have a0 : exS (cl 99) l0 [some (.val (.scr ns)), none, none, none, none, none, none, none, none, none, none, none, none, none, none] [] = .ok (.next [some (.val (.scr ns)), some (.val (.ref 0)), none, none, none, none, none, none, none, none, none, none, none, none, none]) (cupS a b []) := by
    simp [l0, hc']
  have a1 : exS (cl 99) l1 [some (.val (.scr ns)), some (.val (.ref 0)), none, none, none, none, none, none, none, none, none, none, none, none, none] (cupS a b []) = .ok (.next [some (.val (.scr ns)), some (.val (.ref 0)), f2, f3, f4, f5, none, f7, f8, none, none, none, none, none, none]) S1 := by
    simp only [l1, s_for', i_rng, e_cst, r_ok, asInt_ap, k6, if_true, h1]
  rw [ss_cons, a0, r_ok, go_next, ss_cons, a1, r_ok, go_next, ss_cons, l2_ok, r_ok, go_next, ss_cons, l3_ok, r_ok, go_next, h4, ss_cons, h8, r_ok, go_next, ss_cons, l9_ok, r_ok, go_next, ss_cons, l10_ok, r_ok, go_ret, r_ok]
end K69
open PySem PySem.W PySem.Calls PyProof.Rows
theorem PySem.Challenge.cw_documenthall_k69_whole_things_there_and_holds : PySem.Challenge.rw_documenthall_k69_whole_things_there_and.Holds := by
  w_on; o_law
  refine HandSHeadRun.head_any (r := K69.R) (q := view K69.R.prog [41]) (H := K69.hk) (ob := K69.ob) (M := 4000) (loose := K69.names0 ++ K69.names1 ++ K69.names2) (d := HandSHeadRun.topDef K69.R.prog 41) (kwd := []) K69.ob_eq
    (by kernel_rfl) (fun s => by kernel_rfl) K69.run (by kernel_rfl) (by kernel_rfl) (by kernel_rfl) (by rfl) (by first | assumption | decide +kernel) (by decide +kernel) ⟨rfl, rfl, rfl, rfl, rfl, by decide +kernel⟩ ?hw ?hc
  case hw => w_witness2
  case hc =>
    exact EV.walk_law (l := K69.Rw) (n := 63) (k := 100) (L := 26) (m := 4) (lw := K69.lw) (x := "script") rfl (by decide) (by kernel_rfl) ⟨rfl, by decide, by decide⟩ K69.bd K69.sc K69.cp K69.fr rfl rfl (by kernel_rfl) fun ns hl _ => K69.law_true ns (Nat.lt_of_le_of_lt hl (by decide))

