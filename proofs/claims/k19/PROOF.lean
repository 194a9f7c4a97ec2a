import PyProof.Rows.All
import Wide.All
import OpenK.AllK
import Wide.FinOn
import PyProof.EqLayable
import PyProof.StrBlockL
import PyProof.StrBlock2
import HandS.ForMost
import HandS.Slots
import HandS.SlotsOwn
import HandS.Exc
import HandS.ExcOwn
import HandS.Star
import HandS.TupAny
import HandS.TupMul
import HandS.Comp
import HandS.Property
import HandS.WordsExc
import HandS.Iter
import HandS.IsInst
import HandS.Text
import HandS.FStr
import HandS.WordsDict
import KE.GoesEnum
import HandS.DictComp
import HandS.HeadHook3
import HandS.SetFor
import HandS.More
import HandS.Strs
import PyProof.DictUpdate
import HandS.Ends
import HandS.ExcInit
import HandS.TryMany
import HandS.ExcField
import HandS.DeepEq
import HandS.ListItems
import HandS.Style
import HandS.Finally
import HandS.Conv
import HandS.ExcIs
import HandS.ExcCtx
import HandS.HotCalls
import PySem.Challenge.RW_copyfollows_k19_errors_apart
import KE.RegKIsAll
import KE.RegKTryMore
set_option Elab.async false
set_option linter.all false
/-! Abs: plain data, a plain heap, and what the constructs of Python do with them: a shallow language of total functions. No machine in sight. -/
namespace PA
open PySem (Str PyData)

inductive AV where
  | non | bl (b : Bool) | int (i : Int) | str (s : Str) | tup (xs : List AV) | loc (l : Nat) | gl (g : String) | ty (n : String)
  deriving Inhabited

inductive AO where
  | lst (xs : List AV) | dct (kvs : List (AV × AV)) | lck (kvs : List (AV × AV)) | ins (c : String) (fs : List (Str × AV))
  deriving Inhabited

abbrev Heap := List AO
structure Exc where
  cls : String
  fs : List (Str × AV)

inductive Res (α : Type) where
  | ok (a : α) (h : Heap) | exc (e : Exc) (h : Heap) | bad

def bnd {α β : Type} (m : Heap → Res α) (k : α → Heap → Res β) : Heap → Res β := fun h =>
  match m h with
  | .ok a h' => k a h'
  | .exc e h' => .exc e h'
  | .bad => .bad

abbrev Env := List (Option AV)
abbrev EE := Env → Heap → Res AV
abbrev LL := Env → Heap → Res (List AV)
abbrev BB := Env → Heap → Res Bool
abbrev FF := List AV → Heap → Res AV

def AV.isNon : AV → Bool
  | .non => true
  | _ => false

def szl : Nat := 16777216

/-! ### data -/
def datsW (f : AV → Option PyData) : List AV → Option (List PyData)
  | [] => some []
  | x :: xs => match f x, datsW f xs with
    | some d, some ds => some (d :: ds)
    | _, _ => none
def datH (h : Heap) : Nat → AV → Option PyData
  | 0, .non => some .none
  | 0, .bl b => some (.bool b)
  | 0, .int i => some (.int i)
  | 0, .str s => some (.str s)
  | 0, _ => none
  | n + 1, .non => some .none
  | n + 1, .bl b => some (.bool b)
  | n + 1, .int i => some (.int i)
  | n + 1, .str s => some (.str s)
  | n + 1, .tup xs => (datsW (datH h n) xs).map .tuple
  | n + 1, .loc l => match h[l]? with
    | some (.lst xs) => (datsW (datH h n) xs).map .list
    | _ => none
  | n + 1, .gl _ => none
  | n + 1, .ty _ => none

def seqOf (h : Heap) : AV → Option (List AV)
  | .tup xs => some xs
  | .loc l => match h[l]? with
    | some (.lst xs) => some xs
    | _ => none
  | _ => none

/-- the place that an index of any sign means -/
def ixN (n : Nat) (i : Int) : Option Nat := if 0 ≤ i then (if i < n then some i.toNat else none) else if -(n : Int) ≤ i then some (i + n).toNat else none
def atI (xs : List AV) (i : Int) : Option AV := (ixN xs.length i).bind fun j => xs[j]?
/-- == of flat values -/
def flat : AV → Bool
  | .non | .bl _ | .int _ | .str _ => true
  | _ => false
def eqF : AV → AV → Bool
  | .non, .non => true
  | .bl a, .bl b => a == b
  | .bl a, .int b => (if a then 1 else 0) == b
  | .int a, .bl b => a == (if b then 1 else 0)
  | .int a, .int b => a == b
  | .str a, .str b => a == b
  | _, _ => false
def inF (x : AV) (xs : List AV) : Bool := xs.any fun y => eqF y x
/-- keys of dicts: ints, texts -/
def isKey : AV → Bool
  | .int _ | .str _ => true
  | _ => false
def keyEq : AV → AV → Bool
  | .int a, .int b => decide (a = b)
  | .str a, .str b => decide (a = b)
  | _, _ => false
def dGet (kvs : List (AV × AV)) (k : AV) : Option AV := (kvs.find? fun p => keyEq p.1 k).map (·.2)
def dPut (kvs : List (AV × AV)) (k v : AV) : List (AV × AV) :=
  if (kvs.any fun p => keyEq p.1 k) = true then kvs.map (fun p => if keyEq p.1 k = true then (p.1, v) else p) else kvs ++ [(k, v)]

/-! ### expressions -/
def eVar (i : Nat) : EE := fun ρ h => match ρ[i]? with
  | some (some v) => .ok v h
  | _ => .bad
def eC (v : AV) : EE := fun _ h => .ok v h
def lNil : LL := fun _ h => .ok [] h
def lCons (e : EE) (l : LL) : LL := fun ρ => bnd (e ρ) fun v => bnd (l ρ) fun vs h => .ok (v :: vs) h
def lStar (e : EE) (l : LL) : LL := fun ρ => bnd (e ρ) fun v h => match seqOf h v with
  | some xs => bnd (l ρ) (fun vs h => .ok (xs ++ vs) h) h
  | none => .bad
def eTup (l : LL) : EE := fun ρ => bnd (l ρ) fun vs h => if vs.length ≤ szl then .ok (.tup vs) h else .bad
def eLst (l : LL) : EE := fun ρ => bnd (l ρ) fun vs h => if vs.length ≤ szl then .ok (.loc h.length) (h ++ [.lst vs]) else .bad
abbrev O2 := AV → AV → Heap → Res AV
def eBin (o : O2) (a b : EE) : EE := fun ρ => bnd (a ρ) fun x => bnd (b ρ) fun y => o x y
def tB (e : EE) : BB := fun ρ => bnd (e ρ) fun v h => match v with
  | .bl b => .ok b h
  | _ => .bad
def tNot (t : BB) : BB := fun ρ => bnd (t ρ) fun b h => .ok (!b) h
def tAnd (t u : BB) : BB := fun ρ => bnd (t ρ) fun b => if b = true then u ρ else fun h => .ok false h
def tOr (t u : BB) : BB := fun ρ => bnd (t ρ) fun b => if b = true then (fun h => .ok true h) else u ρ
def eNot (e : EE) : EE := fun ρ => bnd (e ρ) fun v h => match v with
  | .bl b => .ok (.bl (!b)) h
  | _ => .bad
def eAnd (a b : EE) : EE := fun ρ => bnd (a ρ) fun v h => match v with
  | .bl true => b ρ h
  | .bl false => .ok (.bl false) h
  | _ => .bad
def eOr (a b : EE) : EE := fun ρ => bnd (a ρ) fun v h => match v with
  | .bl true => .ok (.bl true) h
  | .bl false => b ρ h
  | _ => .bad
def eIf (t : BB) (a b : EE) : EE := fun ρ => bnd (t ρ) fun c => if c = true then a ρ else b ρ
def eChain (o o' : O2) (a b c : EE) : EE := fun ρ => bnd (a ρ) fun x => bnd (b ρ) fun y => bnd (o x y) fun r h => match r with
  | .bl true => bnd (c ρ) (fun z => o' y z) h
  | .bl false => .ok (.bl false) h
  | _ => .bad
/-- e.f, e an instance of c -/
def eAttr (c : String) (f : Str) (e : EE) : EE := fun ρ => bnd (e ρ) fun v h => match v with
  | .loc l => match h[l]? with
    | some (.ins c' fs) => if c' = c then (match fs.lookup f with
      | some x => .ok x h
      | none => .bad) else .bad
    | _ => .bad
  | _ => .bad

/-! ### calls -/
def eCall (F : FF) (l : LL) : EE := fun ρ => bnd (l ρ) F
def isIns (c : String) (h : Heap) : AV → Bool
  | .loc l => match h[l]? with
    | some (.ins c' _) => decide (c' = c)
    | _ => false
  | _ => false
def noFld (m : Str) (h : Heap) : AV → Bool
  | .loc l => match h[l]? with
    | some (.ins _ fs) => (fs.lookup m).isNone
    | _ => false
  | _ => false
def eMeth (c : String) (m : Str) (F : FF) (e : EE) (l : LL) : EE := fun ρ => bnd (e ρ) fun v h =>
  if (isIns c h v && noFld m h v) = true then bnd (l ρ) (fun vs => F (v :: vs)) h else .bad
def noExc {α : Type} : Res α → Res α
  | .exc _ _ => .bad
  | r => r
def eProp (c : String) (F : FF) (e : EE) : EE := fun ρ => bnd (e ρ) fun v h => if isIns c h v = true then noExc (F [v] h) else .bad
def eMake (c : String) (F : FF) (l : LL) : EE := fun ρ => bnd (l ρ) fun vs h =>
  match F (.loc h.length :: vs) (h ++ [.ins c []]) with
  | .ok .non h' => .ok (.loc h.length) h'
  | .ok _ _ => .bad
  | .exc e h' => .exc e h'
  | .bad => .bad

/-! ### operators -/
def oAdd : O2 := fun x y h => match x, y with
  | .int i, .int j => .ok (.int (i + j)) h
  | .str s, .str t => if s.length + t.length ≤ szl then .ok (.str (s ++ t)) h else .bad
  | .tup xs, .tup ys => if xs.length + ys.length ≤ szl then .ok (.tup (xs ++ ys)) h else .bad
  | .loc a, .loc b => match h[a]?, h[b]? with
    | some (.lst xs), some (.lst ys) => if xs.length + ys.length ≤ szl then .ok (.loc h.length) (h ++ [.lst (xs ++ ys)]) else .bad
    | _, _ => .bad
  | _, _ => .bad
def oAddI : O2 := fun x y h => match x, y with
  | .int i, .int j => .ok (.int (i + j)) h
  | _, _ => .bad
def oSub : O2 := fun x y h => match x, y with
  | .int i, .int j => .ok (.int (i - j)) h
  | _, _ => .bad
def oMul : O2 := fun x y h => match x, y with
  | .int i, .int j => if (-(2 ^ 64) < i ∧ i < 2 ^ 64) ∨ (-(2 ^ 64) < j ∧ j < 2 ^ 64) then .ok (.int (i * j)) h else .bad
  | .str s, .int j => if 0 ≤ j ∧ j ≤ 1000 ∧ s.length ≤ 1000 then .ok (.str (PySem.Txt.mul s j)) h else .bad
  | .tup xs, .int j => if 2 ≤ j ∧ j ≤ 1000 ∧ xs.length ≤ 1000 ∧ xs.length ≠ 0 then .ok (.tup (List.replicate j.toNat xs).flatten) h else .bad
  | _, _ => .bad
/-- % by a positive number -/
def oMod : O2 := fun x y h => match x, y with
  | .int i, .int j => if 0 < j then .ok (.int (i % j)) h else .bad
  | _, _ => .bad
/-- // by a small positive number -/
def oDiv : O2 := fun x y h => match x, y with
  | .int i, .int j => if 0 < j ∧ j < 1073741824 then .ok (.int (i / j)) h else .bad
  | _, _ => .bad
def oPow : O2 := fun x y h => match x, y with
  | .int i, .int j => if 0 ≤ j ∧ j ≤ 1000 ∧ -1000 ≤ i ∧ i ≤ 1000 then .ok (.int (i ^ j.toNat)) h else .bad
  | _, _ => .bad
def eqA (h : Heap) (x y : AV) : Option Bool := match datH h 40 x, datH h 40 y with
  | some d, some e => if (PySem.SeqAt.shaped d && PySem.SeqAt.shaped e) = true then some (PyData.eqv d e) else none
  | _, _ => none
def oEq : O2 := fun x y h => match eqA h x y with
  | some b => .ok (.bl b) h
  | none => .bad
def oNe : O2 := fun x y h => match eqA h x y with
  | some b => .ok (.bl (!b)) h
  | none => .bad
def oCmpI (p : Int → Int → Bool) : O2 := fun x y h => match x, y with
  | .int i, .int j => .ok (.bl (p i j)) h
  | _, _ => .bad
def oLt : O2 := oCmpI fun i j => decide (i < j)
def oLe : O2 := oCmpI fun i j => decide (i ≤ j)
def oGt : O2 := oCmpI fun i j => decide (j < i)
def oGe : O2 := oCmpI fun i j => decide (j ≤ i)
def oIsN : O2 := fun x y h => match y with
  | .non => .ok (.bl x.isNon) h
  | _ => .bad
def oNotN : O2 := fun x y h => match y with
  | .non => .ok (.bl (!x.isNon)) h
  | _ => .bad

/-- a[b], b an int -/
def oIx : O2 := fun x y h => match y with
  | .int i => match seqOf h x with
    | some xs => match atI xs i with
      | some v => .ok v h
      | none => .bad
    | none => .bad
  | _ => .bad
/-- x in a tuple or a list of flat items -/
def oIn : O2 := fun x y h => match seqOf h y with
  | some xs => if (flat x && xs.all flat) = true then .ok (.bl (inF x xs)) h else .bad
  | none => .bad
def oNotIn : O2 := fun x y h => match seqOf h y with
  | some xs => if (flat x && xs.all flat) = true then .ok (.bl (!inF x xs)) h else .bad
  | none => .bad
def dctOf (h : Heap) : AV → Option (List (AV × AV))
  | .loc l => match h[l]? with
    | some (.dct kvs) => some kvs
    | some (.lck kvs) => some kvs
    | _ => none
  | _ => none
/-- d[k] -/
def oDGet : O2 := fun x y h => match dctOf h x with
  | some kvs => if isKey y = true then (match dGet kvs y with
    | some v => .ok v h
    | none => .bad) else .bad
  | none => .bad
def oDIn : O2 := fun y x h => match dctOf h x with
  | some kvs => if isKey y = true then .ok (.bl (dGet kvs y).isSome) h else .bad
  | none => .bad
def oDNotIn : O2 := fun y x h => match dctOf h x with
  | some kvs => if isKey y = true then .ok (.bl (!(dGet kvs y).isSome)) h else .bad
  | none => .bad
/-- d[k], k in d, d a dict of the module: its pairs -/
def oKGet (kvs : List (Str × AV)) : O2 := fun _ y h => match y with
  | .str z => match kvs.lookup z with
    | some v => .ok v h
    | none => .bad
  | _ => .bad
def oKIn (kvs : List (Str × AV)) : O2 := fun y _ h => match y with
  | .str z => .ok (.bl (kvs.lookup z).isSome) h
  | _ => .bad
def oKNotIn (kvs : List (Str × AV)) : O2 := fun y _ h => match y with
  | .str z => .ok (.bl (!(kvs.lookup z).isSome)) h
  | _ => .bad
/-- {} -/
def eNewD : EE := fun _ h => .ok (.loc h.length) (h ++ [.dct []])

/-! ### statements -/
inductive SR where
  | nx (ρ : Env) (h : Heap) | ret (v : AV) (h : Heap) | brk (ρ : Env) (h : Heap) | ct (ρ : Env) (h : Heap) | exc (e : Exc) (ρ : Env) (h : Heap) | bad
abbrev SS := Env → Heap → SR
/-- go on with an expression's value -/
def sBnd {α : Type} (m : Env → Heap → Res α) (k : α → SS) : SS := fun ρ h => match m ρ h with
  | .ok a h' => k a ρ h'
  | .exc e h' => .exc e ρ h'
  | .bad => .bad
def sNil : SS := fun ρ h => .nx ρ h
def sSeq (a b : SS) : SS := fun ρ h => match a ρ h with
  | .nx ρ' h' => b ρ' h'
  | r => r
def sExpr (e : EE) : SS := sBnd e fun _ ρ h => .nx ρ h
def sRet (e : EE) : SS := sBnd e fun v _ h => .ret v h
def sRetN : SS := fun _ h => .ret .non h
def sIf (t : BB) (a b : SS) : SS := sBnd t fun c => if c = true then a else b
abbrev Tg := AV → Env → Option Env
def gName (i : Nat) : Tg := fun v ρ => some (ρ.set i (some v))
def gNames : List Nat → List AV → Env → Option Env
  | [], [], ρ => some ρ
  | i :: is, v :: vs, ρ => gNames is vs (ρ.set i (some v))
  | _, _, _ => none
def gTup (is : List Nat) : Tg := fun v ρ => match v with
  | .tup xs => gNames is xs ρ
  | _ => none
def sAsg (g : Tg) (e : EE) : SS := sBnd e fun v ρ h => match g v ρ with
  | some ρ' => .nx ρ' h
  | none => .bad
def sSet (i : Nat) (e : EE) : SS := sBnd e fun v ρ h => .nx (ρ.set i (some v)) h
def putF (f : Str) (v : AV) : List (Str × AV) → List (Str × AV)
  | [] => [(f, v)]
  | (g, w) :: r => if g = f then (g, v) :: r else (g, w) :: putF f v r
/-- o.f = e, o an instance of c -/
def sAttr (c : String) (o : EE) (f : Str) (e : EE) : SS := sBnd e fun x => sBnd o fun v ρ h => match v with
  | .loc l => match h[l]? with
    | some (.ins c' fs) => if c' = c ∧ fs.length < 100 then .nx ρ (h.set l (.ins c (putF f x fs))) else .bad
    | _ => .bad
  | _ => .bad
/-- o.f += e -/
def sAttrAug (c : String) (op : O2) (o : EE) (f : Str) (e : EE) : SS := sBnd o fun v => sBnd (fun _ h => match v with
  | .loc l => match h[l]? with
    | some (.ins c' fs) => if c' = c then (match fs.lookup f with
      | some x => Res.ok x h
      | none => .bad) else .bad
    | _ => .bad
  | _ => .bad) fun x => sBnd e fun y => sBnd (fun _ => op x y) fun z ρ h => match v with
  | .loc l => match h[l]? with
    | some (.ins c' fs) => if c' = c ∧ fs.length < 100 then .nx ρ (h.set l (.ins c (putF f z fs))) else .bad
    | _ => .bad
  | _ => .bad
/-- xs[i] = e -/
def sIx (o i e : EE) : SS := sBnd e fun x => sBnd o fun v => sBnd i fun k ρ h => match v, k with
  | .loc l, .int j => match h[l]? with
    | some (.lst xs) => match ixN xs.length j with
      | some m => .nx ρ (h.set l (.lst (xs.set m x)))
      | none => .bad
    | _ => .bad
  | _, _ => .bad
/-- d[k] = e -/
def sDPut (o i e : EE) : SS := sBnd e fun x => sBnd o fun v => sBnd i fun k ρ h => match v with
  | .loc l => match h[l]? with
    | some (.dct kvs) => if (isKey k = true ∧ kvs.length < 100000) then .nx ρ (h.set l (.dct (dPut kvs k x))) else .bad
    | _ => .bad
  | _ => .bad
def sIter (items : Heap → Option (List AV)) (g : Tg) (body : SS) : Nat → Nat → SS
  | 0, _ => fun _ _ => .bad
  | k + 1, i => fun ρ h => match items h with
    | none => .bad
    | some ys => match ys[i]? with
      | none => .nx ρ h
      | some x => match g x ρ with
        | none => .bad
        | some ρ1 => match body ρ1 h with
          | .nx ρ' h' => sIter items g body k (i + 1) ρ' h'
          | .ct ρ' h' => sIter items g body k (i + 1) ρ' h'
          | .brk ρ' h' => .nx ρ' h'
          | r => r
abbrev II := Env → Heap → Res (Heap → Option (List AV))
def fuel : Nat := 16777300
def sFor (it : II) (g : Tg) (body : SS) : SS := sBnd it fun items => sIter items g body fuel 0
def sWhileN (t : BB) (body : SS) : Nat → SS
  | 0 => fun _ _ => .bad
  | k + 1 => sBnd t fun c => if c = true then (fun ρ h => match body ρ h with
      | .nx ρ' h' => sWhileN t body k ρ' h'
      | .ct ρ' h' => sWhileN t body k ρ' h'
      | .brk ρ' h' => .nx ρ' h'
      | r => r) else sNil
def sWhile (t : BB) (body : SS) : SS := sWhileN t body fuel
/-- the items of a tuple -/
def iTup (e : EE) : II := fun ρ => bnd (e ρ) fun v h => match v with
  | .tup xs => .ok (fun _ => some xs) h
  | _ => .bad
def lstOf (h : Heap) (l : Nat) : Option (List AV) := match h[l]? with
  | some (.lst xs) => some xs
  | _ => none
/-- the items of a list of ours, as they stand -/
def iLoc (e : EE) : II := fun ρ => bnd (e ρ) fun v h => match v with
  | .loc l => match h[l]? with
    | some (.lst _) => .ok (fun h => lstOf h l) h
    | _ => .bad
  | _ => .bad
/-- a made list's items -/
def iTmp (l : LL) : II := fun ρ => bnd (l ρ) fun xs h => .ok (fun _ => some xs) h
def rangeL (lo hi : Int) : List AV := (List.range (hi - lo).toNat).map fun (k : Nat) => AV.int (lo + (k : Int))
def iRange (lo hi : EE) : II := fun ρ => bnd (lo ρ) fun a => bnd (hi ρ) fun b h => match a, b with
  | .int i, .int j => if -(2 ^ 62) ≤ i ∧ i < 2 ^ 62 ∧ -(2 ^ 62) ≤ j ∧ j < 2 ^ 62 then .ok (fun _ => some (rangeL i j)) h else .bad
  | _, _ => .bad
def iRange0 (hi : EE) : II := fun ρ => bnd (hi ρ) fun b h => match b with
  | .int j => if -(2 ^ 62) ≤ j ∧ j < 2 ^ 62 then .ok (fun _ => some (rangeL 0 j)) h else .bad
  | _ => .bad
def numbered (xs : List AV) : List AV := xs.zipIdx.map fun p => .tup [.int (p.2 : Nat), p.1]
/-- enumerate of a list -/
def iEnum (e : EE) : II := fun ρ => bnd (e ρ) fun v h => match v with
  | .loc l => match h[l]? with
    | some (.lst _) => .ok (fun h => (lstOf h l).map numbered) h
    | _ => .bad
  | _ => .bad
/-- enumerate of a tuple -/
def iEnumT (e : EE) : II := fun ρ => bnd (e ρ) fun v h => match v with
  | .tup xs => .ok (fun _ => some (numbered xs)) h
  | _ => .bad
/-- the keys of a dict of the module -/
def iKeysK (ks : List Str) : II := fun _ h => .ok (fun _ => some (ks.map .str)) h
/-- for k in d, d a dict of ours, locked meanwhile -/
def sForD (e : EE) (g : Tg) (body : SS) : SS := sBnd e fun v ρ h => match v with
  | .loc l => match h[l]? with
    | some (.dct kvs) =>
      let back : Heap → Heap := fun h' => h'.set l (.dct kvs)
      match sIter (fun _ => some (kvs.map (·.1))) g body fuel 0 ρ (h.set l (.lck kvs)) with
      | .nx ρ' h' => .nx ρ' (back h')
      | .ret v h' => .ret v (back h')
      | .exc e ρ' h' => .exc e ρ' h'
      | _ => .bad
    | _ => .bad
  | _ => .bad
def wipeA (ρ : Env) : List Nat → Env
  | [] => ρ
  | v :: vs => (wipeA ρ vs).set v none
/-- a comprehension's turns -/
def lcIter (items : Heap → Option (List AV)) (g : Tg) (t : BB) (e : EE) (ρ : Env) : Nat → Nat → List AV → Heap → Res (List AV)
  | 0, _, _ => fun _ => .bad
  | k + 1, i, acc => fun h => match items h with
    | none => .bad
    | some ys => match ys[i]? with
      | none => .ok acc h
      | some x => match g x ρ with
        | none => .bad
        | some ρ1 => match t ρ1 h with
          | .ok true h1 => match e ρ1 h1 with
            | .ok y h2 => if acc.length < szl then lcIter items g t e ρ k (i + 1) (acc ++ [y]) h2 else .bad
            | _ => .bad
          | .ok false h1 => lcIter items g t e ρ k (i + 1) acc h1
          | _ => .bad
def tYes : BB := fun _ h => .ok true h
def lComp (it : II) (g : Tg) (t : BB) (e : EE) (vs : List Nat) : LL := fun ρ => bnd (it ρ) fun items => lcIter items g t e (wipeA ρ vs) fuel 0 []
/-- a made list kept -/
def eKeep (l : LL) : EE := fun ρ => bnd (l ρ) fun xs h => .ok (.loc h.length) (h ++ [.lst xs])
/-- tuple(..) of a made list -/
def eTupOf (l : LL) : EE := fun ρ => bnd (l ρ) fun xs h => .ok (.tup xs) h
def blsOf : List AV → Option (List Bool)
  | [] => some []
  | .bl b :: r => (blsOf r).map (b :: ·)
  | _ => none
def eAllOf (l : LL) : EE := fun ρ => bnd (l ρ) fun xs h => match blsOf xs with
  | some bs => .ok (.bl (bs.all id)) h
  | none => .bad
def eAnyOf (l : LL) : EE := fun ρ => bnd (l ρ) fun xs h => match blsOf xs with
  | some bs => .ok (.bl (bs.any id)) h
  | none => .bad
/-! ### built-ins -/
def tyOf (h : Heap) : AV → Option String
  | .non => some "NoneType"
  | .bl _ => some "bool"
  | .int _ => some "int"
  | .str _ => some "str"
  | .tup _ => some "tuple"
  | .loc l => match h[l]? with
    | some (.lst _) => some "list"
    | some (.dct _) => some "dict"
    | some (.lck _) => some "dict"
    | _ => none
  | _ => none
/-- isinstance(x, T), T a written type -/
def bIsi : FF := fun vs h => match vs with
  | [x, .ty T] => match tyOf h x with
    | some t => if (["int", "bool", "str", "tuple", "dict", "list"].contains T) = true then .ok (.bl (t == T || (t == "bool" && T == "int"))) h else .bad
    | none => .bad
  | _ => .bad
def dctU (h : Heap) : AV → Option (List (AV × AV))
  | .loc l => match h[l]? with
    | some (.dct kvs) => some kvs
    | _ => none
  | _ => none
def bLen : FF := fun vs h => match vs with
  | [.str s] => if s.length ≤ szl then .ok (.int s.length) h else .bad
  | [x] => match seqOf h x with
    | some xs => .ok (.int xs.length) h
    | none => match dctU h x with
      | some kvs => .ok (.int kvs.length) h
      | none => .bad
  | _ => .bad
def bInt : FF := fun vs h => match vs with
  | [.int i] => .ok (.int i) h
  | [.bl b] => .ok (.int (if b then 1 else 0)) h
  | _ => .bad
def bStrI : FF := fun vs h => match vs with
  | [.int i] => if i.natAbs.log2 < 1920 then .ok (.str (toString i : String)) h else .bad
  | _ => .bad
def bMax2 : FF := fun vs h => match vs with
  | [.int i, .int j] => .ok (.int (if j > i then j else i)) h
  | _ => .bad
def bTuple : FF := fun vs h => match vs with
  | [x] => match seqOf h x with
    | some xs => .ok (.tup xs) h
    | none => .bad
  | _ => .bad
/-- list(x) of a tuple or a list -/
def bList : FF := fun vs h => match vs with
  | [x] => match seqOf h x with
    | some xs => .ok (.loc h.length) (h ++ [.lst xs])
    | none => .bad
  | _ => .bad
/-- xs.append(v) .. : what a method of a built-in does with the receiver and the arguments -/
abbrev MM := AV → List AV → Heap → Res AV
def mAppend : MM := fun x vs h => match x, vs with
  | .loc l, [y] => match h[l]? with
    | some (.lst xs) => if xs.length < szl then .ok .non (h.set l (.lst (xs ++ [y]))) else .bad
    | _ => .bad
  | _, _ => .bad
def mExtend : MM := fun x vs h => match x, vs with
  | .loc l, [.loc k] => match h[l]?, h[k]? with
    | some (.lst xs), some (.lst ys) => if xs.length + ys.length ≤ szl then .ok .non (h.set l (.lst (xs ++ ys))) else .bad
    | _, _ => .bad
  | _, _ => .bad
def mPop : MM := fun x vs h => match x, vs with
  | .loc l, [] => match h[l]? with
    | some (.lst xs) => match xs[xs.length - 1]? with
      | some y => .ok y (h.set l (.lst xs.dropLast))
      | none => .bad
    | _ => .bad
  | _, _ => .bad
def mClear : MM := fun x vs h => match x, vs with
  | .loc l, [] => match h[l]? with
    | some (.lst xs) => .ok .non (h.set l (.lst []))
    | _ => .bad
  | _, _ => .bad
/-- o.m(..), m a method of a built-in type -/
def eBm (m : MM) (o : EE) (l : LL) : EE := fun ρ => bnd (o ρ) fun x => bnd (l ρ) fun vs => m x vs
/-- o.m(made list) -/
def mExtendT (xs : AV) (ys : List AV) : Heap → Res AV := fun h => match xs with
  | .loc l => match h[l]? with
    | some (.lst xs) => if xs.length + ys.length ≤ szl then .ok .non (h.set l (.lst (xs ++ ys))) else .bad
    | _ => .bad
  | _ => .bad
def eBmT (m : AV → List AV → Heap → Res AV) (o : EE) (l : LL) : EE := fun ρ => bnd (o ρ) fun x => bnd (l ρ) fun vs => m x vs

def strsOf : List AV → Option (List Str)
  | [] => some []
  | .str b :: r => (strsOf r).map (b :: ·)
  | _ => none
/-- x.split(y), a made list -/
def lSplit (o e : EE) : LL := fun ρ => bnd (o ρ) fun x h => match x with
  | .str a => bnd (e ρ) (fun y h => match y with
    | .str b => if (b.length == 0) = false ∧ a.length + 2 ≤ szl then .ok ((PySem.Txt.split a b).map .str) h else .bad
    | _ => .bad) h
  | _ => .bad
def joinS (a : Str) (xs : List AV) : Heap → Res AV := fun h => match strsOf xs with
  | some ys => if (ys.map (·.length)).sum + ys.length * a.length ≤ 16777216 then .ok (.str (PySem.Txt.join a ys)) h else .bad
  | none => .bad
/-- x.join(a made list) -/
def eJoinT (o : EE) (l : LL) : EE := fun ρ => bnd (o ρ) fun x h => match x with
  | .str a => bnd (l ρ) (joinS a) h
  | _ => .bad
/-- x.join(a tuple | a list) -/
def eJoin (o e : EE) : EE := fun ρ => bnd (o ρ) fun x h => match x with
  | .str a => bnd (e ρ) (fun y h => match seqOf h y with
    | some xs => joinS a xs h
    | none => .bad) h
  | _ => .bad
/-- {x} in an f-string -/
def eFmt (e : EE) : EE := fun ρ => bnd (e ρ) fun v h => match v with
  | .str y => if y.length ≤ szl then .ok (.str y) h else .bad
  | .int i => if i.natAbs.log2 < 1920 then .ok (.str (toString i : String)) h else .bad
  | _ => .bad
def fJoin : List EE → Str → EE
  | [], acc => fun _ h => .ok (.str acc) h
  | t :: ts, acc => fun ρ => bnd (t ρ) fun v h => match v with
    | .str y => if (acc ++ y).length ≤ szl then fJoin ts (acc ++ y) ρ h else .bad
    | _ => .bad
def eFStr (ts : List EE) : EE := fJoin ts Str.empty
/-- a made list: of a display -/
def lDisp (l : LL) : LL := fun ρ => bnd (l ρ) fun vs h => if vs.length ≤ szl then .ok vs h else .bad
/-- x += e at a name -/
def sAug (i : Nat) (o : O2) (e : EE) : SS := sBnd (eVar i) fun x => sBnd e fun y => sBnd (fun _ => o x y) fun z ρ h => .nx (ρ.set i (some z)) h
/-- {k: v, ..} with written text keys -/
def lDct : List (Str × EE) → Env → Heap → Res (List (Str × AV))
  | [], _ => fun h => .ok [] h
  | (k, e) :: r, ρ => bnd (e ρ) fun v => bnd (lDct r ρ) fun vs h => .ok ((k, v) :: vs) h
/-- a made list of a tuple or a list -/
def lOf (e : EE) : LL := fun ρ => bnd (e ρ) fun v h => match seqOf h v with
  | some xs => .ok xs h
  | none => .bad
/-- {'a': e, ..} -/
def eDisp (kes : List (Str × EE)) : EE := fun ρ => bnd (lDct kes ρ) fun ps h => .ok (.loc h.length) (h ++ [.dct (ps.foldl (fun acc p => dPut acc (.str p.1) p.2) [])])
/-- a == b by a's own __eq__, both instances of c -/
def oOwnEq (c : String) (F : FF) : O2 := fun x y h => if (isIns c h x && isIns c h y) = true then noExc (F [x, y] h) else .bad
def isLst (h : Heap) : AV → Bool
  | .loc l => match h[l]? with
    | some (.lst _) => true
    | _ => false
  | _ => false
def eLm (M : MM) (o : EE) (l : LL) : EE := fun ρ => bnd (o ρ) fun x h => if isLst h x = true then bnd (l ρ) (fun vs => M x vs) h else .bad
/-- int(text) of a text of few digits: the value -/
def bIntS (val : Str → Option Int) : FF := fun vs h => match vs with
  | [.str z] => match val z with
    | some n => .ok (.int n) h
    | none => .bad
  | _ => .bad
/-- isinstance(x, c), c a class of the module: an instance of just that class, or data -/
def bIsC (c : String) : FF := fun vs h => match vs with
  | [x, .gl c'] => if c' = c then (if isIns c h x = true then .ok (.bl true) h else match tyOf h x with
    | some _ => .ok (.bl false) h
    | none => .bad) else .bad
  | _ => .bad
/-- a == b of two dicts with flat values that are equal -/
def flatKvs (kvs : List (AV × AV)) : Bool := kvs.all fun p => flat p.2
def sameKvs (xs ys : List (AV × AV)) : Bool := decide (xs.length = ys.length) && xs.all fun p => match dGet ys p.1 with
  | some v => eqF v p.2 && (match v, p.2 with
    | .str _, .str _ => true
    | .int _, .int _ => true
    | _, _ => false)
  | none => false
def oEqD : O2 := fun x y h => match dctU h x, dctU h y with
  | some xs, some ys => if sameKvs xs ys = true then .ok (.bl true) h else .bad
  | _, _ => .bad
def sBad : SS := fun _ _ => .bad
/-- C(..) of a class without __init__ that is raised -/
def sRaise (c : String) (names : List Str) (l : LL) : SS := sBnd l fun vs ρ h => if vs.length = names.length then .exc ⟨c, names.zip vs⟩ ρ h else .bad
/-- try: body except (cs): suite -/
def sTry (body : SS) (catch_ : Exc → Option SS) : SS := fun ρ h => match body ρ h with
  | .exc e ρ' h' => match catch_ e with
    | some s => s ρ' h'
    | none => .exc e ρ' h'
  | r => r
/-- a def's body run: the arguments, then empty slots -/
def runF (ar n : Nat) (b : SS) : FF := fun vs h =>
  if vs.length = ar then
    match b (vs.map some ++ List.replicate n none) h with
    | .nx _ h' => .ok .non h'
    | .ret v h' => .ok v h'
    | .exc e _ h' => .exc e h'
    | _ => .bad
  else .bad
/-! ### dicts walked -/
def keysOf (kvs : List (AV × AV)) : List AV := kvs.map (·.1)
def pickE (e : EE) : Env → Heap → Option Nat := fun ρ h => match e ρ h with
  | .ok (.loc l) _ => some l
  | _ => none
def unlockS (l : Nat) (kvs : List (AV × AV)) : SR → SR
  | .nx ρ h => .nx ρ (h.set l (.dct kvs))
  | .brk ρ h => .brk ρ (h.set l (.dct kvs))
  | .ct ρ h => .ct ρ (h.set l (.dct kvs))
  | .ret v h => .ret v (h.set l (.dct kvs))
  | .exc e ρ h => .exc e ρ h
  | .bad => .bad
/-- the dict that e means is locked while m runs -/
def sLock (pick : Env → Heap → Option Nat) (m : SS) : SS := fun ρ h => match pick ρ h with
  | some l => match h[l]? with
    | some (.dct kvs) => unlockS l kvs (m ρ (h.set l (.lck kvs)))
    | _ => .bad
  | none => .bad
def unlockR {α : Type} (l : Nat) (kvs : List (AV × AV)) : Res α → Res α
  | .ok a h => .ok a (h.set l (.dct kvs))
  | .exc e h => .exc e h
  | .bad => .bad
def xLock {α : Type} (pick : Env → Heap → Option Nat) (m : Env → Heap → Res α) : Env → Heap → Res α := fun ρ h => match pick ρ h with
  | some l => match h[l]? with
    | some (.dct kvs) => unlockR l kvs (m ρ (h.set l (.lck kvs)))
    | _ => .bad
  | none => .bad
/-- the keys of a locked dict -/
def iKeysL (e : EE) : II := fun ρ => bnd (e ρ) fun v h => match v with
  | .loc l => match h[l]? with
    | some (.lck kvs) => .ok (fun _ => some (keysOf kvs)) h
    | _ => .bad
  | _ => .bad
/-- the keys of a dict that is locked from now on -/
def iKeysF (e : EE) : II := fun ρ => bnd (e ρ) fun v h => match v with
  | .loc l => match h[l]? with
    | some (.dct kvs) => .ok (fun _ => some (keysOf kvs)) (h.set l (.lck kvs))
    | _ => .bad
  | _ => .bad
/-- a dict comprehension's turns -/
def dcIter (items : Heap → Option (List AV)) (g : Tg) (t : BB) (ek ev : EE) (ρ : Env) : Nat → Nat → List (AV × AV) → Heap → Res (List (AV × AV))
  | 0, _, _ => fun _ => .bad
  | k + 1, i, acc => fun h => match items h with
    | none => .bad
    | some ys => match ys[i]? with
      | none => .ok acc h
      | some x => match g x ρ with
        | none => .bad
        | some ρ1 => match t ρ1 h with
          | .ok true h1 => match ek ρ1 h1 with
            | .ok y h2 => match ev ρ1 h2 with
              | .ok z h3 => if isKey y = true ∧ acc.length < 100000 then dcIter items g t ek ev ρ k (i + 1) (dPut acc y z) h3 else .bad
              | _ => .bad
            | _ => .bad
          | .ok false h1 => dcIter items g t ek ev ρ k (i + 1) acc h1
          | _ => .bad
/-- {k: v for ..} -/
def eDc (it : II) (g : Tg) (t : BB) (ek ev : EE) (vs : List Nat) : EE := fun ρ => bnd (it ρ) fun items => bnd (dcIter items g t ek ev (wipeA ρ vs) fuel 0 []) fun kvs h => .ok (.loc h.length) (h ++ [.dct kvs])
/-! ### sorted(set(t)), t a tuple of texts -/
def insS (x : Str) : List Str → List Str
  | [] => [x]
  | y :: r => if x = y then y :: r else if x.cps.toList < y.cps.toList then x :: y :: r else y :: insS x r
def sortD (xs : List Str) : List Str := xs.foldr insS []
def eSortSet (e : EE) : EE := fun ρ => bnd (e ρ) fun v h => match v with
  | .tup xs => match strsOf xs with
    | some ys => if ys.length < 64 then .ok (.loc h.length) (h ++ [.lst ((sortD ys).map .str)]) else .bad
    | none => .bad
  | _ => .bad
/-- d.update(d2) -/
def mUpd : MM := fun x vs h => match x, vs with
  | .loc l, [.loc k] => if l = k then .bad else match h[l]?, h[k]? with
    | some (.dct xs), some (.dct ys) => if xs.length + ys.length ≤ 100000 then .ok .non (h.set l (.dct (ys.foldl (fun acc p => dPut acc p.1 p.2) xs))) else .bad
    | _, _ => .bad
  | _, _ => .bad
def isDct (h : Heap) : AV → Bool
  | .loc l => match h[l]? with
    | some (.dct _) => true
    | _ => false
  | _ => false
def eDm (M : MM) (o : EE) (l : LL) : EE := fun ρ => bnd (o ρ) fun x h => if isDct h x = true then bnd (l ρ) (fun vs => M x vs) h else .bad
/-- dict(d) -/
def bDict : FF := fun vs h => match vs with
  | [x] => match dctOf h x with
    | some kvs => .ok (.loc h.length) (h ++ [.dct kvs])
    | none => .bad
  | _ => .bad
end PA
/-! Abs2: more constructs: the law's script. -/
namespace PA
open PySem (Str PyData)
/-- the law's script, walked -/
def iScr (ns : List Int) (e : EE) : II := fun ρ => bnd (e ρ) fun v h => match v with
  | .gl g => if g = "#s" then .ok (fun _ => some (ns.map .int)) h else .bad
  | _ => .bad
/-- list(script) -/
def bListS (ns : List Int) : FF := fun vs h => match vs with
  | [.gl g] => if g = "#s" then .ok (.loc h.length) (h ++ [.lst (ns.map .int)]) else .bad
  | _ => .bad
/-- o.m(..) of a slotted class -/
def eMethS (c : String) (F : FF) (e : EE) (l : LL) : EE := fun ρ => bnd (e ρ) fun v h => if isIns c h v = true then bnd (l ρ) (fun vs => F (v :: vs)) h else .bad
/-- len of a dict of the module -/
def eLenK (n : Nat) : EE := fun _ h => .ok (.int n) h
/-- xs.extend(made list) -/
def eExtT (o : EE) (l : LL) : EE := fun ρ => bnd (o ρ) fun x h => if isLst h x = true then bnd (l ρ) (fun vs => mExtendT x vs) h else .bad
end PA
/-! Abs3: raise, try. -/
namespace PA
open PySem (Str PyData)
/-- raise c() of a class without __init__ -/
def sRaise0 (c : String) : SS := fun ρ h => .exc ⟨c, []⟩ ρ h
/-- raise c(e, ..) of a class whose __init__ keeps its arguments in these fields (the last one stands first) -/
def sRaiseN (c : String) (names : List Str) (l : LL) : SS := sBnd l fun vs ρ h => if vs.length = names.length then .exc ⟨c, (names.zip vs).reverse⟩ ρ h else .bad
/-- an except clause: which classes it takes, the slot of its name, its suite -/
structure ClA where
  f : String → Option Bool
  i : Option Nat
  s : Exc → SS
def offE (i : Option Nat) (ρ : Env) : Env := match i with
  | some i => ρ.set i none
  | none => ρ
def offS (i : Option Nat) : SR → SR
  | .nx ρ h => .nx (offE i ρ) h
  | .brk ρ h => .brk (offE i ρ) h
  | .ct ρ h => .ct (offE i ρ) h
  | .ret v h => .ret v h
  | _ => .bad
def catchA : List ClA → Exc → SS
  | [], e => fun ρ h => .exc e ρ h
  | k :: r, e => match k.f e.cls with
    | none => sBad
    | some false => catchA r e
    | some true => fun ρ h => if (k.i.all fun i => decide (i < ρ.length)) = true then offS k.i (k.s e (offE k.i ρ) h) else .bad
def sTryA (body : SS) (ks : List ClA) : SS := fun ρ h => match body ρ h with
  | .exc e ρ' h' => catchA ks e ρ' h'
  | r => r
/-- e.f of the caught one -/
def xFld (c : String) (f : Str) : Exc → EE := fun E _ h => if E.cls = c then (match E.fs.lookup f with
  | some v => .ok v h
  | none => .bad) else .bad
def xIsE (f : String → Option Bool) : Exc → EE := fun E _ h => match f E.cls with
  | some b => .ok (.bl b) h
  | none => .bad
/-- (e1, e2) -/
def xTup2 (m1 m2 : Exc → EE) : Exc → EE := fun E ρ => bnd (m1 E ρ) fun x => bnd (m2 E ρ) fun y h => .ok (.tup [x, y]) h
/-- a slice's bounds, as CPython reads them -/
def sixA (n d : Nat) : Option Int → Nat
  | none => d
  | some v => if v < 0 then (v + (n : Int)).toNat else min v.toNat n
def cutA (xs : List AV) (lo hi : Option Int) : List AV := (xs.drop (sixA xs.length 0 lo)).take (sixA xs.length xs.length hi - sixA xs.length 0 lo)
def bndO (m : Option EE) : Env → Heap → Res (Option Int) := fun ρ => match m with
  | none => fun h => .ok none h
  | some e => bnd (e ρ) fun v h => match v with
    | .int i => .ok (some i) h
    | _ => .bad
/-- xs[lo:hi] of a list -/
def eSliceL (e : EE) (lo hi : Option EE) : EE := fun ρ => bnd (e ρ) fun x => bnd (bndO lo ρ) fun l => bnd (bndO hi ρ) fun u h => match x with
  | .loc a => match h[a]? with
    | some (.lst xs) => .ok (.loc h.length) (h ++ [.lst (cutA xs l u)])
    | _ => .bad
  | _ => .bad
/-- d.get(k, x) -/
def eGet2 (o i x : EE) : EE := fun ρ => bnd (o ρ) fun d h => if isDct h d = true then bnd (i ρ) (fun k => bnd (x ρ) fun v h => match dctOf h d with
  | some kvs => if isKey k = true then (match dGet kvs k with
    | some w => .ok w h
    | none => .ok v h) else .bad
  | none => .bad) h else .bad
/-- {0: v, ..} with written ints as keys -/
def lDctI : List (Int × EE) → Env → Heap → Res (List (Int × AV))
  | [], _ => fun h => .ok [] h
  | (k, e) :: r, ρ => bnd (e ρ) fun v => bnd (lDctI r ρ) fun vs h => .ok ((k, v) :: vs) h
def eDispI (kes : List (Int × EE)) : EE := fun ρ => bnd (lDctI kes ρ) fun ps h => .ok (.loc h.length) (h ++ [.dct (ps.foldl (fun acc p => dPut acc (.int p.1) p.2) [])])
def clF (l : List (String × Bool)) (n : String) : Option Bool := l.lookup n
end PA
/-! Abs4: -x, xs * n, d.pop, d.clear, a dict turned about, keys as a list, sorted, == of nested ones. -/
namespace PA
open PySem (Str PyData)
def eNeg (m : EE) : EE := fun ρ => bnd (m ρ) fun v h => match v with
  | .int i => .ok (.int (-i)) h
  | _ => .bad
/-- xs * n of a list -/
def oMulL : O2 := fun x y h => match x, y with
  | .loc l, .int k => match h[l]? with
    | some (.lst xs) => if 0 ≤ k ∧ k ≤ 1000 ∧ xs.length ≤ 1000 then .ok (.loc h.length) (h ++ [.lst (List.replicate k.toNat xs).flatten]) else .bad
    | _ => .bad
  | _, _ => .bad
def dDrop (kvs : List (AV × AV)) (k : AV) : List (AV × AV) := kvs.filter fun p => !keyEq p.1 k
/-- d.pop(k, x) -/
def eDPop2 (o i x : EE) : EE := fun ρ => bnd (o ρ) fun d h => if isDct h d = true then bnd (i ρ) (fun k => bnd (x ρ) fun v h => match dctU h d with
  | some kvs => if isKey k = true then (match dGet kvs k, d with
    | some w, .loc l => .ok w (h.set l (.dct (dDrop kvs k)))
    | none, _ => .ok v h
    | _, _ => .bad) else .bad
  | none => .bad) h else .bad
/-- d.clear() -/
def eDClear (o : EE) : EE := fun ρ => bnd (o ρ) fun d h => match d with
  | .loc l => match h[l]? with
    | some (.dct _) => .ok .non (h.set l (.dct []))
    | _ => .bad
  | _ => .bad
/-- dict(list(d.items())[::-1]) -/
def eRevIt (o : EE) : EE := fun ρ => bnd (o ρ) fun d h => match dctU h d with
  | some kvs => .ok (.loc h.length) (h ++ [.dct (kvs.reverse.foldl (fun acc p => dPut acc p.1 p.2) [])])
  | none => .bad
/-- list(d) -/
def bListD : FF := fun vs h => match vs with
  | [x] => match dctOf h x with
    | some kvs => .ok (.loc h.length) (h ++ [.lst (keysOf kvs)])
    | none => .bad
  | _ => .bad
/-- sorted(xs) of a list of texts, each once -/
def bSorted : FF := fun vs h => match vs with
  | [.loc l] => match h[l]? with
    | some (.lst xs) => match strsOf xs with
      | some ys => if ys.Nodup ∧ ys.length < 64 then .ok (.loc h.length) (h ++ [.lst ((sortD ys).map .str)]) else .bad
      | none => .bad
    | _ => .bad
  | _ => .bad
/-- equal, one beside one: flat data, tuples of such, dicts of flat texts or ints -/
def sameF : AV → AV → Bool
  | .non, .non => true
  | .bl a, .bl b => a == b
  | .int a, .int b => a == b
  | .str a, .str b => a == b
  | _, _ => false
def sameL (f : AV → AV → Bool) : List AV → List AV → Bool
  | [], [] => true
  | x :: xs, y :: ys => f x y && sameL f xs ys
  | _, _ => false
def isTup : AV → Bool
  | .tup _ => true
  | _ => false
def sameV (h : Heap) (x y : AV) : Bool := sameF x y || (isTup x && isTup y && decide (eqA h x y = some true)) || (match dctU h x, dctU h y with
  | some ks, some ls => sameKvs ks ls
  | _, _ => false)
/-- a != b of two lists whose items are equal -/
def oNeV : O2 := fun x y h => match x, y with
  | .loc l, .loc k => match h[l]?, h[k]? with
    | some (.lst xs), some (.lst ys) => if sameL (sameV h) xs ys = true then .ok (.bl false) h else .bad
    | _, _ => .bad
  | _, _ => .bad
/-- a == b of two dicts of texts -/
def hitsA (ys : List (AV × AV)) : List (AV × AV) → Option Bool
  | [] => some true
  | (k, v) :: r => match dGet ys k with
    | none => some false
    | some u => match v, u with
      | .str a, .str b => (hitsA ys r).map fun e => (a == b) && e
      | _, _ => none
def oEqDs : O2 := fun x y h => match dctU h x, dctU h y with
  | some xs, some ys => match hitsA ys xs with
    | some b => .ok (.bl (xs.length == ys.length && b)) h
    | none => .bad
  | _, _ => .bad
/-- a == b, a of the class c with its own __eq__, b a list -/
def oOwnEqL (c : String) (F : FF) : O2 := fun x y h => if (isIns c h x && isLst h y) = true then noExc (F [x, y] h) else .bad
/-- m1 if t else m2 -/
def xIf (t m1 m2 : Exc → EE) : Exc → EE := fun E ρ => bnd (t E ρ) fun v h => match v with
  | .bl true => m1 E ρ h
  | .bl false => m2 E ρ h
  | _ => .bad
end PA
/-! Abs5: an error that is handed to a def while it is handled. -/
namespace PA
open PySem (Str PyData)
def xBin (o : O2) (a b : Exc → EE) : Exc → EE := fun E => eBin o (a E) (b E)
def xAnd (a b : Exc → EE) : Exc → EE := fun E => eAnd (a E) (b E)
def xLst (l : Exc → LL) : Exc → EE := fun E => eLst (l E)
def xlNil : Exc → LL := fun _ => lNil
def xlCons (a : Exc → EE) (l : Exc → LL) : Exc → LL := fun E => lCons (a E) (l E)
/-- f(.., e) -/
def xCall (F : Exc → FF) (l : LL) : Exc → EE := fun E ρ => bnd (l ρ) fun vs h => noExc (F E vs h)
/-- a def's body run, the error its last argument -/
def runX (ar n : Nat) (b : Exc → SS) : Exc → FF := fun E vs h =>
  if vs.length = ar then
    match b E (vs.map some ++ none :: List.replicate n none) h with
    | .nx _ h' => .ok .non h'
    | .ret v h' => .ok v h'
    | _ => .bad
  else .bad
def xSet (i : Nat) (m : Exc → EE) : Exc → SS := fun E => sSet i (m E)
def xRet (m : Exc → EE) : Exc → SS := fun E => sRet (m E)
def xSeq (a b : Exc → SS) : Exc → SS := fun E => sSeq (a E) (b E)
def xIfS (t : BB) (a b : Exc → SS) : Exc → SS := fun E => sIf t (a E) (b E)
def xNil : Exc → SS := fun _ => sNil
def xIfT (t : BB) (a b : Exc → EE) : Exc → EE := fun E => eIf t (a E) (b E)
/-- e.f, e of one of these classes -/
def xFldM (cs : List String) (f : Str) : Exc → EE := fun E _ h => if cs.contains E.cls = true then (match E.fs.lookup f with
  | some v => .ok v h
  | none => .bad) else .bad
/-- what must not raise -/
def qT (t : BB) : BB := fun ρ h => noExc (t ρ h)
def qL (l : LL) : LL := fun ρ h => noExc (l ρ h)
def offX (i : Nat) : SR → SR
  | .nx ρ h => .nx (ρ.set i none) h
  | .ret v h => .ret v h
  | _ => .bad
/-- try: m except C as i: s, where C takes whatever m raises -/
def sTryE (m : SS) (f : String → Bool) (i : Nat) (s : Exc → SS) : SS := fun ρ h => match m ρ h with
  | .exc E ρ' h' => if f E.cls = true ∧ i < ρ'.length then offX i (s E (ρ'.set i none) h') else .bad
  | r => r
end PA
set_option maxRecDepth 100000
set_option maxHeartbeats 2000000
/-! Lift1: how plain data and the plain heap lie in the hand layer's heap; what a rule promises. -/
namespace PL
open PySem PySem.Spec PyProof.Rows L2 PA

/-- what is fixed: the written part, where defs and classes stand, the slots of slotted classes -/
structure Cz where
  P : Program
  w : World
  K : PySem.W.Frag
  mg : Str → Option Value
  base : PySem.Heap
  ad : String → Addr
  sl : String → Option (List Str)
  scr : List Int

mutual
inductive AvR (C : Cz) (ι : Nat → Addr) (n : Nat) (H : Hp) : AV → V → Prop
  | non : AvR C ι n H .non .non
  | bl (b : Bool) : AvR C ι n H (.bl b) (.bl b)
  | int (i : Int) : AvR C ι n H (.int i) (.int i)
  | str (s : Str) : AvR C ι n H (.str s) (.str s)
  | tup {a : Addr} {xs : List AV} {vs : List V} : SqT C.K H a vs → AvRs C ι n H xs vs → AvR C ι n H (.tup xs) (.ref a)
  | loc {l : Nat} : l < n → AvR C ι n H (.loc l) (.ref (ι l))
  | gl (g : String) : AvR C ι n H (.gl g) (.ref (C.ad g))
  | ty (t : String) : AvR C ι n H (.ty t) (.ty t)
inductive AvRs (C : Cz) (ι : Nat → Addr) (n : Nat) (H : Hp) : List AV → List V → Prop
  | nil : AvRs C ι n H [] []
  | cons {x : AV} {v : V} {xs : List AV} {vs : List V} : AvR C ι n H x v → AvRs C ι n H xs vs → AvRs C ι n H (x :: xs) (v :: vs)
end

inductive FsR (C : Cz) (ι : Nat → Addr) (n : Nat) (H : Hp) : List (Str × AV) → List (Str × V) → Prop
  | nil : FsR C ι n H [] []
  | cons {f : Str} {x : AV} {v : V} {fs : List (Str × AV)} {gs : List (Str × V)} : AvR C ι n H x v → FsR C ι n H fs gs → FsR C ι n H ((f, x) :: fs) ((f, v) :: gs)
/-- keys: ints and texts -/
inductive KsR (C : Cz) (ι : Nat → Addr) (n : Nat) (H : Hp) : List (AV × AV) → List (Key × V) → Prop
  | nil : KsR C ι n H [] []
  | int {i : Int} {x : AV} {v : V} {fs : List (AV × AV)} {gs : List (Key × V)} : AvR C ι n H x v → KsR C ι n H fs gs → KsR C ι n H ((.int i, x) :: fs) ((.inl i, v) :: gs)
  | str {i : Str} {x : AV} {v : V} {fs : List (AV × AV)} {gs : List (Key × V)} : AvR C ι n H x v → KsR C ι n H fs gs → KsR C ι n H ((.str i, x) :: fs) ((.inr i, v) :: gs)
/-- a slotted instance's slots -/
def SlsR (C : Cz) (ι : Nat → Addr) (n : Nat) (H : Hp) (names : List Str) (fs : List (Str × AV)) (vs : List (Option V)) : Prop :=
  ∀ (i : Nat) (f : Str) (x : AV), names[i]? = some f → fs.lookup f = some x → ∃ v, vs[i]? = some (some v) ∧ AvR C ι n H x v

def ObR (C : Cz) (ι : Nat → Addr) (n : Nat) (H : Hp) (a : Addr) : AO → Prop
  | .lst xs => ∃ vs, H a = some (.lst vs) ∧ AvRs C ι n H xs vs
  | .dct kvs => ∃ ks, H a = some (.dK ks) ∧ KsR C ι n H kvs ks
  | .lck kvs => ∃ o ks, H a = some (.frz o (.dK ks)) ∧ KsR C ι n H kvs ks
  | .ins c fs => (C.sl c = none ∧ ∃ dx gs, H a = some (.ins (C.ad c) dx gs) ∧ FsR C ι n H fs gs) ∨
      (∃ names dx vs, C.sl c = some names ∧ ((H a = some (.ins (C.ad c) dx []) ∧ H dx = some (.own a) ∧ vs = []) ∨ (H a = some (SlX.SlO a (C.ad c) dx vs) ∧ H dx = some (.xd []))) ∧ dx ≠ a ∧ SlsR C ι n H names fs vs)

/-- the law's script: a list that nobody writes -/
def ScR (C : Cz) (H : Hp) : Prop := (∃ o, H (C.ad "#s") = some (.frz o (.lst (C.scr.map V.int)))) ∨
  ∃ (o : Obj) (its : Array Value) (n : Nat), C.K.lookup (C.ad "#s") = some o ∧ o.cls = .type "list" ∧ o.dict = none ∧ o.data = .seq its n ∧ its.size ≤ sizeLine ∧ Vals (C.scr.map V.int) its.toList
theorem ScR.keep {C : Cz} {H H' : Hp} (s : ScR C H) (k : ∀ p o u, H p = some (.frz o u) → H' p = some (.frz o u)) : ScR C H' := by
  rcases s with ⟨o, e⟩ | e
  · exact .inl ⟨o, k _ _ _ e⟩
  · exact .inr e
theorem ScR.upd {C : Cz} {H : Hp} {p : Addr} {u : HO} (s : ScR C H) (nf : ∀ o u, H p ≠ some (.frz o u)) : ScR C (L2.upd H p u) :=
  s.keep fun q o w e => by rw [upd_ne (fun z => nf o w (by rw [← z]; exact e))]; exact e
structure Rep (C : Cz) (ι : Nat → Addr) (h : PA.Heap) (H : Hp) : Prop where
  at_ : ∀ l o, h[l]? = some o → ObR C ι h.length H (ι l) o
  inj : ∀ l l', l < h.length → l' < h.length → ι l = ι l' → l = l'
  scr : ScR C H

structure Ext (ι : Nat → Addr) (n : Nat) (H : Hp) (ι' : Nat → Addr) (n' : Nat) (H' : Hp) : Prop where
  le : n ≤ n'
  agree : ∀ l, l < n → ι' l = ι l
  frame : ∀ p o, H p = some o → (∀ y, o ≠ .own y) → (∀ l, l < n → ι l ≠ p) → H' p = some o
  fresh : ∀ l, n ≤ l → l < n' → H (ι' l) = none
  dom : ∀ p, H p ≠ none → H' p ≠ none
  frz : ∀ p o u, H p = some (.frz o u) → H' p = some (.frz o u)

theorem Ext.refl {ι : Nat → Addr} {n : Nat} {H : Hp} : Ext ι n H ι n H :=
  ⟨Nat.le_refl _, fun _ _ => rfl, fun _ _ e _ _ => e, fun l a b => absurd (Nat.lt_of_lt_of_le b a) (Nat.lt_irrefl _), fun _ e => e, fun _ _ _ e => e⟩
theorem Ext.trans {ι ι1 ι2 : Nat → Addr} {n n1 n2 : Nat} {H H1 H2 : Hp} (a : Ext ι n H ι1 n1 H1) (b : Ext ι1 n1 H1 ι2 n2 H2) : Ext ι n H ι2 n2 H2 where
  le := Nat.le_trans a.le b.le
  agree := fun l hl => (b.agree l (Nat.lt_of_lt_of_le hl a.le)).trans (a.agree l hl)
  frame := fun p o e ho hp => b.frame p o (a.frame p o e ho hp) ho fun l hl z => by
    by_cases q : l < n
    · exact hp l q ((a.agree l q).symm.trans z)
    · have := a.fresh l (Nat.le_of_not_lt q) hl
      rw [z, e] at this
      cases this
  fresh := fun l h1 h2 => by
    by_cases q : l < n1
    · rw [b.agree l q]
      exact a.fresh l h1 q
    · have f := b.fresh l (Nat.le_of_not_lt q) h2
      cases e : H (ι2 l) with
      | none => rfl
      | some o => exact absurd f (a.dom _ (by rw [e]; exact fun z => nomatch z))
  dom := fun p hp => b.dom p (a.dom p hp)
  frz := fun p o u e => b.frz p o u (a.frz p o u e)

section
variable {C : Cz} {ι ι' : Nat → Addr} {h h' : PA.Heap} {n n' : Nat} {H H' : Hp}
theorem slO_notup {a C dx : Addr} {vs : List (Option V)} {xs : List V} : SlX.SlO a C dx vs ≠ .tup xs := fun z => by unfold SlX.SlO at z; cases z
theorem slO_nofrz {a C dx : Addr} {vs : List (Option V)} {o : Obj} {u : HO} : SlX.SlO a C dx vs ≠ .frz o u := fun z => by unfold SlX.SlO at z; cases z
/-- an object of ours is no tuple -/
theorem ObR.notup {a : Addr} {o : AO} (r : ObR C ι n H a o) {xs : List V} (t : Rd H a (.tup xs)) : False := by
  have key : ∀ u, H a = some u → (∀ xs, u ≠ .tup xs) → (∀ o w, u ≠ .frz o w) → False := fun u e h1 h2 => by
    rcases t with t | ⟨o, t⟩
    · rw [e] at t; exact h1 xs (Option.some.inj t)
    · rw [e] at t; exact h2 o _ (Option.some.inj t)
  cases o with
  | lst ys => obtain ⟨vs, e, _⟩ := r; exact key _ e (fun _ z => nomatch z) (fun _ _ z => nomatch z)
  | dct ys => obtain ⟨vs, e, _⟩ := r; exact key _ e (fun _ z => nomatch z) (fun _ _ z => nomatch z)
  | lck ys =>
    obtain ⟨o, vs, e, _⟩ := r
    rcases t with t | ⟨o', t⟩
    · rw [e] at t; cases t
    · rw [e] at t; cases t
  | ins c fs =>
    rcases r with ⟨_, dx, gs, e, _⟩ | ⟨_, dx, vs, _, sl, _⟩
    · exact key _ e (fun _ z => nomatch z) (fun _ _ z => nomatch z)
    · rcases sl with ⟨e, _, _⟩ | ⟨e, _⟩
      · exact key _ e (fun _ z => nomatch z) (fun _ _ z => nomatch z)
      · exact key _ e (fun _ => slO_notup) (fun _ _ => slO_nofrz)
theorem Rep.there (r : Rep C ι h H) {l : Nat} (hl : l < h.length) : ∃ o, h[l]? = some o ∧ ObR C ι h.length H (ι l) o := ⟨h[l], by simp [hl], r.at_ l _ (by simp [hl])⟩
theorem Rep.sqT (r : Rep C ι h H) (e : Ext ι h.length H ι' n' H') {a : Addr} {xs : List V} (t : SqT C.K H a xs) : SqT C.K H' a xs := by
  rcases t with t | t
  · have off : ∀ l, l < h.length → ι l ≠ a := fun l hl z => by
      obtain ⟨o, _, ob⟩ := r.there hl
      exact (z ▸ ob).notup t
    rcases t with t | ⟨o, t⟩
    · exact .inl (.inl (e.frame _ _ t (fun _ z => nomatch z) off))
    · exact .inl (.inr ⟨o, e.frame _ _ t (fun _ z => nomatch z) off⟩)
  · exact .inr t
mutual
theorem Rep.av (r : Rep C ι h H) (e : Ext ι h.length H ι' n' H') : ∀ {x : AV} {v : V}, AvR C ι h.length H x v → AvR C ι' n' H' x v
  | _, _, .non => .non
  | _, _, .bl b => .bl b
  | _, _, .int i => .int i
  | _, _, .str s => .str s
  | _, _, .tup t q => .tup (r.sqT e t) (Rep.avs r e q)
  | _, _, .loc (l := l) hl => by rw [← e.agree l hl]; exact .loc (Nat.lt_of_lt_of_le hl e.le)
  | _, _, .gl g => .gl g
  | _, _, .ty t => .ty t
theorem Rep.avs (r : Rep C ι h H) (e : Ext ι h.length H ι' n' H') : ∀ {xs : List AV} {vs : List V}, AvRs C ι h.length H xs vs → AvRs C ι' n' H' xs vs
  | _, _, .nil => .nil
  | _, _, .cons a b => .cons (Rep.av r e a) (Rep.avs r e b)
end
theorem Rep.fsr (r : Rep C ι h H) (e : Ext ι h.length H ι' n' H') : ∀ {xs : List (Str × AV)} {vs : List (Str × V)}, FsR C ι h.length H xs vs → FsR C ι' n' H' xs vs
  | _, _, .nil => .nil
  | _, _, .cons a b => .cons (r.av e a) (Rep.fsr r e b)
theorem Rep.ksr (r : Rep C ι h H) (e : Ext ι h.length H ι' n' H') : ∀ {xs : List (AV × AV)} {vs : List (Key × V)}, KsR C ι h.length H xs vs → KsR C ι' n' H' xs vs
  | _, _, .nil => .nil
  | _, _, .int a b => .int (r.av e a) (Rep.ksr r e b)
  | _, _, .str a b => .str (r.av e a) (Rep.ksr r e b)
theorem Rep.sls (r : Rep C ι h H) (e : Ext ι h.length H ι' n' H') {names : List Str} {fs : List (Str × AV)} {vs : List (Option V)} (q : SlsR C ι h.length H names fs vs) : SlsR C ι' n' H' names fs vs :=
  fun i f x h1 h2 => let ⟨v, e1, e2⟩ := q i f x h1 h2; ⟨v, e1, r.av e e2⟩
mutual
theorem AvR.map (k : ∀ a xs, SqT C.K H a xs → SqT C.K H' a xs) (hn : n ≤ n') (ag : ∀ l, l < n → ι' l = ι l) : ∀ {x : AV} {v : V}, AvR C ι n H x v → AvR C ι' n' H' x v
  | _, _, .non => .non
  | _, _, .bl b => .bl b
  | _, _, .int i => .int i
  | _, _, .str s => .str s
  | _, _, .tup t q => .tup (k _ _ t) (AvRs.map k hn ag q)
  | _, _, .loc (l := l) hl => by rw [← ag l hl]; exact .loc (Nat.lt_of_lt_of_le hl hn)
  | _, _, .gl g => .gl g
  | _, _, .ty t => .ty t
theorem AvRs.map (k : ∀ a xs, SqT C.K H a xs → SqT C.K H' a xs) (hn : n ≤ n') (ag : ∀ l, l < n → ι' l = ι l) : ∀ {xs : List AV} {vs : List V}, AvRs C ι n H xs vs → AvRs C ι' n' H' xs vs
  | _, _, .nil => .nil
  | _, _, .cons a b => .cons (AvR.map k hn ag a) (AvRs.map k hn ag b)
end
theorem FsR.map (k : ∀ a xs, SqT C.K H a xs → SqT C.K H' a xs) (hn : n ≤ n') (ag : ∀ l, l < n → ι' l = ι l) : ∀ {xs : List (Str × AV)} {vs : List (Str × V)}, FsR C ι n H xs vs → FsR C ι' n' H' xs vs
  | _, _, .nil => .nil
  | _, _, .cons a b => .cons (AvR.map k hn ag a) (FsR.map k hn ag b)
theorem KsR.map (k : ∀ a xs, SqT C.K H a xs → SqT C.K H' a xs) (hn : n ≤ n') (ag : ∀ l, l < n → ι' l = ι l) : ∀ {xs : List (AV × AV)} {vs : List (Key × V)}, KsR C ι n H xs vs → KsR C ι' n' H' xs vs
  | _, _, .nil => .nil
  | _, _, .int a b => .int (AvR.map k hn ag a) (KsR.map k hn ag b)
  | _, _, .str a b => .str (AvR.map k hn ag a) (KsR.map k hn ag b)
theorem AvRs.length {xs : List AV} {vs : List V} (r : AvRs C ι n H xs vs) : xs.length = vs.length := by
  induction xs generalizing vs with
  | nil => cases r; rfl
  | cons x xs ih => cases r with | cons a b => simp [ih b]
theorem AvRs.append {xs ys : List AV} {vs ws : List V} (r : AvRs C ι n H xs vs) (q : AvRs C ι n H ys ws) : AvRs C ι n H (xs ++ ys) (vs ++ ws) := by
  induction xs generalizing vs with
  | nil => cases r; exact q
  | cons x xs ih => cases r with | cons a b => exact .cons a (ih b)
theorem AvRs.get {xs : List AV} {vs : List V} (r : AvRs C ι n H xs vs) {i : Nat} {x : AV} (e : xs[i]? = some x) : ∃ v, vs[i]? = some v ∧ AvR C ι n H x v := by
  induction xs generalizing vs i with
  | nil => simp at e
  | cons y ys ih =>
    cases r with
    | cons a b =>
      cases i with
      | zero => simp at e; subst e; exact ⟨_, rfl, a⟩
      | succ i => obtain ⟨v, e1, e2⟩ := ih b (by simpa using e); exact ⟨v, by simpa using e1, e2⟩
theorem AvRs.set {xs : List AV} {vs : List V} {x : AV} {v : V} (r : AvRs C ι n H xs vs) (q : AvR C ι n H x v) (i : Nat) : AvRs C ι n H (xs.set i x) (vs.set i v) := by
  induction xs generalizing vs i with
  | nil => cases r; exact .nil
  | cons y ys ih =>
    cases r with
    | cons a b =>
      cases i with
      | zero => exact .cons q b
      | succ i => exact .cons a (ih b i)
theorem FsR.lookup {fs : List (Str × AV)} {gs : List (Str × V)} (r : FsR C ι n H fs gs) (f : Str) : (∃ x v, fs.lookup f = some x ∧ gs.lookup f = some v ∧ AvR C ι n H x v) ∨ (fs.lookup f = none ∧ gs.lookup f = none) := by
  induction fs generalizing gs with
  | nil => cases r; exact .inr ⟨rfl, rfl⟩
  | cons p fs ih =>
    cases r with
    | cons a b =>
      rename_i g x v gs
      by_cases q : f = g
      · subst q; exact .inl ⟨x, v, by simp [List.lookup], by simp [List.lookup], a⟩
      · have q' : (f == g) = false := by simpa using q
        simp only [List.lookup, q']
        exact ih b
theorem FsR.length {fs : List (Str × AV)} {gs : List (Str × V)} (r : FsR C ι n H fs gs) : fs.length = gs.length := by
  induction fs generalizing gs with
  | nil => cases r; rfl
  | cons p fs ih => cases r with | cons a b => simp [ih b]
theorem FsR.put {fs : List (Str × AV)} {gs : List (Str × V)} {x : AV} {v : V} (r : FsR C ι n H fs gs) (q : AvR C ι n H x v) (f : Str) : FsR C ι n H (PA.putF f x fs) (L2.putF f v gs) := by
  induction fs generalizing gs with
  | nil => cases r; exact .cons q .nil
  | cons p fs ih =>
    cases r with
    | cons a b =>
      rename_i g y w gs
      show FsR C ι n H (if g = f then _ else _) (if g = f then _ else _)
      by_cases e : g = f
      · rw [if_pos e, if_pos e]; exact .cons q b
      · rw [if_neg e, if_neg e]; exact .cons a (ih b)
theorem ObR.kind {a : Addr} {o : AO} (r : ObR C ι n H a o) : ∃ u, H a = some u ∧ (∀ fs, u ≠ .xd fs) ∧ ∀ y, u ≠ .own y := by
  cases o with
  | lst ys => obtain ⟨_, e, _⟩ := r; exact ⟨_, e, (fun _ z => nomatch z), (fun _ z => nomatch z)⟩
  | dct ys => obtain ⟨_, e, _⟩ := r; exact ⟨_, e, (fun _ z => nomatch z), (fun _ z => nomatch z)⟩
  | lck ys => obtain ⟨_, _, e, _⟩ := r; exact ⟨_, e, (fun _ z => nomatch z), (fun _ z => nomatch z)⟩
  | ins c fs =>
    rcases r with ⟨_, _, _, e, _⟩ | ⟨_, _, _, _, sl, _⟩
    · exact ⟨_, e, (fun _ z => nomatch z), (fun _ z => nomatch z)⟩
    · rcases sl with ⟨e, _, _⟩ | ⟨e, _⟩
      · exact ⟨_, e, (fun _ z => nomatch z), (fun _ z => nomatch z)⟩
      · exact ⟨_, e, (fun _ z => by unfold SlX.SlO at z; cases z), (fun _ z => by unfold SlX.SlO at z; cases z)⟩
theorem ObR.noxd {a : Addr} {o : AO} {fs : List (Str × V)} (r : ObR C ι n H a o) (e : H a = some (.xd fs)) : False := by
  obtain ⟨u, h1, h2, _⟩ := r.kind
  rw [h1] at e
  exact h2 _ (Option.some.inj e)
theorem ObR.noown {a y : Addr} {o : AO} (r : ObR C ι n H a o) (e : H a = some (.own y)) : False := by
  obtain ⟨u, h1, _, h2⟩ := r.kind
  rw [h1] at e
  exact h2 _ (Option.some.inj e)
/-- an object that stands as it stood -/
theorem Rep.obr (r : Rep C ι h H) (e : Ext ι h.length H ι' n' H') {a : Addr} {o : AO} (q : ObR C ι h.length H a o) (st : H' a = H a) (so : ∀ dx, H dx = some (.own a) → H' dx = some (.own a)) : ObR C ι' n' H' a o := by
  cases o with
  | lst xs => obtain ⟨vs, e1, e2⟩ := q; exact ⟨vs, st.trans e1, r.avs e e2⟩
  | dct xs => obtain ⟨vs, e1, e2⟩ := q; exact ⟨vs, st.trans e1, r.ksr e e2⟩
  | lck xs => obtain ⟨o, vs, e1, e2⟩ := q; exact ⟨o, vs, st.trans e1, r.ksr e e2⟩
  | ins c fs =>
    rcases q with ⟨e0, dx, gs, e1, e2⟩ | ⟨names, dx, vs, e0, sl, ne, e2⟩
    · exact .inl ⟨e0, dx, gs, st.trans e1, r.fsr e e2⟩
    · refine .inr ⟨names, dx, vs, e0, ?_, ne, r.sls e e2⟩
      rcases sl with ⟨s1, s2, s3⟩ | ⟨s1, s2⟩
      · exact .inl ⟨st.trans s1, so _ s2, s3⟩
      · refine .inr ⟨st.trans s1, e.frame _ _ s2 (fun _ z => nomatch z) fun l hl z => ?_⟩
        obtain ⟨o, _, ob⟩ := r.there hl
        rw [z] at ob
        exact ob.noxd s2

/-- tracked beside ours: kept -/
theorem Ext.laid (r : Rep C ι h H) {p : Addr} {o : HO} (hp : H p = none) : Ext ι h.length H ι h.length (upd H p o) where
  le := Nat.le_refl _
  agree := fun _ _ => rfl
  frame := fun q u e _ _ => by rw [upd_ne (ne_of_none e hp)]; exact e
  fresh := fun l a b => absurd (Nat.lt_of_lt_of_le b a) (Nat.lt_irrefl _)
  dom := fun q e => by
    by_cases z : q = p
    · rw [z, upd_same]; exact fun z => nomatch z
    · rw [upd_ne z]; exact e
  frz := fun q o' u e => by rw [upd_ne (ne_of_none e hp)]; exact e
theorem ObR.some_ {a : Addr} {o : AO} (r : ObR C ι n H a o) : ∃ u, H a = some u := by
  cases o with
  | lst ys => obtain ⟨vs, e, _⟩ := r; exact ⟨_, e⟩
  | dct ys => obtain ⟨vs, e, _⟩ := r; exact ⟨_, e⟩
  | lck ys => obtain ⟨_, vs, e, _⟩ := r; exact ⟨_, e⟩
  | ins c fs =>
    rcases r with ⟨_, dx, gs, e, _⟩ | ⟨_, dx, vs, _, sl, _⟩
    · exact ⟨_, e⟩
    · rcases sl with ⟨e, _, _⟩ | ⟨e, _⟩ <;> exact ⟨_, e⟩
theorem Rep.off (r : Rep C ι h H) {p : Addr} (hp : H p = none) {l : Nat} (hl : l < h.length) : ι l ≠ p := fun z => by
  obtain ⟨o, _, ob⟩ := r.there hl
  obtain ⟨u, e⟩ := ob.some_
  rw [z, hp] at e; cases e
theorem Rep.laid (r : Rep C ι h H) {p : Addr} {o : HO} (hp : H p = none) : Rep C ι h (upd H p o) :=
  ⟨fun l ob e => r.obr (Ext.laid r hp) (r.at_ l ob e) (upd_ne (r.off hp (List.getElem?_eq_some_iff.mp e).1)) (fun dx q => by rw [upd_ne (ne_of_none q hp)]; exact q), r.inj, r.scr.keep (Ext.laid r hp).frz⟩
/-- a new object of ours -/
def put1 (ι : Nat → Addr) (n : Nat) (p : Addr) : Nat → Addr := fun l => if l = n then p else ι l
theorem put1_same {p : Addr} : put1 ι n p n = p := if_pos rfl
theorem put1_lt {p : Addr} {l : Nat} (hl : l < n) : put1 ι n p l = ι l := if_neg (Nat.ne_of_lt hl)
theorem Ext.grow (r : Rep C ι h H) {p : Addr} {o : HO} (hp : H p = none) : Ext ι h.length H (put1 ι h.length p) (h.length + 1) (upd H p o) where
  le := Nat.le_succ _
  agree := fun l hl => put1_lt hl
  frame := fun q u e _ _ => by rw [upd_ne (ne_of_none e hp)]; exact e
  fresh := fun l a b => by
    have : l = h.length := by omega
    subst this
    rw [put1_same]; exact hp
  dom := (Ext.laid r hp).dom
  frz := (Ext.laid (o := o) r hp).frz
theorem Rep.grow (r : Rep C ι h H) {p : Addr} {o : HO} {ao : AO} (hp : H p = none) (ob : ObR C (put1 ι h.length p) (h.length + 1) (upd H p o) p ao) : Rep C (put1 ι h.length p) (h ++ [ao]) (upd H p o) := by
  refine ⟨fun l o' e => ?_, fun l l' a b e => ?_, r.scr.keep (Ext.laid (o := o) r hp).frz⟩
  · rw [List.length_append, List.length_singleton]
    by_cases q : l < h.length
    · rw [List.getElem?_append_left q] at e
      rw [put1_lt q]
      exact r.obr (Ext.grow r hp) (r.at_ l o' e) (upd_ne (r.off hp q)) (fun dx q => by rw [upd_ne (ne_of_none q hp)]; exact q)
    · have hl : l < h.length + 1 := by have := (List.getElem?_eq_some_iff.mp e).1; simpa using this
      have : l = h.length := by omega
      subst this
      rw [List.getElem?_append_right (Nat.le_refl _), Nat.sub_self] at e
      simp at e
      subst e
      rw [put1_same]
      exact ob
  · rw [List.length_append, List.length_singleton] at a b
    by_cases q : l < h.length
    · by_cases q' : l' < h.length
      · rw [put1_lt q, put1_lt q'] at e; exact r.inj l l' q q' e
      · have : l' = h.length := by omega
        subst this
        rw [put1_lt q, put1_same] at e
        exact absurd e (r.off hp q)
    · have : l = h.length := by omega
      subst this
      by_cases q' : l' < h.length
      · rw [put1_lt q', put1_same] at e
        exact absurd e.symm (r.off hp q')
      · omega
/-- an object of ours changed -/
theorem Ext.chg (r : Rep C ι h H) {l : Nat} {u : HO} (hl : l < h.length) (nf : ∀ o u, H (ι l) ≠ some (.frz o u)) : Ext ι h.length H ι h.length (upd H (ι l) u) where
  le := Nat.le_refl _
  agree := fun _ _ => rfl
  frame := fun q o e _ hq => by rw [upd_ne (Ne.symm (hq l hl))]; exact e
  fresh := fun l a b => absurd (Nat.lt_of_lt_of_le b a) (Nat.lt_irrefl _)
  dom := fun q e => by
    by_cases z : q = ι l
    · rw [z, upd_same]; exact fun z => nomatch z
    · rw [upd_ne z]; exact e
  frz := fun q o' u' e => by rw [upd_ne (fun z => nf o' u' (by rw [← z]; exact e))]; exact e
theorem Rep.chg (r : Rep C ι h H) {l : Nat} {u : HO} {ao : AO} (hl : l < h.length) (nf : ∀ o u, H (ι l) ≠ some (.frz o u)) (ob : ObR C ι h.length (upd H (ι l) u) (ι l) ao) : Rep C ι (h.set l ao) (upd H (ι l) u) := by
  refine ⟨fun k o e => ?_, fun k k' a b e => r.inj k k' (by simpa using a) (by simpa using b) e, r.scr.keep (Ext.chg r hl nf).frz⟩
  rw [List.length_set]
  by_cases q : l = k
  · subst q
    rw [List.getElem?_set_self hl] at e
    cases e
    exact ob
  · rw [List.getElem?_set_ne q] at e
    have hk := (List.getElem?_eq_some_iff.mp e).1
    refine r.obr (Ext.chg r hl nf) (r.at_ k o e) (upd_ne fun z => q (r.inj k l hk hl z).symm) fun dx qd => ?_
    rw [upd_ne (fun z => ?_)]
    · exact qd
    · obtain ⟨o2, _, ob2⟩ := r.there hl
      rw [z] at qd
      exact ob2.noown qd
/-- a list beside ours is written -/
theorem side_sqT {D : Addr} {ys : List V} {u : HO} (hD : H D = some (.lst ys)) {a : Addr} {xs : List V} (t : SqT C.K H a xs) : SqT C.K (upd H D u) a xs := by
  rcases t with (t | ⟨o, t⟩) | t
  · exact .inl (.inl (by rw [upd_ne (fun z => by rw [z, hD] at t; cases t)]; exact t))
  · exact .inl (.inr ⟨o, by rw [upd_ne (fun z => by rw [z, hD] at t; cases t)]; exact t⟩)
  · exact .inr t
theorem Rep.side (r : Rep C ι h H) {D : Addr} {ys : List V} {u : HO} (hD : H D = some (.lst ys)) (off : ∀ l, l < h.length → ι l ≠ D) : Rep C ι h (upd H D u) := by
  refine ⟨fun l o e => ?_, r.inj, r.scr.upd fun o w z => by rw [hD] at z; cases z⟩
  have hl := (List.getElem?_eq_some_iff.mp e).1
  have st : upd H D u (ι l) = H (ι l) := upd_ne (off l hl)
  have q := r.at_ l o e
  cases o with
  | lst xs => obtain ⟨vs, e1, e2⟩ := q; exact ⟨vs, st.trans e1, e2.map (fun _ _ => side_sqT hD) (Nat.le_refl _) fun _ _ => rfl⟩
  | dct xs => obtain ⟨vs, e1, e2⟩ := q; exact ⟨vs, st.trans e1, e2.map (fun _ _ => side_sqT hD) (Nat.le_refl _) fun _ _ => rfl⟩
  | lck xs => obtain ⟨o, vs, e1, e2⟩ := q; exact ⟨o, vs, st.trans e1, e2.map (fun _ _ => side_sqT hD) (Nat.le_refl _) fun _ _ => rfl⟩
  | ins c fs =>
    rcases q with ⟨e0, dx, gs, e1, e2⟩ | ⟨names, dx, vs, e0, sl, ne, e2⟩
    · exact .inl ⟨e0, dx, gs, st.trans e1, e2.map (fun _ _ => side_sqT hD) (Nat.le_refl _) fun _ _ => rfl⟩
    · refine .inr ⟨names, dx, vs, e0, ?_, ne, fun i f x h1 h2 => let ⟨v, e3, e4⟩ := e2 i f x h1 h2; ⟨v, e3, e4.map (fun _ _ => side_sqT hD) (Nat.le_refl _) fun _ _ => rfl⟩⟩
      rcases sl with ⟨s1, s2, s3⟩ | ⟨s1, s2⟩
      · exact .inl ⟨st.trans s1, by rw [upd_ne (fun z => by rw [z, hD] at s2; cases s2)]; exact s2, s3⟩
      · exact .inr ⟨st.trans s1, by rw [upd_ne (fun z => by rw [z, hD] at s2; cases s2)]; exact s2⟩
theorem Ext.side {ι0 : Nat → Addr} {n0 : Nat} {H0 : Hp} (e : Ext ι0 n0 H0 ι n H) {D : Addr} {u : HO} (hD : H0 D = none) : Ext ι0 n0 H0 ι n (upd H D u) where
  le := e.le
  agree := e.agree
  frame := fun p o q ho k => by rw [upd_ne (ne_of_none q hD)]; exact e.frame p o q ho k
  fresh := e.fresh
  dom := fun p q => by
    by_cases z : p = D
    · rw [z, upd_same]; exact fun z => nomatch z
    · rw [upd_ne z]; exact e.dom p q
  frz := fun p o w q => by rw [upd_ne (ne_of_none q hD)]; exact e.frz p o w q
end
end PL
set_option maxRecDepth 100000
set_option maxHeartbeats 2000000
/-! Lift2: what a rule promises; names, constants, operators, tests, tuples, fields, calls. -/
namespace PL
open PySem PySem.Spec PyProof.Rows L2 PA

/-- an exception that flies: its class, its own dict -/
def ExR (C : Cz) (ι : Nat → Addr) (n : Nat) (H : Hp) (e : Exc) (cls : Value) (d : Option Addr) : Prop :=
  cls = .ref (C.ad e.cls) ∧ ((e.fs = [] ∧ d = none) ∨ ∃ dd gs, d = some dd ∧ H dd = some (.xd gs) ∧ FsR C ι n H e.fs gs)

abbrev RR (α β : Type) := (Nat → Addr) → Nat → Hp → α → β → Prop
def GPost {α β : Type} (C : Cz) (R : RR α β) (ι : Nat → Addr) (h : PA.Heap) (H : Hp) (Q : β → Hp → Prop) (W : XK) : Res α → Prop
  | .ok a h' => ∀ ι' H' b, Ext ι h.length H ι' h'.length H' → Rep C ι' h' H' → R ι' h'.length H' a b → Q b H'
  | .exc e h' => ∀ ι' H' cls d, Ext ι h.length H ι' h'.length H' → Rep C ι' h' H' → ExR C ι' h'.length H' e cls d → W cls d H'
  | .bad => False
abbrev rB : RR Bool Bool := fun _ _ _ a b => a = b

section
variable {C : Cz} {α β α' β' : Type} {R : RR α β} {R' : RR α' β'} {ι ι' : Nat → Addr} {h h' : PA.Heap} {H H' : Hp} {W W' : XK}
theorem GPost.mono {Q Q' : β → Hp → Prop} {r : Res α} (p : GPost C R ι h H Q W r) (k : ∀ b H, Q b H → Q' b H) : GPost C R ι h H Q' W r := by
  cases r with
  | ok a h1 => exact fun ι1 H1 b e rr x => k _ _ (p ι1 H1 b e rr x)
  | exc e h1 => exact p
  | bad => exact p
theorem GPost.shift {Q : β → Hp → Prop} {r : Res α} (p : GPost C R ι h H Q W r) (e : Ext ι h.length H ι' h'.length H') : GPost C R ι' h' H' Q W r := by
  cases r with
  | ok a h1 => exact fun ι1 H1 b e1 rr x => p ι1 H1 b (e.trans e1) rr x
  | exc e' h1 => exact fun ι1 H1 c d e1 rr x => p ι1 H1 c d (e.trans e1) rr x
  | bad => exact p
theorem GPost.bnd {Q : β' → Hp → Prop} {m : PA.Heap → Res α} {k : α → PA.Heap → Res α'} (p : GPost C R' ι h H Q W (PA.bnd m k h)) :
    GPost C R ι h H (fun b H1 => ∃ ι1 h1 a, Rep C ι1 h1 H1 ∧ Ext ι h.length H ι1 h1.length H1 ∧ R ι1 h1.length H1 a b ∧ GPost C R' ι1 h1 H1 Q W (k a h1)) W (m h) := by
  unfold PA.bnd at p
  cases e : m h with
  | ok a h1 =>
    rw [e] at p
    exact fun ι1 H1 b e1 rr x => ⟨ι1, h1, a, rr, e1, x, GPost.shift (h := h) (h' := h1) p e1⟩
  | exc e' h1 => rw [e] at p; exact p
  | bad => rw [e] at p; exact p
end

/-- the slots -/
def EnR (C : Cz) (ι : Nat → Addr) (n : Nat) (H : Hp) (ρ : PA.Env) (σ : L2.St) : Prop := ρ.length = σ.length ∧ ∀ (i : Nat) (a : AV), ρ[i]? = some (some a) → ∃ v, σ[i]? = some (some v) ∧ AvR C ι n H a v
section
variable {C : Cz} {ι ι' : Nat → Addr} {h h' : PA.Heap} {n n' : Nat} {H H' : Hp} {ρ : PA.Env} {σ : L2.St}
theorem EnR.ext (q : EnR C ι h.length H ρ σ) (r : Rep C ι h H) (e : Ext ι h.length H ι' n' H') : EnR C ι' n' H' ρ σ :=
  ⟨q.1, fun i a hi => let ⟨v, e1, e2⟩ := q.2 i a hi; ⟨v, e1, r.av e e2⟩⟩
theorem EnR.set (q : EnR C ι n H ρ σ) {a : AV} {v : V} (r : AvR C ι n H a v) (i : Nat) : EnR C ι n H (ρ.set i (some a)) (σ.set i (some v)) := by
  refine ⟨by simp [q.1], fun j b hj => ?_⟩
  by_cases z : i = j
  · subst z
    have hl : i < ρ.length := by
      have := (List.getElem?_eq_some_iff.mp hj).1
      simpa using this
    rw [List.getElem?_set_self hl] at hj
    cases hj
    exact ⟨v, by rw [List.getElem?_set_self (by rw [← q.1]; exact hl)], r⟩
  · rw [List.getElem?_set_ne z] at hj
    rw [List.getElem?_set_ne z]
    exact q.2 j b hj
end

def tG {α β : Type} (C : Cz) (R : RR α β) (m : PA.Env → PA.Heap → Res α) (W : WX) : L2.St → Hp → (β → Hp → Prop) → Prop := fun σ H Q =>
  ∃ ι h ρ, Rep C ι h H ∧ EnR C ι h.length H ρ σ ∧ GPost C R ι h H Q (fun c d H' => W c d σ H') (m ρ h)
abbrev tE (C : Cz) (m : EE) (W : WX) : TE := tG C (AvR C) m W
abbrev tL (C : Cz) (m : LL) (W : WX) : TA := tG C (AvRs C) m W
abbrev tT (C : Cz) (m : BB) (W : WX) : TT := tG C rB m W

def RE (C : Cz) (X : Cx) (e : Expr) (m : EE) : Prop := ∀ W, Takes X W → PE X e (tE C m W)
def RL (C : Cz) (X : Cx) (es : List Expr) (m : LL) : Prop := ∀ W, Takes X W → PA X es (tL C m W)
def RT (C : Cz) (X : Cx) (e : Expr) (m : BB) : Prop := ∀ W, Takes X W → PT X e (tT C m W)
def RW (C : Cz) (X : Cx) (e : Expr) (m : BB) : Prop := ∀ W, Takes X W → PW X e (tT C m W)

theorem PE_imp {X : Cx} {e : Expr} {t t' : TE} (p : PE X e t) (k : ∀ σ H Q, t' σ H Q → t σ H Q) : PE X e t' := ⟨fun pins s σ H Q I q => p.run pins s σ H Q I (k σ H Q q)⟩
theorem PT_imp {X : Cx} {e : Expr} {t t' : TT} (p : PT X e t) (k : ∀ σ H Q, t' σ H Q → t σ H Q) : PT X e t' := ⟨fun pins s σ H Q I q => p.run pins s σ H Q I (k σ H Q q)⟩
theorem PW_imp {X : Cx} {e : Expr} {t t' : TT} (p : PW X e t) (k : ∀ σ H Q, t' σ H Q → t σ H Q) : PW X e t' := ⟨fun whole pins s σ H Q I q => p.run whole pins s σ H Q I (k σ H Q q)⟩
theorem PA_imp {X : Cx} {e : List Expr} {t t' : TA} (p : PA X e t) (k : ∀ σ H Q, t' σ H Q → t σ H Q) : PA X e t' := ⟨fun pos pins s σ H Q I q => p.run pos pins s σ H Q I (k σ H Q q)⟩
theorem PS_imp {X : Cx} {e : Stmt} {t t' : TS} (p : PS X e t) (k : ∀ D σ H, t' D σ H → t D σ H) : PS X e t' := ⟨fun pins s σ H D I q => p.run pins s σ H D I (k D σ H q)⟩
theorem PSs_imp {X : Cx} {e : List Stmt} {t t' : TS} (p : PSs X e t) (k : ∀ D σ H, t' D σ H → t D σ H) : PSs X e t' := ⟨fun pins s σ H D I q => p.run pins s σ H D I (k D σ H q)⟩

section
variable {C : Cz} {X : Cx}
/-! ### names, constants -/
theorem re_var (i : Nat) {x : Str} {pos : Pos} (hN : X.N[i]? = some x := by rfl) (hv : Vis X.env.scope x := by first | exact Or.inl rfl | exact Or.inr (Or.inl rfl) | exact Or.inr (Or.inr rfl)) (hd : (x == ("__debug__" : Str)) = false := by decide)
    (hcd : (x == ("__classdict__" : Str)) = false := by decide) : RE C X (.Name x pos) (eVar i) := fun W tk => by
  refine PE_imp (pe_var hN hv hd hcd) fun σ H Q ⟨ι, h, ρ, r, en, p⟩ => ?_
  unfold eVar at p
  cases e : ρ[i]? with
  | none => rw [e] at p; exact p.elim
  | some o =>
    cases o with
    | none => rw [e] at p; exact p.elim
    | some a =>
      rw [e] at p
      obtain ⟨v, e1, e2⟩ := en.2 i a e
      exact ⟨v, e1, p ι H v Ext.refl r e2⟩
theorem re_c {e : Expr} {a : AV} {v : V} (p : PE X e (tC v)) (k : ∀ ι n H, AvR C ι n H a v) : RE C X e (eC a) := fun W tk =>
  PE_imp p fun σ H Q ⟨ι, h, ρ, r, en, q⟩ => q ι H v Ext.refl r (k _ _ _)
theorem re_int {i : Int} {j pos} : RE C X (.Constant (.int i) j pos) (eC (.int i)) := re_c pe_int fun _ _ _ => .int i
theorem re_bl {b : Bool} {j pos} : RE C X (.Constant (.bool b) j pos) (eC (.bl b)) := re_c pe_bl fun _ _ _ => .bl b
theorem re_non {j pos} : RE C X (.Constant .none j pos) (eC .non) := re_c pe_non fun _ _ _ => .non
theorem re_str {x : Str} {j pos} : RE C X (.Constant (.str x) j pos) (eC (.str x)) := re_c pe_str fun _ _ _ => .str x

/-! ### argument lists, displays -/
theorem rl_nil : RL C X [] lNil := fun W tk => PA_imp pa_nil fun σ H Q ⟨ι, h, ρ, r, en, p⟩ => p ι H [] Ext.refl r .nil
theorem rl_cons {e : Expr} {es : List Expr} {m : EE} {l : LL} (he : RE C X e m) (hl : RL C X es l) (hs : starEach (e :: es) X.env = (false, eval e X.env) :: starEach es X.env := by rfl) : RL C X (e :: es) (lCons m l) := fun W tk =>
  PA_imp (pa_cons (he W tk) (hl W tk) hs) fun σ H Q ⟨ι, h, ρ, r, en, p⟩ =>
    ⟨ι, h, ρ, r, en, (GPost.bnd (R := AvR C) p).mono fun x H1 ⟨ι1, h1, a, r1, e1, x1, p1⟩ =>
      ⟨ι1, h1, ρ, r1, en.ext r e1, (GPost.bnd (R := AvRs C) p1).mono fun ys H2 ⟨ι2, h2, as, r2, e2, x2, p2⟩ =>
        p2 ι2 H2 (x :: ys) Ext.refl r2 (.cons (r1.av e2 x1) x2)⟩⟩
theorem re_tup {es : List Expr} {l : LL} {c pos} (hl : RL C X es l) : RE C X (.Tuple es c pos) (eTup l) := fun W tk =>
  PE_imp (pe_tup (hl W tk)) fun σ H Q ⟨ι, h, ρ, r, en, p⟩ => ⟨ι, h, ρ, r, en, (GPost.bnd (R := AvRs C) p).mono fun xs H1 ⟨ι1, h1, as, r1, e1, x1, p1⟩ => by
    by_cases z : as.length ≤ szl
    · rw [if_pos z] at p1
      refine ⟨by rw [← x1.length]; exact z, fun q hq => ?_⟩
      exact p1 ι1 _ (.ref q) (Ext.laid r1 hq) (r1.laid hq) (.tup (SqT.of upd_same) (r1.avs (Ext.laid r1 hq) x1))
    · rw [if_neg z] at p1; exact p1.elim⟩
theorem re_lst {es : List Expr} {l : LL} {pos} (hl : RL C X es l) : RE C X (.List es pos) (eLst l) := fun W tk =>
  PE_imp (pe_lst (hl W tk)) fun σ H Q ⟨ι, h, ρ, r, en, p⟩ => ⟨ι, h, ρ, r, en, (GPost.bnd (R := AvRs C) p).mono fun xs H1 ⟨ι1, h1, as, r1, e1, x1, p1⟩ => by
    by_cases z : as.length ≤ szl
    · rw [if_pos z] at p1
      refine ⟨by rw [← x1.length]; exact z, fun q hq => ?_⟩
      have e2 := Ext.grow (o := .lst xs) r1 hq
      have key := p1 (put1 ι1 h1.length q) _ (.ref q) (by rw [List.length_append]; exact e2) (r1.grow (ao := .lst as) hq ⟨xs, upd_same, r1.avs e2 x1⟩) (by
        have t : AvR C (put1 ι1 h1.length q) (h1 ++ [AO.lst as]).length (upd H1 q (.lst xs)) (.loc h1.length) (.ref (put1 ι1 h1.length q h1.length)) := .loc (by simp)
        rw [put1_same] at t
        exact t)
      exact key
    · rw [if_neg z] at p1; exact p1.elim⟩
/-- a sequence of ours -/
theorem seq_of {ι : Nat → Addr} {h : PA.Heap} {H : Hp} {a : AV} {v : V} {xs : List AV} (r : Rep C ι h H) (x : AvR C ι h.length H a v) (e : seqOf h a = some xs) :
    ∃ q vs, v = .ref q ∧ (SqT C.K H q vs ∨ SqL C.K H q vs) ∧ AvRs C ι h.length H xs vs := by
  cases x with
  | non => simp [seqOf] at e
  | bl b => simp [seqOf] at e
  | int i => simp [seqOf] at e
  | str i => simp [seqOf] at e
  | gl i => simp [seqOf] at e
  | ty i => simp [seqOf] at e
  | tup t q => simp [seqOf] at e; subst e; exact ⟨_, _, rfl, .inl t, q⟩
  | loc hl =>
    rename_i l
    unfold seqOf at e
    dsimp only at e
    cases z : h[l]? with
    | none => rw [z] at e; cases e
    | some o =>
      rw [z] at e
      cases o with
      | lst ys => cases e; obtain ⟨vs, e1, e2⟩ := r.at_ l _ z; exact ⟨_, vs, rfl, .inr (SqL.of e1), e2⟩
      | dct ys => cases e
      | lck ys => cases e
      | ins c fs => cases e
theorem rl_star {e : Expr} {es : List Expr} {m : EE} {l : LL} {p : Pos} (hK : X.K = C.K) (he : RE C X e m) (hl : RL C X es l) (hs : starEach (.Starred e p :: es) X.env = (true, eval e X.env) :: starEach es X.env := by rfl) : RL C X (.Starred e p :: es) (lStar m l) := fun W tk =>
  PA_imp (StX.pa_star (he W tk) (hl W tk) hs) fun σ H Q ⟨ι, h, ρ, r, en, p⟩ =>
    ⟨ι, h, ρ, r, en, (GPost.bnd (R := AvR C) p).mono fun x H1 ⟨ι1, h1, a, r1, e1, x1, p1⟩ => by
      cases z : seqOf h1 a with
      | none => rw [z] at p1; exact p1.elim
      | some xs =>
        rw [z] at p1
        obtain ⟨q, vs, rfl, sq, av⟩ := seq_of r1 x1 z
        rw [hK]
        exact ⟨q, vs, rfl, sq, ι1, h1, ρ, r1, en.ext r e1, (GPost.bnd (R := AvRs C) p1).mono fun ys H2 ⟨ι2, h2, as, r2, e2, x2, p2⟩ =>
          p2 ι2 H2 (vs ++ ys) Ext.refl r2 ((r1.avs e2 av).append x2)⟩⟩

/-! ### operators -/
def rA (C : Cz) (o : O2) : R2 := fun x y H Q => ∃ ι h a b W, Rep C ι h H ∧ AvR C ι h.length H a x ∧ AvR C ι h.length H b y ∧ GPost C (AvR C) ι h H Q W (o a b h)
def OpA (C : Cz) (X : Cx) (f : Value → Value → Sem Value) (o : O2) : Prop := OpR X f (rA C o)
theorem bin_imp {o : O2} {ma mb : EE} {W : WX} {σ : L2.St} {H : Hp} {Q : VK} (q : tE C (eBin o ma mb) W σ H Q) : tOp (rA C o) (tE C ma W) (tE C mb W) σ H Q := by
  obtain ⟨ι, h, ρ, r, en, p⟩ := q
  exact ⟨ι, h, ρ, r, en, (GPost.bnd (R := AvR C) p).mono fun x H1 ⟨ι1, h1, a, r1, e1, x1, p1⟩ =>
    ⟨ι1, h1, ρ, r1, en.ext r e1, (GPost.bnd (R := AvR C) p1).mono fun y H2 ⟨ι2, h2, b, r2, e2, x2, p2⟩ => ⟨ι2, h2, a, b, _, r2, r1.av e2 x1, x2, p2⟩⟩⟩
theorem re_bin {op : Operator} {o : O2} {a b : Expr} {ma mb : EE} {pos : Pos} (ho : OpA C X (binaryOp op) o) (ha : RE C X a ma) (hb : RE C X b mb) : RE C X (.BinOp a op b pos) (eBin o ma mb) := fun W tk =>
  PE_imp (pe_op ho (ha W tk) (hb W tk)) fun σ H Q q => bin_imp q
theorem re_cmp {op : CmpOp} {o : O2} {a b : Expr} {ma mb : EE} {pos : Pos} (ho : OpA C X (compareOp op) o) (ha : RE C X a ma) (hb : RE C X b mb) (hm : behindInMarks op b = false := by first | exact nomark _ | with_unfolding_all rfl) : RE C X (.Compare a [op] [b] pos) (eBin o ma mb) := fun W tk =>
  PE_imp (pe_cmpR ho (ha W tk) (hb W tk) hm) fun σ H Q q => bin_imp q
theorem tB_imp {m : EE} {W : WX} {σ : L2.St} {H : Hp} {Q : Bool → Hp → Prop} (q : tT C (tB m) W σ H Q) : tE C m W σ H fun x H1 => ∃ k, x = .bl k ∧ Q k H1 := by
  obtain ⟨ι, h, ρ, r, en, p⟩ := q
  exact ⟨ι, h, ρ, r, en, (GPost.bnd (R := AvR C) p).mono fun x H1 ⟨ι1, h1, a, r1, e1, x1, p1⟩ => by
    cases x1 with
    | bl b => exact ⟨b, rfl, p1 ι1 H1 b Ext.refl r1 rfl⟩
    | _ => exact p1.elim⟩
theorem rt_cmp {op : CmpOp} {o : O2} {a b : Expr} {ma mb : EE} {pos : Pos} (ho : OpA C X (compareOp op) o) (ha : RE C X a ma) (hb : RE C X b mb) (hm : behindInMarks op b = false := by first | exact nomark _ | with_unfolding_all rfl) : RT C X (.Compare a [op] [b] pos) (tB (eBin o ma mb)) := fun W tk =>
  PT_imp (pt_cmpR ho (ha W tk) (hb W tk) hm) fun σ H Q q => bin_imp (tB_imp q)
theorem rt_val {e : Expr} {m : EE} (h : RE C X e m) (he : ∀ whole, isTrue e X.env whole = (do let v ← whole; standAt e.pos; holding [v] (truthy v)) := by intro _; rfl) : RT C X e (tB m) := fun W tk =>
  PT_imp (pt_val (h W tk) he) fun σ H Q q => tB_imp q
theorem rt_not {a : Expr} {m : BB} {pos : Pos} (ha : RT C X a m) : RT C X (.UnaryOp .Not a pos) (tNot m) := fun W tk =>
  PT_imp (pt_not (ha W tk)) fun σ H Q ⟨ι, h, ρ, r, en, p⟩ => ⟨ι, h, ρ, r, en, (GPost.bnd (R := rB) p).mono fun x H1 ⟨ι1, h1, a, r1, e1, x1, p1⟩ => by
    cases x1
    exact p1 ι1 H1 _ Ext.refl r1 rfl⟩
theorem rw_and1 {a : Expr} {m : BB} {pos : Pos} (ha : RT C X a m) : RW C X (.BoolOp .And [a] pos) m := fun W tk => pw_and1 (ha W tk)
theorem rw_or1 {a : Expr} {m : BB} {pos : Pos} (ha : RT C X a m) : RW C X (.BoolOp .Or [a] pos) m := fun W tk => pw_or1 (ha W tk)
theorem rw_and {a b : Expr} {rest : List Expr} {m u : BB} {pos : Pos} (ha : RT C X a m) (hb : RW C X (.BoolOp .And (b :: rest) pos) u) : RW C X (.BoolOp .And (a :: b :: rest) pos) (tAnd m u) := fun W tk =>
  PW_imp (pw_and (ha W tk) (hb W tk)) fun σ H Q ⟨ι, h, ρ, r, en, p⟩ => ⟨ι, h, ρ, r, en, (GPost.bnd (R := rB) p).mono fun x H1 ⟨ι1, h1, a, r1, e1, x1, p1⟩ => by
    cases x1
    by_cases z : x = true
    · rw [if_pos z] at p1 ⊢; exact ⟨ι1, h1, ρ, r1, en.ext r e1, p1⟩
    · rw [if_neg z] at p1 ⊢; exact p1 ι1 H1 _ Ext.refl r1 rfl⟩
theorem rw_or {a b : Expr} {rest : List Expr} {m u : BB} {pos : Pos} (ha : RT C X a m) (hb : RW C X (.BoolOp .Or (b :: rest) pos) u) : RW C X (.BoolOp .Or (a :: b :: rest) pos) (tOr m u) := fun W tk =>
  PW_imp (pw_or (ha W tk) (hb W tk)) fun σ H Q ⟨ι, h, ρ, r, en, p⟩ => ⟨ι, h, ρ, r, en, (GPost.bnd (R := rB) p).mono fun x H1 ⟨ι1, h1, a, r1, e1, x1, p1⟩ => by
    cases x1
    by_cases z : x = true
    · rw [if_pos z] at p1 ⊢; exact p1 ι1 H1 _ Ext.refl r1 rfl
    · rw [if_neg z] at p1 ⊢; exact ⟨ι1, h1, ρ, r1, en.ext r e1, p1⟩⟩
theorem rw_pt {e : Expr} {m : BB} (h : RW C X e m) : RT C X e m := fun W tk => (h W tk).pt
theorem re_one {op} {a : Expr} {m : EE} {pos : Pos} (h : RE C X a m) : RE C X (.BoolOp op [a] pos) m := fun W tk => pe_one (h W tk)
theorem re_not {a : Expr} {m : EE} {pos : Pos} (ha : RE C X a m) : RE C X (.UnaryOp .Not a pos) (eNot m) := fun W tk =>
  PE_imp (pe_not (ha W tk)) fun σ H Q ⟨ι, h, ρ, r, en, p⟩ => ⟨ι, h, ρ, r, en, (GPost.bnd (R := AvR C) p).mono fun x H1 ⟨ι1, h1, a, r1, e1, x1, p1⟩ => by
    cases x1 with
    | bl b => exact ⟨b, rfl, p1 ι1 H1 _ Ext.refl r1 (.bl _)⟩
    | _ => exact p1.elim⟩
theorem re_and {a b : Expr} {rest : List Expr} {m u : EE} {pos : Pos} (ha : RE C X a m) (hb : RE C X (.BoolOp .And (b :: rest) pos) u) : RE C X (.BoolOp .And (a :: b :: rest) pos) (eAnd m u) := fun W tk =>
  PE_imp (pe_and (ha W tk) (hb W tk)) fun σ H Q ⟨ι, h, ρ, r, en, p⟩ => ⟨ι, h, ρ, r, en, (GPost.bnd (R := AvR C) p).mono fun x H1 ⟨ι1, h1, a, r1, e1, x1, p1⟩ => by
    cases x1 with
    | bl b =>
      cases b with
      | true => exact ⟨true, rfl, by rw [if_pos rfl]; exact ⟨ι1, h1, ρ, r1, en.ext r e1, p1⟩⟩
      | false => exact ⟨false, rfl, by rw [if_neg Bool.false_ne_true]; exact p1 ι1 H1 _ Ext.refl r1 (.bl _)⟩
    | _ => exact p1.elim⟩
theorem re_or {a b : Expr} {rest : List Expr} {m u : EE} {pos : Pos} (ha : RE C X a m) (hb : RE C X (.BoolOp .Or (b :: rest) pos) u) : RE C X (.BoolOp .Or (a :: b :: rest) pos) (eOr m u) := fun W tk =>
  PE_imp (pe_or (ha W tk) (hb W tk)) fun σ H Q ⟨ι, h, ρ, r, en, p⟩ => ⟨ι, h, ρ, r, en, (GPost.bnd (R := AvR C) p).mono fun x H1 ⟨ι1, h1, a, r1, e1, x1, p1⟩ => by
    cases x1 with
    | bl b =>
      cases b with
      | true => exact ⟨true, rfl, by rw [if_pos rfl]; exact p1 ι1 H1 _ Ext.refl r1 (.bl _)⟩
      | false => exact ⟨false, rfl, by rw [if_neg Bool.false_ne_true]; exact ⟨ι1, h1, ρ, r1, en.ext r e1, p1⟩⟩
    | _ => exact p1.elim⟩
theorem re_if {c a b : Expr} {t : BB} {m u : EE} {pos : Pos} (hc : RT C X c t) (ha : RE C X a m) (hb : RE C X b u) : RE C X (.IfExp c a b pos) (eIf t m u) := fun W tk =>
  PE_imp (pe_ifExp (hc W tk) (ha W tk) (hb W tk)) fun σ H Q ⟨ι, h, ρ, r, en, p⟩ => ⟨ι, h, ρ, r, en, (GPost.bnd (R := rB) p).mono fun x H1 ⟨ι1, h1, a, r1, e1, x1, p1⟩ => by
    cases x1
    by_cases z : x = true
    · rw [if_pos z] at p1 ⊢; exact ⟨ι1, h1, ρ, r1, en.ext r e1, p1⟩
    · rw [if_neg z] at p1 ⊢; exact ⟨ι1, h1, ρ, r1, en.ext r e1, p1⟩⟩
theorem chain_imp {o o' : O2} {ma mb mc : EE} {W : WX} {σ : L2.St} {H : Hp} {Q : VK} (q : tE C (eChain o o' ma mb mc) W σ H Q) : tChain (rA C o) (rA C o') (tE C ma W) (tE C mb W) (tE C mc W) σ H Q := by
  obtain ⟨ι, h, ρ, r, en, p⟩ := q
  refine ⟨ι, h, ρ, r, en, (GPost.bnd (R := AvR C) p).mono fun x H1 ⟨ι1, h1, a, r1, e1, x1, p1⟩ => ?_⟩
  refine ⟨ι1, h1, ρ, r1, en.ext r e1, (GPost.bnd (R := AvR C) p1).mono fun y H2 ⟨ι2, h2, b, r2, e2, x2, p2⟩ => ?_⟩
  refine ⟨ι2, h2, a, b, _, r2, r1.av e2 x1, x2, (GPost.bnd (R := AvR C) p2).mono fun z H3 ⟨ι3, h3, c, r3, e3, x3, p3⟩ => ?_⟩
  cases x3 with
  | bl k =>
    cases k with
    | true =>
      refine ⟨true, rfl, ?_⟩
      rw [if_pos rfl]
      exact ⟨ι3, h3, ρ, r3, (en.ext r (e1.trans (e2.trans e3))), (GPost.bnd (R := AvR C) p3).mono fun z H4 ⟨ι4, h4, d, r4, e4, x4, p4⟩ => ⟨ι4, h4, b, d, _, r4, r3.av e4 (r2.av e3 x2), x4, p4⟩⟩
    | false =>
      refine ⟨false, rfl, ?_⟩
      rw [if_neg Bool.false_ne_true]
      exact p3 ι3 H3 _ Ext.refl r3 (.bl _)
  | _ => exact p3.elim
theorem re_chain {op op' : CmpOp} {o o' : O2} {a b c : Expr} {ma mb mc : EE} {pos : Pos} (ho : OpA C X (compareOp op) o) (ho' : OpA C X (compareOp op') o') (ha : RE C X a ma) (hb : RE C X b mb) (hc : RE C X c mc)
    (hm : lastMarks [op, op'] [b, c] = false := by with_unfolding_all rfl) : RE C X (.Compare a [op, op'] [b, c] pos) (eChain o o' ma mb mc) := fun W tk =>
  PE_imp (pe_chain ho ho' (ha W tk) (hb W tk) (hc W tk) hm) fun σ H Q q => chain_imp q
end
end PL
set_option maxRecDepth 100000
set_option maxHeartbeats 2000000
/-! Lift3: operators, comparisons, subscripts, dicts' reads, fields. -/
namespace PL
open PySem PySem.Spec PyProof.Rows L2 PA
section
variable {C : Cz} {X : Cx}
theorem seq_str {a : AV} {s : Str} (e : a = .str s) {h : PA.Heap} : seqOf h a = none := by subst e; rfl
/-- a list of ours, at its place -/
theorem lst_at {ι : Nat → Addr} {h : PA.Heap} {H : Hp} {l : Nat} {xs : List AV} (r : Rep C ι h H) (e : h[l]? = some (.lst xs)) : ∃ vs, H (ι l) = some (.lst vs) ∧ AvRs C ι h.length H xs vs := r.at_ l _ e
theorem grow_lst {ι : Nat → Addr} {h : PA.Heap} {H : Hp} {Q : VK} {W : XK} {xs : List AV} {vs : List V} (r : Rep C ι h H) (x : AvRs C ι h.length H xs vs) (p : GPost C (AvR C) ι h H Q W (.ok (.loc h.length) (h ++ [.lst xs]))) {q : Addr} (hq : H q = none) : Q (.ref q) (upd H q (.lst vs)) := by
  have e2 := Ext.grow (o := .lst vs) r hq
  refine p (put1 ι h.length q) _ (.ref q) (by rw [List.length_append]; exact e2) (r.grow (ao := .lst xs) hq ⟨vs, upd_same, r.avs e2 x⟩) ?_
  have t : AvR C (put1 ι h.length q) (h ++ [AO.lst xs]).length (upd H q (.lst vs)) (.loc h.length) (.ref (put1 ι h.length q h.length)) := .loc (by simp)
  rw [put1_same] at t
  exact t
theorem laid_tup {ι : Nat → Addr} {h : PA.Heap} {H : Hp} {Q : VK} {W : XK} {xs : List AV} {vs : List V} (r : Rep C ι h H) (x : AvRs C ι h.length H xs vs) (p : GPost C (AvR C) ι h H Q W (.ok (.tup xs) h)) {q : Addr} (hq : H q = none) : Q (.ref q) (upd H q (.tup vs)) :=
  p ι _ (.ref q) (Ext.laid r hq) (r.laid hq) (.tup (SqT.of upd_same) (r.avs (Ext.laid r hq) x))
theorem op_subA : OpA C X (binaryOp .Sub) oSub := by
  intro pins s σ H x y v u Q I rx ry h
  obtain ⟨ι, h, a, b, W, r, xa, xb, p⟩ := h
  cases xa with
  | int i =>
    cases xb with
    | int j => exact op_sub pins s σ H _ _ v u Q I rx ry ⟨i, j, rfl, rfl, p ι H _ Ext.refl r (.int _)⟩
    | _ => exact p.elim
  | _ => exact p.elim
theorem op_modA : OpA C X (binaryOp .Mod) oMod := by
  intro pins s σ H x y v u Q I rx ry h
  obtain ⟨ι, h, a, b, W, r, xa, xb, p⟩ := h
  cases xa with
  | int i =>
    cases xb with
    | int j =>
      unfold oMod at p
      dsimp only at p
      by_cases z : 0 < j
      · rw [if_pos z] at p
        exact op_mod pins s σ H _ _ v u Q I rx ry ⟨i, j, rfl, rfl, z, p ι H _ Ext.refl r (.int _)⟩
      · rw [if_neg z] at p; exact p.elim
    | _ => exact p.elim
  | _ => exact p.elim
theorem op_divA : OpA C X (binaryOp .FloorDiv) oDiv := by
  intro pins s σ H x y v u Q I rx ry h
  obtain ⟨ι, h, a, b, W, r, xa, xb, p⟩ := h
  cases xa with
  | int i =>
    cases xb with
    | int j =>
      unfold oDiv at p
      dsimp only at p
      by_cases z : 0 < j ∧ j < 1073741824
      · rw [if_pos z] at p
        exact op_fdiv pins s σ H _ _ v u Q I rx ry ⟨i, j, rfl, rfl, z, p ι H _ Ext.refl r (.int _)⟩
      · rw [if_neg z] at p; exact p.elim
    | _ => exact p.elim
  | _ => exact p.elim
theorem op_powA : OpA C X (binaryOp .Pow) oPow := by
  intro pins s σ H x y v u Q I rx ry h
  obtain ⟨ι, h, a, b, W, r, xa, xb, p⟩ := h
  cases xa with
  | int i =>
    cases xb with
    | int j =>
      unfold oPow at p
      dsimp only at p
      by_cases z : 0 ≤ j ∧ j ≤ 1000 ∧ -1000 ≤ i ∧ i ≤ 1000
      · rw [if_pos z] at p
        exact op_pow pins s σ H _ _ v u Q I rx ry ⟨i, j, rfl, rfl, ⟨z.1, by omega, by omega⟩, p ι H _ Ext.refl r (.int _)⟩
      · rw [if_neg z] at p; exact p.elim
    | _ => exact p.elim
  | _ => exact p.elim
theorem op_addA (hK : X.K = C.K) : OpA C X (binaryOp .Add) oAdd := by
  intro pins s σ H x y v u Q I rx ry h
  obtain ⟨ι, h, a, b, W, r, xa, xb, p⟩ := h
  cases xa with
  | int i =>
    cases xb with
    | int j => exact op_add pins s σ H _ _ v u Q I rx ry ⟨i, j, rfl, rfl, p ι H _ Ext.refl r (.int _)⟩
    | _ => exact p.elim
  | str i =>
    cases xb with
    | str j =>
      unfold oAdd at p
      dsimp only at p
      by_cases z : i.length + j.length ≤ szl
      · rw [if_pos z] at p
        exact op_add_str pins s σ H _ _ v u Q I rx ry ⟨i, j, rfl, rfl, z, p ι H _ Ext.refl r (.str _)⟩
      · rw [if_neg z] at p; exact p.elim
    | _ => exact p.elim
  | tup t xs =>
    rename_i a1 ys vs
    cases xb with
    | tup t' xs' =>
      rename_i a2 ys' vs'
      unfold oAdd at p
      dsimp only at p
      by_cases z : ys.length + ys'.length ≤ szl
      · rw [if_pos z] at p
        refine op_catA pins s σ H _ _ v u Q I rx ry ⟨a1, a2, vs, vs', rfl, rfl, by rw [hK]; exact t, by rw [hK]; exact t', by rw [← xs.length, ← xs'.length]; exact z, fun e => ?_, fun e1 e2 => ?_, fun e1 e2 q hq => ?_⟩
        · have z1 : ys = [] := by
            have := xs.length
            rw [e] at this
            exact List.eq_nil_of_length_eq_zero this
          subst z1
          exact p ι H _ Ext.refl r (.tup t' xs')
        · have z1 : ys' = [] := by
            have := xs'.length
            rw [e2] at this
            exact List.eq_nil_of_length_eq_zero this
          subst z1
          rw [List.append_nil] at p
          exact p ι H _ Ext.refl r (.tup t xs)
        · exact laid_tup r (xs.append xs') p hq
      · rw [if_neg z] at p; exact p.elim
    | _ => exact p.elim
  | loc hl =>
    rename_i l
    cases xb with
    | loc hl' =>
      rename_i l'
      unfold oAdd at p
      dsimp only at p
      cases e1 : h[l]? with
      | none => rw [e1] at p; exact p.elim
      | some o1 =>
        cases o1 with
        | lst ys =>
          cases e2 : h[l']? with
          | none => rw [e1, e2] at p; exact p.elim
          | some o2 =>
            cases o2 with
            | lst ys' =>
              rw [e1, e2] at p
              dsimp only at p
              by_cases z : ys.length + ys'.length ≤ szl
              · rw [if_pos z] at p
                obtain ⟨vs, h1, x1⟩ := lst_at r e1
                obtain ⟨vs', h2, x2⟩ := lst_at r e2
                exact op_cat pins s σ H _ _ v u Q I rx ry ⟨_, _, vs, vs', rfl, rfl, h1, h2, by rw [← x1.length, ← x2.length]; exact z, fun q hq => grow_lst r (x1.append x2) p hq⟩
              · rw [if_neg z] at p; exact p.elim
            | _ => rw [e1, e2] at p; exact p.elim
        | _ => rw [e1] at p; exact p.elim
    | _ => exact p.elim
  | _ => exact p.elim

/-! ### comparisons -/
theorem cmpA {op : CmpOp} {f : Int → Int → Bool} (ho : OpR X (compareOp op) (rI0 fun i j => .bl (f i j))) : OpA C X (compareOp op) (oCmpI f) := by
  intro pins s σ H x y v u Q I rx ry h
  obtain ⟨ι, h, a, b, W, r, xa, xb, p⟩ := h
  cases xa with
  | int i =>
    cases xb with
    | int j => exact ho pins s σ H _ _ v u Q I rx ry ⟨i, j, rfl, rfl, p ι H _ Ext.refl r (.bl _)⟩
    | _ => exact p.elim
  | _ => exact p.elim
theorem op_ltA : OpA C X (compareOp .Lt) oLt := cmpA op_lt
theorem op_leA : OpA C X (compareOp .LtE) oLe := cmpA op_le
theorem op_gtA : OpA C X (compareOp .Gt) oGt := cmpA op_gt
theorem op_geA : OpA C X (compareOp .GtE) oGe := cmpA op_ge
theorem isnon_of {ι : Nat → Addr} {n : Nat} {H : Hp} {a : AV} {x : V} (xa : AvR C ι n H a x) : decide (x = V.non) = a.isNon := by
  cases xa <;> rfl
theorem op_isNA : OpA C X (compareOp .Is) oIsN := by
  intro pins s σ H x y v u Q I rx ry h
  obtain ⟨ι, h, a, b, W, r, xa, xb, p⟩ := h
  cases xb with
  | non => exact op_isN pins s σ H _ _ v u Q I rx ry ⟨rfl, by rw [isnon_of xa]; exact p ι H _ Ext.refl r (.bl _)⟩
  | _ => exact p.elim
theorem op_notNA : OpA C X (compareOp .IsNot) oNotN := by
  intro pins s σ H x y v u Q I rx ry h
  obtain ⟨ι, h, a, b, W, r, xa, xb, p⟩ := h
  cases xb with
  | non => exact op_notN pins s σ H _ _ v u Q I rx ry ⟨rfl, by rw [isnon_of xa]; exact p ι H _ Ext.refl r (.bl _)⟩
  | _ => exact p.elim
theorem datsW_dp {ι : Nat → Addr} {n : Nat} {H : Hp} {f : AV → Option PyData} (k : ∀ {a : AV} {x : V} {d : PyData}, AvR C ι n H a x → f a = some d → Dp C.K H x d) : ∀ {as : List AV} {xs : List V} {ds : List PyData}, AvRs C ι n H as xs → datsW f as = some ds → DpAll C.K H xs ds
  | _, _, d, .nil, e => by unfold datsW at e; cases e; exact .nil
  | _, _, d, .cons (x := x) (xs := xs) a b, e => by
    unfold datsW at e
    cases e1 : f x with
    | none => simp only [e1] at e; cases e
    | some d1 =>
      cases e2 : datsW f xs with
      | none => simp only [e1, e2] at e; cases e
      | some ds => simp only [e1, e2] at e; cases e; exact .cons (k a e1) (datsW_dp k b e2)
theorem dat_dp {ι : Nat → Addr} {h : PA.Heap} {H : Hp} (r : Rep C ι h H) : ∀ (n : Nat) {a : AV} {x : V} {d : PyData}, AvR C ι h.length H a x → datH h n a = some d → Dp C.K H x d
  | 0, _, _, d, .non, e => by unfold datH at e; cases e; exact .non
  | 0, _, _, d, .bl b, e => by unfold datH at e; cases e; exact .bl b
  | 0, _, _, d, .int b, e => by unfold datH at e; cases e; exact .int b
  | 0, _, _, d, .str b, e => by unfold datH at e; cases e; exact .str b
  | n + 1, _, _, d, .non, e => by unfold datH at e; cases e; exact .non
  | n + 1, _, _, d, .bl b, e => by unfold datH at e; cases e; exact .bl b
  | n + 1, _, _, d, .int b, e => by unfold datH at e; cases e; exact .int b
  | n + 1, _, _, d, .str b, e => by unfold datH at e; cases e; exact .str b
  | 0, _, _, d, .tup t q, e => by unfold datH at e; cases e
  | 0, _, _, d, .loc hl, e => by unfold datH at e; cases e
  | n + 1, _, _, d, .tup (xs := xs) t q, e => by
    unfold datH at e
    cases e1 : datsW (datH h n) xs with
    | none => rw [e1] at e; cases e
    | some ds => rw [e1] at e; cases e; exact .tup t (datsW_dp (fun x y => dat_dp r n x y) q e1)
  | n + 1, _, _, d, .loc (l := l) hl, e => by
    unfold datH at e
    cases e0 : h[l]? with
    | none => simp only [e0] at e; cases e
    | some o =>
      cases o with
      | lst xs =>
        simp only [e0] at e
        cases e1 : datsW (datH h n) xs with
        | none => rw [e1] at e; cases e
        | some ds =>
          rw [e1] at e
          cases e
          obtain ⟨vs, h1, x1⟩ := lst_at r e0
          exact .lst (SqL.of h1) (datsW_dp (fun x y => dat_dp r n x y) x1 e1)
      | dct xs => simp only [e0] at e; cases e
      | lck xs => simp only [e0] at e; cases e
      | ins c fs => simp only [e0] at e; cases e
  | n, _, _, d, .gl g, e => by cases n <;> (unfold datH at e; cases e)
  | n, _, _, d, .ty g, e => by cases n <;> (unfold datH at e; cases e)
theorem eqA_dp {ι : Nat → Addr} {h : PA.Heap} {H : Hp} {a b : AV} {x y : V} {k : Bool} (r : Rep C ι h H) (xa : AvR C ι h.length H a x) (xb : AvR C ι h.length H b y) (e : eqA h a b = some k) :
    ∃ d d', Dp C.K H x d ∧ Dp C.K H y d' ∧ SeqAt.shaped d = true ∧ SeqAt.shaped d' = true ∧ k = PyData.eqv d d' := by
  unfold eqA at e
  cases e1 : datH h 40 a with
  | none => simp only [e1] at e; cases e
  | some d =>
    cases e2 : datH h 40 b with
    | none => simp only [e1, e2] at e; cases e
    | some d' =>
      simp only [e1, e2] at e
      by_cases z : (SeqAt.shaped d && SeqAt.shaped d') = true
      · rw [if_pos z] at e
        cases e
        rw [Bool.and_eq_true] at z
        exact ⟨d, d', dat_dp r 40 xa e1, dat_dp r 40 xb e2, z.1, z.2, rfl⟩
      · rw [if_neg z] at e; cases e
theorem op_eqA (hK : X.K = C.K) (hu : X.A.units + 64 < cLine) : OpA C X (compareOp .Eq) oEq := by
  intro pins s σ H x y v u Q I rx ry h
  obtain ⟨ι, h, a, b, W, r, xa, xb, p⟩ := h
  unfold oEq at p
  cases e : eqA h a b with
  | none => rw [e] at p; exact p.elim
  | some k =>
    rw [e] at p
    obtain ⟨d, d', h1, h2, s1, s2, ek⟩ := eqA_dp r xa xb e
    exact op_eqD hu pins s σ H _ _ v u Q I rx ry ⟨d, d', by rw [hK]; exact h1, by rw [hK]; exact h2, s1, s2, by rw [← ek]; exact p ι H _ Ext.refl r (.bl _)⟩
theorem op_neA (hK : X.K = C.K) (hu : X.A.units + 64 < cLine) : OpA C X (compareOp .NotEq) oNe := by
  intro pins s σ H x y v u Q I rx ry h
  obtain ⟨ι, h, a, b, W, r, xa, xb, p⟩ := h
  unfold oNe at p
  cases e : eqA h a b with
  | none => rw [e] at p; exact p.elim
  | some k =>
    rw [e] at p
    obtain ⟨d, d', h1, h2, s1, s2, ek⟩ := eqA_dp r xa xb e
    exact op_neD hu pins s σ H _ _ v u Q I rx ry ⟨d, d', by rw [hK]; exact h1, by rw [hK]; exact h2, s1, s2, by rw [← ek]; exact p ι H _ Ext.refl r (.bl _)⟩

/-! ### subscripts, in -/
theorem ixN_eq (n : Nat) (i : Int) : PA.ixN n i = L2.ixN n i := rfl
theorem atI_av {ι : Nat → Addr} {n : Nat} {H : Hp} {xs : List AV} {vs : List V} (q : AvRs C ι n H xs vs) {i : Int} {a : AV} (e : PA.atI xs i = some a) : ∃ v, L2.atI vs i = some v ∧ AvR C ι n H a v := by
  unfold PA.atI at e
  unfold L2.atI
  rw [← q.length]
  cases z : PA.ixN xs.length i with
  | none => rw [z] at e; cases e
  | some j =>
    rw [z] at e
    obtain ⟨v, e1, e2⟩ := q.get (i := j) e
    refine ⟨v, ?_, e2⟩
    rw [← ixN_eq, z]
    exact e1
theorem ix_A (hK : X.K = C.K) : IxR X (rA C oIx) := by
  intro value slice pins s σ H x y v u Q I rx ry h hs
  obtain ⟨ι, h, a, b, W, r, xa, xb, p⟩ := h
  cases xb with
  | int i =>
    unfold oIx at p
    dsimp only at p
    cases e : seqOf h a with
    | none => rw [e] at p; exact p.elim
    | some xs =>
      rw [e] at p
      dsimp only at p
      cases e2 : PA.atI xs i with
      | none => rw [e2] at p; exact p.elim
      | some w =>
        rw [e2] at p
        obtain ⟨q, vs, rfl, sq, av⟩ := seq_of r xa e
        obtain ⟨z, h1, h2⟩ := atI_av av e2
        have fin := p ι H _ Ext.refl r h2
        rcases sq with sq | sq
        · exact ix_tup value slice pins s σ H _ _ v u Q I rx ry ⟨q, vs, i, z, rfl, rfl, by rw [hK]; exact sq, h1, fin⟩ hs
        · exact ix_list value slice pins s σ H _ _ v u Q I rx ry ⟨q, vs, i, z, rfl, rfl, by rw [hK]; exact sq, h1, fin⟩ hs
  | _ => exact p.elim
theorem re_ix {a b : Expr} {ma mb : EE} {pos : Pos} (hK : X.K = C.K) (ha : RE C X a ma) (hb : RE C X b mb) (hs : PlainIx b := by exact fun _ _ => rfl) : RE C X (.Subscript a b pos) (eBin oIx ma mb) := fun W tk =>
  PE_imp (pe_ix (ix_A hK) (ha W tk) (hb W tk) hs) fun σ H Q q => bin_imp q
theorem flat_of {ι : Nat → Addr} {n : Nat} {H : Hp} {a : AV} {x : V} (xa : AvR C ι n H a x) (f : flat a = true) : flatV x = true := by
  cases xa <;> first | rfl | cases f
theorem eqF_of {ι : Nat → Addr} {n : Nat} {H : Hp} {a b : AV} {x y : V} (xa : AvR C ι n H a x) (xb : AvR C ι n H b y) (f : flat a = true) (g : flat b = true) : eqF a b = eqV x y := by
  cases xa <;> first | (cases f; done) | (cases xb <;> first | rfl | (cases g; done))
theorem inF_of {ι : Nat → Addr} {n : Nat} {H : Hp} {a : AV} {x : V} {xs : List AV} {vs : List V} (xa : AvR C ι n H a x) (q : AvRs C ι n H xs vs) (f : flat a = true) (g : xs.all flat = true) : vs.all flatV = true ∧ inF a xs = inV x vs := by
  induction xs generalizing vs with
  | nil => cases q; exact ⟨rfl, rfl⟩
  | cons y ys ih =>
    cases q with
    | cons p q =>
      rw [List.all_cons, Bool.and_eq_true] at g
      obtain ⟨h1, h2⟩ := ih q g.2
      refine ⟨by rw [List.all_cons, Bool.and_eq_true]; exact ⟨flat_of p g.1, h1⟩, ?_⟩
      show (eqF y a || inF a ys) = (eqV _ x || inV x _)
      rw [h2, eqF_of p xa g.1 f]
theorem op_inA (hK : X.K = C.K) : OpA C X (compareOp .In) oIn := by
  intro pins s σ H x y v u Q I rx ry h
  obtain ⟨ι, h, a, b, W, r, xa, xb, p⟩ := h
  unfold oIn at p
  cases e : seqOf h b with
  | none => rw [e] at p; exact p.elim
  | some xs =>
    rw [e] at p
    dsimp only at p
    by_cases z : (flat a && xs.all flat) = true
    · rw [if_pos z] at p
      rw [Bool.and_eq_true] at z
      obtain ⟨q, vs, rfl, sq, av⟩ := seq_of r xb e
      obtain ⟨h1, h2⟩ := inF_of xa av z.1 z.2
      refine op_in_seq pins s σ H _ _ v u Q I rx ry ⟨q, vs, rfl, ?_, flat_of xa z.1, h1, ?_⟩
      · rw [hK]; exact sq.elim Or.inr Or.inl
      · rw [if_neg Bool.false_ne_true, ← h2]; exact p ι H _ Ext.refl r (.bl _)
    · rw [if_neg z] at p; exact p.elim
theorem op_notInA (hK : X.K = C.K) : OpA C X (compareOp .NotIn) oNotIn := by
  intro pins s σ H x y v u Q I rx ry h
  obtain ⟨ι, h, a, b, W, r, xa, xb, p⟩ := h
  unfold oNotIn at p
  cases e : seqOf h b with
  | none => rw [e] at p; exact p.elim
  | some xs =>
    rw [e] at p
    dsimp only at p
    by_cases z : (flat a && xs.all flat) = true
    · rw [if_pos z] at p
      rw [Bool.and_eq_true] at z
      obtain ⟨q, vs, rfl, sq, av⟩ := seq_of r xb e
      obtain ⟨h1, h2⟩ := inF_of xa av z.1 z.2
      refine op_notIn_seq pins s σ H _ _ v u Q I rx ry ⟨q, vs, rfl, ?_, flat_of xa z.1, h1, ?_⟩
      · rw [hK]; exact sq.elim Or.inr Or.inl
      · rw [if_pos rfl, ← h2]; exact p ι H _ Ext.refl r (.bl _)
    · rw [if_neg z] at p; exact p.elim
end
end PL
set_option maxRecDepth 100000
set_option maxHeartbeats 2000000
/-! Lift4: fields, statements, calls of defs, methods, properties, new instances. -/
namespace PL
open PySem PySem.Spec PyProof.Rows L2 PA

/-- a statement's ends -/
def SPost (C : Cz) (ι : Nat → Addr) (h : PA.Heap) (H : Hp) (D : Ends) (W : WX) : SR → Prop
  | .nx ρ' h' => ∀ ι' H' σ', Ext ι h.length H ι' h'.length H' → Rep C ι' h' H' → EnR C ι' h'.length H' ρ' σ' → D.nx σ' H'
  | .brk ρ' h' => ∀ ι' H' σ', Ext ι h.length H ι' h'.length H' → Rep C ι' h' H' → EnR C ι' h'.length H' ρ' σ' → D.bk σ' H'
  | .ct ρ' h' => ∀ ι' H' σ', Ext ι h.length H ι' h'.length H' → Rep C ι' h' H' → EnR C ι' h'.length H' ρ' σ' → D.ct σ' H'
  | .ret a h' => ∀ ι' H' v, Ext ι h.length H ι' h'.length H' → Rep C ι' h' H' → AvR C ι' h'.length H' a v → D.rt v H'
  | .exc e ρ' h' => ∀ ι' H' σ' cls d, Ext ι h.length H ι' h'.length H' → Rep C ι' h' H' → EnR C ι' h'.length H' ρ' σ' → ExR C ι' h'.length H' e cls d → W cls d σ' H'
  | .bad => False
def tS (C : Cz) (m : SS) (W : WX) : TS := fun D σ H => ∃ ι h ρ, Rep C ι h H ∧ EnR C ι h.length H ρ σ ∧ SPost C ι h H D W (m ρ h)
def RS (C : Cz) (X : Cx) (st : Stmt) (m : SS) : Prop := ∀ W, Takes X W → PS X st (tS C m W)
def RSs (C : Cz) (X : Cx) (st : List Stmt) (m : SS) : Prop := ∀ W, Takes X W → PSs X st (tS C m W)
section
variable {C : Cz} {ι ι' : Nat → Addr} {h h' : PA.Heap} {H H' : Hp} {D D' : Ends} {W : WX}
theorem SPost.shift {r : SR} (p : SPost C ι h H D W r) (e : Ext ι h.length H ι' h'.length H') : SPost C ι' h' H' D W r := by
  cases r with
  | nx ρ h1 => exact fun a b c e1 => p a b c (e.trans e1)
  | brk ρ h1 => exact fun a b c e1 => p a b c (e.trans e1)
  | ct ρ h1 => exact fun a b c e1 => p a b c (e.trans e1)
  | ret v h1 => exact fun a b c e1 => p a b c (e.trans e1)
  | exc e' ρ h1 => exact fun a b c d f e1 => p a b c d f (e.trans e1)
  | bad => exact p
/-- an expression ahead of a statement's rest -/
theorem SPost.bnd {α β : Type} {R : RR α β} {m : PA.Env → PA.Heap → Res α} {k : α → SS} {ρ : PA.Env} {σ : L2.St} (r : Rep C ι h H) (en : EnR C ι h.length H ρ σ) (p : SPost C ι h H D W (sBnd m k ρ h)) :
    GPost C R ι h H (fun b H1 => ∃ ι1 h1 a, Rep C ι1 h1 H1 ∧ Ext ι h.length H ι1 h1.length H1 ∧ R ι1 h1.length H1 a b ∧ SPost C ι1 h1 H1 D W (k a ρ h1)) (fun c d H' => W c d σ H') (m ρ h) := by
  unfold sBnd at p
  cases e : m ρ h with
  | ok a h1 =>
    rw [e] at p
    exact fun ι1 H1 b e1 rr x => ⟨ι1, h1, a, rr, e1, x, SPost.shift (h := h) (h' := h1) p e1⟩
  | exc e' h1 => rw [e] at p; exact fun ι1 H1 c d e1 rr x => p ι1 H1 σ c d e1 rr (en.ext r e1) x
  | bad => rw [e] at p; exact p
end
section
variable {C : Cz} {X : Cx}
theorem rs_nil : RSs C X [] sNil := fun W tk => PSs_imp pss_nil fun D σ H ⟨ι, h, ρ, r, en, p⟩ => p ι H σ Ext.refl r en
theorem seq_imp {m u : SS} {W : WX} {D : Ends} {σ : L2.St} {H : Hp} (q : tS C (sSeq m u) W D σ H) : tSeq (tS C m W) (tS C u W) D σ H := by
  obtain ⟨ι, h, ρ, r, en, p⟩ := q
  refine ⟨ι, h, ρ, r, en, ?_⟩
  unfold sSeq at p
  cases e : m ρ h with
  | nx ρ' h1 =>
    rw [e] at p
    exact fun ι1 H1 σ1 e1 r1 en1 => ⟨ι1, h1, ρ', r1, en1, SPost.shift (h := h) (h' := h1) p e1⟩
  | brk ρ' h1 => rw [e] at p; exact p
  | ct ρ' h1 => rw [e] at p; exact p
  | ret v h1 => rw [e] at p; exact p
  | exc e' ρ' h1 => rw [e] at p; exact p
  | bad => rw [e] at p; exact p
theorem rs_cons {st : Stmt} {rest : List Stmt} {m u : SS} (h1 : RS C X st m) (h2 : RSs C X rest u) : RSs C X (st :: rest) (sSeq m u) := fun W tk =>
  PSs_imp (pss_cons (h1 W tk) (h2 W tk)) fun D σ H q => seq_imp q
theorem rs_one {st : Stmt} {m : SS} (h1 : RS C X st m) : RSs C X [st] m := fun W tk => pss_one (h1 W tk)
theorem rs_pass {pos : Pos} : RS C X (.Pass pos) sNil := fun W tk => PS_imp ps_pass fun D σ H ⟨ι, h, ρ, r, en, p⟩ => p ι H σ Ext.refl r en
theorem rs_doc {x j pos pos'} : RS C X (.Expr (.Constant (.str x) j pos) pos') sNil := fun W tk => PS_imp ps_doc fun D σ H ⟨ι, h, ρ, r, en, p⟩ => p ι H σ Ext.refl r en
theorem rs_expr {e : Expr} {m : EE} {pos : Pos} (he : RE C X e m) (hs : swapsWith e none pos.line X.env = pure false := by rfl) : RS C X (.Expr e pos) (sExpr m) := fun W tk =>
  PS_imp (ps_expr (he W tk) hs) fun D σ H ⟨ι, h, ρ, r, en, p⟩ => ⟨ι, h, ρ, r, en, (SPost.bnd (R := AvR C) r en p).mono fun x H1 ⟨ι1, h1, a, r1, e1, x1, p1⟩ => p1 ι1 H1 σ Ext.refl r1 (en.ext r e1)⟩
theorem rs_ret {e : Expr} {m : EE} {pos : Pos} (he : RE C X e m) : RS C X (.Return (some e) pos) (sRet m) := fun W tk =>
  PS_imp (ps_ret (he W tk)) fun D σ H ⟨ι, h, ρ, r, en, p⟩ => ⟨ι, h, ρ, r, en, (SPost.bnd (R := AvR C) r en p).mono fun x H1 ⟨ι1, h1, a, r1, e1, x1, p1⟩ => p1 ι1 H1 x Ext.refl r1 x1⟩
theorem rs_retN {pos : Pos} : RS C X (.Return none pos) sRetN := fun W tk => PS_imp ps_retN fun D σ H ⟨ι, h, ρ, r, en, p⟩ => p ι H .non Ext.refl r .non
theorem rs_if {c : Expr} {a b : List Stmt} {t : BB} {m u : SS} {pos : Pos} (hc : RT C X c t) (ha : RSs C X a m) (hb : RSs C X b u) : RS C X (.If c a b pos) (sIf t m u) := fun W tk =>
  PS_imp (ps_if (hc W tk) (ha W tk) (hb W tk)) fun D σ H ⟨ι, h, ρ, r, en, p⟩ => ⟨ι, h, ρ, r, en, (SPost.bnd (R := rB) r en p).mono fun x H1 ⟨ι1, h1, a, r1, e1, x1, p1⟩ => by
    cases x1
    by_cases z : x = true
    · rw [if_pos z] at p1 ⊢; exact ⟨ι1, h1, ρ, r1, en.ext r e1, p1⟩
    · rw [if_neg z] at p1 ⊢; exact ⟨ι1, h1, ρ, r1, en.ext r e1, p1⟩⟩
/-- a target: the slots that it sets -/
def TgOk (C : Cz) (g : TG) (m : Tg) (is : List Nat) : Prop := ∀ (ι : Nat → Addr) (h : PA.Heap) (H : Hp) (ρ ρ' : PA.Env) (σ : L2.St) (a : AV) (v : V) (Q : L2.St → Hp → Prop), Rep C ι h H → EnR C ι h.length H ρ σ → AvR C ι h.length H a v → m a ρ = some ρ' →
  (∀ σ', EnR C ι h.length H ρ' σ' → (∀ vs, (∀ i ∈ is, i ∈ vs) → wipe σ' vs = wipe σ vs) → Q σ' H) → g v σ H Q
structure RG (C : Cz) (X : Cx) (tg : Expr) (m : Tg) (g : TG) (is : List Nat) : Prop where
  pg : PG X tg g
  ok : TgOk C g m is
theorem wipe_set {σ : L2.St} {i : Nat} {x : Option V} : ∀ {vs : List Nat}, i ∈ vs → wipe (σ.set i x) vs = wipe σ vs
  | [], h => by cases h
  | v :: vs, h => by
    unfold wipe
    by_cases z : i = v
    · subst z
      by_cases q : i ∈ vs
      · rw [wipe_set q]
      · have out : ∀ {ws : List Nat} {σ : L2.St}, i ∉ ws → wipe (σ.set i x) ws = (wipe σ ws).set i x := by
          intro ws
          induction ws with
          | nil => intro σ _; rfl
          | cons w ws ih =>
            intro σ hw
            unfold wipe
            rw [ih (fun z => hw (List.mem_cons_of_mem _ z)), List.set_comm]
            exact fun z => hw (by rw [z]; exact List.mem_cons_self)
        rw [out q, List.set_set]
    · rcases List.mem_cons.mp h with q | q
      · exact absurd q z
      · rw [wipe_set q]
theorem rg_name {i : Nat} {x : Str} {pos : Pos} (hN : X.N.Nodup) (hi : X.N[i]? = some x := by rfl) (hx : Loc X.env.scope x := by first | exact Or.inl rfl | exact Or.inr rfl) (hf : X.fn x = true ∨ X.env.scope.names.lookup x = some .local := by first | exact .inl rfl | exact .inr rfl | assumption) : RG C X (.Name x pos) (PA.gName i) (L2.gName i) [i] :=
  ⟨pg_name hN hi hx hf, fun ι h H ρ ρ' σ a v Q r en x e k => by
    cases e
    exact k _ (en.set x i) fun vs hv => wipe_set (hv i List.mem_cons_self)⟩
/-- the names of a tuple target -/
def TgsOk (C : Cz) (g : TGs) (is : List Nat) : Prop := ∀ (ι : Nat → Addr) (h : PA.Heap) (H : Hp) (ρ ρ' : PA.Env) (σ : L2.St) (as : List AV) (vs : List V) (Q : L2.St → Hp → Prop), Rep C ι h H → EnR C ι h.length H ρ σ → AvRs C ι h.length H as vs → PA.gNames is as ρ = some ρ' →
  (∀ σ', EnR C ι h.length H ρ' σ' → (∀ vs, (∀ i ∈ is, i ∈ vs) → wipe σ' vs = wipe σ vs) → Q σ' H) → g vs σ H Q
structure RGs (C : Cz) (X : Cx) (ts : List Expr) (is : List Nat) (g : TGs) : Prop where
  pg : PGs X ts g
  ok : TgsOk C g is
theorem rgs_nil : RGs C X [] [] gNil := ⟨pgs_nil, fun ι h H ρ ρ' σ as vs Q r en x e k => by
  cases x with
  | nil => cases e; exact ⟨rfl, k σ en fun _ _ => rfl⟩
  | cons a b => cases e⟩
theorem gNames_len : ∀ {is : List Nat} {as : List AV} {ρ ρ' : PA.Env}, PA.gNames is as ρ = some ρ' → as.length = is.length
  | [], [], _, _, _ => rfl
  | [], _ :: _, _, _, e => by cases e
  | _ :: _, [], _, _, e => by cases e
  | i :: is, a :: as, ρ, ρ', e => by
    have := gNames_len (is := is) (as := as) (ρ := ρ.set i (some a)) (ρ' := ρ') e
    simp [this]
theorem rgs_cons {e : Expr} {es : List Expr} {i : Nat} {is : List Nat} {g : TG} {gs : TGs} (h1 : RG C X e (PA.gName i) g [i]) (h2 : RGs C X es is gs)
    (hs : (assignEach (e :: es) X.env).map (·.2) = assign e X.env :: (assignEach es X.env).map (·.2) := by rfl) : RGs C X (e :: es) (i :: is) (gCons g gs) := by
  refine ⟨pgs_cons h1.pg h2.pg hs, fun ι h H ρ ρ' σ as vs Q r en x e k => ?_⟩
  cases x with
  | nil => cases e
  | cons a b =>
    refine ⟨_, _, rfl, h1.ok ι h H ρ _ σ _ _ _ r en a rfl fun σ' en' w1 => ?_⟩
    exact h2.ok ι h H _ ρ' σ' _ _ Q r en' b e fun σ2 en2 w2 => k σ2 en2 fun ws hw => (w2 ws fun i hi => hw i (List.mem_cons_of_mem _ hi)).trans (w1 ws fun i' hi => hw i' (by rw [List.mem_singleton.mp hi]; exact List.mem_cons_self))
theorem rg_tup {es : List Expr} {k : Nat} {pos : Pos} {is : List Nat} {gs : TGs} (hK : X.K = C.K) (hc : X.calm = true) (h : RGs C X es is gs)
    (hn : (assignEach es X.env).length = is.length := by rfl) (hst : (assignEach es X.env).findIdx? (·.1) = none := by rfl) : RG C X (.Tuple es k pos) (PA.gTup is) (L2.gTup C.K is.length gs) is := by
  refine ⟨by rw [← hK]; exact pg_tup hc h.pg hn hst, fun ι h' H ρ ρ' σ a v Q r en x e k => ?_⟩
  cases x with
  | tup t q =>
    exact ⟨_, _, rfl, t, by rw [← q.length]; exact gNames_len e, h.ok ι h' H ρ ρ' σ _ _ Q r en q e k⟩
  | _ => cases e
theorem rs_asg {tg e : Expr} {m : EE} {g : Tg} {g' : TG} {is : List Nat} {pos : Pos} (he : RE C X e m) (hg : RG C X tg g g' is) (hs : swapsWithSole [tg] e pos.line X.env = pure false := by rfl) (hw : swappedStores [tg] e X.env = pure none := by rfl) (h1 : (assignEach [tg] X.env).map (·.2) = [assign tg X.env] := by rfl) : RS C X (.Assign [tg] e pos) (sAsg g m) := fun W tk => by
  refine PS_imp (ps_asg (he W tk) hg.pg hs hw h1) fun D σ H ⟨ι, h, ρ, r, en, p⟩ => ⟨ι, h, ρ, r, en, (SPost.bnd (R := AvR C) r en p).mono fun x H1 ⟨ι1, h1, a, r1, e1, x1, p1⟩ => ?_⟩
  cases z : g a ρ with
  | none => rw [z] at p1; exact p1.elim
  | some ρ' => rw [z] at p1; exact hg.ok ι1 h1 H1 ρ ρ' σ a x _ r1 (en.ext r e1) x1 z fun σ' en' _ => p1 ι1 H1 σ' Ext.refl r1 en'
theorem rs_set (i : Nat) {x : Str} {e : Expr} {m : EE} {pos pos' : Pos} (hN : X.N.Nodup) (he : RE C X e m) (hi : X.N[i]? = some x := by rfl) (hx : Loc X.env.scope x := by first | exact Or.inl rfl | exact Or.inr rfl) (hs : swapsWith e (some (.Name x pos')) pos.line X.env = pure false := by rfl)
    (hf : X.fn x = true ∨ X.env.scope.names.lookup x = some .local := by first | exact .inl rfl | exact .inr rfl | assumption) : RS C X (.Assign [.Name x pos'] e pos) (sSet i m) := fun W tk =>
  PS_imp (ps_set hN hi hx (he W tk) hs hf) fun D σ H ⟨ι, h, ρ, r, en, p⟩ => ⟨ι, h, ρ, r, en, (SPost.bnd (R := AvR C) r en p).mono fun x H1 ⟨ι1, h1, a, r1, e1, x1, p1⟩ =>
    p1 ι1 H1 _ Ext.refl r1 ((en.ext r e1).set x1 i)⟩

/-! ### fields of own classes without slots -/
structure FldA (C : Cz) (c : String) (f : Str) : Prop where
  cl : Cls C.K (C.ad c)
  no : NoAttr C.K (C.ad c) f
  us : C.sl c = none
theorem re_fld {c : String} {f : Str} {e : Expr} {m : EE} {pos : Pos} (hK : X.K = C.K) (F : FldA C c f) (he : RE C X e m) (hb : attributeBase e f X.env (eval e X.env) = eval e X.env := by rfl) : RE C X (.Attribute e f pos) (eAttr c f m) := fun W tk =>
  PE_imp (pe_fld (he W tk) hb) fun σ H Q ⟨ι, h, ρ, r, en, p⟩ => ⟨ι, h, ρ, r, en, (GPost.bnd (R := AvR C) p).mono fun x H1 ⟨ι1, h1, a, r1, e1, x1, p1⟩ => by
    cases x1 with
    | @loc l hl =>
      dsimp only at p1
      cases z : h1[l]? with
      | none => rw [z] at p1; exact p1.elim
      | some o =>
        rw [z] at p1
        cases o with
        | ins c' fs =>
          dsimp only at p1
          by_cases zc : c' = c
          · subst zc
            rw [if_pos rfl] at p1
            have ob := r1.at_ l _ z
            rcases ob with ⟨_, dx, gs, eh, fr⟩ | ⟨names, dx, vs, e0, _⟩
            · rcases fr.lookup f with ⟨y, v, l1, l2, xv⟩ | ⟨l1, l2⟩
              · rw [l1] at p1
                exact ⟨_, _, dx, gs, v, rfl, eh, by rw [hK]; exact F.cl, by rw [hK]; exact F.no, l2, p1 ι1 H1 v Ext.refl r1 xv⟩
              · rw [l1] at p1; exact p1.elim
            · rw [F.us] at e0; cases e0
          · rw [if_neg zc] at p1; exact p1.elim
        | _ => exact p1.elim
    | _ => exact p1.elim⟩
theorem rs_fld {c : String} {f : Str} {o e : Expr} {mo me : EE} {pos pos' : Pos} (hK : X.K = C.K) (F : FldA C c f) (ho : RE C X o mo) (he : RE C X e me) (hs : swapsWith e (some (.Attribute o f pos')) pos.line X.env = pure false := by rfl) : RS C X (.Assign [.Attribute o f pos'] e pos) (sAttr c mo f me) := fun W tk =>
  PS_imp (ps_fld (ho W tk) (he W tk) hs) fun D σ H ⟨ι, h, ρ, r, en, p⟩ => ⟨ι, h, ρ, r, en, (SPost.bnd (R := AvR C) r en p).mono fun y H1 ⟨ι1, h1, b, r1, e1, x1, p1⟩ =>
    ⟨ι1, h1, ρ, r1, en.ext r e1, (SPost.bnd (R := AvR C) r1 (en.ext r e1) p1).mono fun x H2 ⟨ι2, h2, a, r2, e2, x2, p2⟩ => by
      cases x2 with
      | @loc l hl =>
        dsimp only at p2
        cases z : h2[l]? with
        | none => rw [z] at p2; exact p2.elim
        | some o =>
          rw [z] at p2
          cases o with
          | ins c' fs =>
            dsimp only at p2
            by_cases zc : c' = c ∧ fs.length < 100
            · rw [if_pos zc] at p2
              obtain ⟨zc, zl⟩ := zc
              subst zc
              have ob := r2.at_ l _ z
              rcases ob with ⟨us, dx, gs, eh, fr⟩ | ⟨names, dx, vs, e0, _⟩
              · refine ⟨_, _, dx, gs, rfl, eh, by rw [hK]; exact F.cl, by rw [hK]; exact F.no, by rw [← fr.length]; omega, ?_⟩
                have nf : ∀ o u, H2 (ι2 l) ≠ some (.frz o u) := fun o u q => by rw [eh] at q; cases q
                have ex := Ext.chg (u := .ins (C.ad c') dx (L2.putF f y gs)) r2 hl nf
                refine p2 ι2 _ σ (by rw [List.length_set]; exact ex) (r2.chg hl nf (.inl ⟨us, dx, _, upd_same, (r2.fsr ex fr).put (r2.av ex (r1.av e2 x1)) f⟩)) ?_
                rw [List.length_set]
                exact ((en.ext r e1).ext r1 e2).ext r2 ex
              · rw [F.us] at e0; cases e0
            · rw [if_neg zc] at p2; exact p2.elim
          | _ => exact p2.elim
      | _ => exact p2.elim⟩⟩
end
end PL
set_option maxRecDepth 100000
set_option maxHeartbeats 2000000
/-! Lift5: defs and their calls. -/
namespace PL
open PySem PySem.Spec PyProof.Rows L2 PA

/-- what a def promises: its function over plain data -/
def spA (C : Cz) (F : FF) : Sp := fun vs H Q E => ∃ ι h as, Rep C ι h H ∧ AvRs C ι h.length H as vs ∧ GPost C (AvR C) ι h H Q E (F as h)
abbrev FnA (C : Cz) (k : Nat) (f : Addr) (fd : FuncData) (ps : List Str) (F : FF) : Prop := FnOk C.P C.w C.K C.mg C.base (L2.CX C.P C.w) k f fd ps (spA C F)
/-- a context of ours -/
structure Gd (C : Cz) (X : Cx) (k : Nat) : Prop where
  hP : X.prog = C.P
  hw : X.w = C.w
  hK : X.K = C.K
  hm : X.mg = C.mg
  hb : X.base = C.base
  calm : X.calm = true
  nd : X.N.Nodup
  room : Room k X.A
/-- a def of the module, by its name -/
structure CalA (C : Cz) (k : Nat) (x : Str) (F : FF) : Prop where
  ex : ∃ f fd ps, FnA C k f fd ps F ∧ C.mg x = some (.ref f) ∧ PySem.W.keepIn C.K (.ref f) = true ∧ Binds C.K fd ps []
/-- a method of a class without slots -/
structure MetA (C : Cz) (k : Nat) (c : String) (m : Str) (F : FF) : Prop where
  ex : ∃ f fd ps, FnA C k f fd ps F ∧ Cls C.K (C.ad c) ∧ Meth C.K (C.ad c) m f ∧ Binds C.K fd ps []
  us : C.sl c = none
structure PrpA (C : Cz) (k : Nat) (c : String) (m : Str) (F : FF) : Prop where
  ex : ∃ p f fd ps, FnA C k f fd ps F ∧ Cls C.K (C.ad c) ∧ PropOf C.K (C.ad c) m p f ∧ Binds C.K fd ps []
  us : C.sl c = none
/-- a class without slots, called -/
structure MakA (C : Cz) (k : Nat) (c : String) (x : Str) (F : FF) : Prop where
  ex : ∃ f fd ps, FnA C k f fd ps F ∧ Mk C.K (C.ad c) f ∧ C.mg x = some (.ref (C.ad c)) ∧ Binds C.K fd ps []

theorem AvRs.mapSome {C : Cz} {ι : Nat → Addr} {n m : Nat} {H : Hp} {as : List AV} {vs : List V} (r : AvRs C ι n H as vs) : EnR C ι n H (as.map some ++ List.replicate m none) (vs.map some ++ List.replicate m none) := by
  refine ⟨by simp [r.length], fun i a e => ?_⟩
  by_cases z : i < as.length
  · rw [List.getElem?_append_left (by simpa using z), List.getElem?_map] at e
    cases e1 : as[i]? with
    | none => rw [e1] at e; cases e
    | some b =>
      rw [e1] at e
      cases e
      obtain ⟨v, h1, h2⟩ := r.get e1
      refine ⟨v, ?_, h2⟩
      rw [List.getElem?_append_left (by rw [List.length_map, ← r.length]; exact z), List.getElem?_map, h1]
      rfl
  · rw [List.getElem?_append_right (by simpa using Nat.le_of_not_lt z), List.getElem?_replicate] at e
    split at e
    · cases e
    · cases e

section
variable {C : Cz}
theorem fn_okA {x qual : Str} {st : Stmt} {f : Addr} {fd : FuncData} {N ps : List Str} {k : Nat} {body : SS} (F : L2.Fun C.K x qual st f fd) (S : FnScope N ps (defScope st))
    (hb : ∀ (cdv : Value) (A : Around) (outer : List PySem.Env) (s : Shared) (H : Hp) (E : XK), Gd C (cxOf (L2.CX C.P C.w) C.P C.w C.K C.mg C.base N qual (defScope st) f cdv A outer s H E) k →
      RSs C (cxOf (L2.CX C.P C.w) C.P C.w C.K C.mg C.base N qual (defScope st) f cdv A outer s H E) (defBody st) body) : FnA C (k + 1) f fd ps (runF ps.length (N.length - ps.length) body) := by
  refine F.okX S (fun vs H Q E h => ?_) (fun cdv A outer s H vs Q E hr h => ?_)
  · obtain ⟨ι, h, as, r, x, p⟩ := h
    unfold runF at p
    by_cases z : as.length = ps.length
    · rw [← x.length]; exact z
    · rw [if_neg z] at p; exact p.elim
  · obtain ⟨ι, h, as, r, x, p⟩ := h
    refine ⟨_, hb cdv A outer s H E ⟨rfl, rfl, rfl, rfl, rfl, rfl, S.nd, hr⟩ (fun cls d _ H => E cls d H) (takes_of rfl rfl rfl rfl), ?_⟩
    unfold runF at p
    by_cases z : as.length = ps.length
    · rw [if_pos z] at p
      refine ⟨ι, h, as.map some ++ List.replicate (N.length - ps.length) none, r, ?_, ?_⟩
      · have q := x.mapSome (m := N.length - ps.length)
        unfold L2.start
        rw [← x.length, z]
        exact q
      · cases e : body (as.map some ++ List.replicate (N.length - ps.length) none) h with
        | nx ρ' h' => rw [e] at p; exact fun ι1 H1 σ1 e1 r1 en1 => p ι1 H1 .non e1 r1 .non
        | ret v h' => rw [e] at p; exact p
        | exc e' ρ' h' => rw [e] at p; exact fun ι1 H1 σ1 cls d e1 r1 en1 x1 => p ι1 H1 cls d e1 r1 x1
        | brk ρ' h' => rw [e] at p; exact p.elim
        | ct ρ' h' => rw [e] at p; exact p.elim
        | bad => rw [e] at p; exact p.elim
    · rw [if_neg z] at p; exact p.elim
end

section
variable {C : Cz} {X : Cx} {j k : Nat}
theorem Gd.mono {i : Nat} (g : Gd C X j) (h : i ≤ j) : Gd C X i := ⟨g.hP, g.hw, g.hK, g.hm, g.hb, g.calm, g.nd, g.room.mono h⟩
theorem call_imp {F : FF} {l : LL} {W : WX} {σ : L2.St} {H : Hp} {Q : VK} (q : tE C (eCall F l) W σ H Q) : tCallS (spA C F) (WE W) (tL C l W) σ H Q := by
  obtain ⟨ι, h, ρ, r, en, p⟩ := q
  exact ⟨ι, h, ρ, r, en, (GPost.bnd (R := AvRs C) p).mono fun xs H1 ⟨ι1, h1, as, r1, e1, x1, p1⟩ => ⟨ι1, h1, as, r1, x1, p1⟩⟩
theorem re_call {x : Str} {F : FF} {e : Expr} {es : List Expr} {l : LL} {p pos : Pos} (g : Gd C X j) (c : CalA C k x F) (hl : RL C X (e :: es) l) (hk : k ≤ j := by decide) (hg : Gl X x := by rfl) (hdb : (x == ("__debug__" : Str)) = false := by decide)
    (he : starEach (e :: es) X.env = (false, eval e X.env) :: starEach es X.env := by rfl) (hpl : (backTo pos (starEach es X.env)).any (·.1) = false := by rfl) :
    RE C X (.Call (.Name x p) (e :: es) [] pos) (eCall F l) := fun W tk => by
  obtain ⟨f, fd, ps, fn, hm, hkp, hb⟩ := c.ex
  unfold FnA at fn
  rw [← g.hP, ← g.hw, ← g.hK, ← g.hm, ← g.hb] at fn
  rw [← g.hm] at hm
  rw [← g.hK] at hkp hb
  exact PE_imp (pe_callS fn (g.room.mono hk) hg hm hkp hb (fun σ => passAt tk σ) (hl W tk) hdb he hpl) fun σ H Q q => call_imp q
theorem re_call0 {x : Str} {F : FF} {p pos : Pos} (g : Gd C X j) (c : CalA C k x F) (hk : k ≤ j := by decide) (hg : Gl X x := by rfl) (hdb : (x == ("__debug__" : Str)) = false := by decide) :
    RE C X (.Call (.Name x p) [] [] pos) (eCall F lNil) := fun W tk => by
  obtain ⟨f, fd, ps, fn, hm, hkp, hb⟩ := c.ex
  unfold FnA at fn
  rw [← g.hP, ← g.hw, ← g.hK, ← g.hm, ← g.hb] at fn
  rw [← g.hm] at hm
  rw [← g.hK] at hkp hb
  refine ⟨fun pins s σ H Q I q => ?_⟩
  obtain ⟨ι, h, ρ, r, en, p1⟩ := q
  refine wpAny_Call_Name_kw (ld_glob I hg hm ?_ hdb)
  exact PySem.W.callWith_K0 I.kIn hkp (run_fnS (us := []) (vs := []) (E := WE W) fn (g.room.mono hk) hb (passAt tk σ) I .nil ⟨ι, h, [], r, .nil, p1⟩)
theorem isIns_of {c : String} {h : PA.Heap} {ι : Nat → Addr} {H : Hp} {a : AV} {x : V} (us : C.sl c = none) (r : Rep C ι h H) (xa : AvR C ι h.length H a x) (z : isIns c h a = true) : ∃ q dx fs gs l, x = .ref q ∧ a = .loc l ∧ h[l]? = some (.ins c fs) ∧ H q = some (.ins (C.ad c) dx gs) ∧ FsR C ι h.length H fs gs := by
  cases xa with
  | @loc l hl =>
    unfold isIns at z
    dsimp only at z
    cases e : h[l]? with
    | none => rw [e] at z; cases z
    | some o =>
      rw [e] at z
      cases o with
      | ins c' fs =>
        have zc : c' = c := of_decide_eq_true z
        subst zc
        rcases r.at_ l _ e with ⟨_, dx, gs, eh, fr⟩ | ⟨names, dx, vs, e0, _⟩
        · exact ⟨_, dx, fs, gs, l, rfl, rfl, e, eh, fr⟩
        · rw [us] at e0; cases e0
      | _ => cases z
  | _ => cases z
theorem re_meth {c : String} {m : Str} {F : FF} {o e : Expr} {es : List Expr} {mo : EE} {l : LL} {apos pos : Pos} {pl : Sem Bool} (g : Gd C X j) (M : MetA C k c m F) (ho : RE C X o mo) (hl : RL C X (e :: es) l) (hk : k ≤ j := by decide)
    (hst : starEach (e :: es) X.env = (false, eval e X.env) :: starEach es X.env := by rfl) (hpl : (backTo pos (starEach es X.env)).any (·.1) = false := by rfl)
    (ht : eval (.Call (.Attribute o m apos) (e :: es) [] pos) X.env = (do
      let ov ← eval o X.env
      standAt apos.atName
      let (f, first) ← holding [ov] (getMethod ov m pl)
      callWith pos f first (backTo pos (starEach (e :: es) X.env)) (backToKw pos (keywordEach [] X.env))) := by rfl) :
    RE C X (.Call (.Attribute o m apos) (e :: es) [] pos) (eMeth c m F mo l) := fun W tk => by
  obtain ⟨f, fd, ps, fn, hc, hm, hb⟩ := M.ex
  unfold FnA at fn
  rw [← g.hP, ← g.hw, ← g.hK, ← g.hm, ← g.hb] at fn
  rw [← g.hK] at hc hm hb
  refine ⟨fun pins s σ H Q I q => ?_⟩
  obtain ⟨ι, h, ρ, r, en, p⟩ := q
  refine PySem.W.methodCall_KW (pl := pl) (thn ((ho W tk).run pins s σ H _ I ⟨ι, h, ρ, r, en, GPost.bnd (R := AvR C) p⟩) fun u s1 ⟨x, H1, I1, rx, ι1, h1, a, r1, e1, x1, p1⟩ => ?_) ht
  by_cases z : (isIns c h1 a && noFld m h1 a) = true
  · rw [if_pos z] at p1
    rw [Bool.and_eq_true] at z
    obtain ⟨q, dx, fs, gs, l', rfl, ea, el, eh, fr⟩ := isIns_of M.us r1 x1 z.1
    subst ea
    obtain rfl : u = Value.ref q := rx
    have nf : gs.lookup m = none := by
      have z2 := z.2
      unfold noFld at z2
      dsimp only at z2
      rw [el] at z2
      dsimp only at z2
      rcases fr.lookup m with ⟨y, v, l1, l2, _⟩ | ⟨l1, l2⟩
      · rw [l1] at z2; cases z2
      · exact l2
    refine getmeth_ok I1 eh hc hm nf ?_
    refine PySem.W.callWith_K (first := [.ref q]) (h₀ := X.base) I.ok.mod.kin hm.kp (thn ((hl W tk).run pos pins s1 σ H1 _ I1 ⟨ι1, h1, ρ, r1, en.ext r e1, GPost.bnd (R := AvRs C) p1⟩) fun us s2 ⟨vs, H2, I2, r2', ι2, h2, as, r2, e2, x2, p2⟩ => ⟨I2.kIn, ?_⟩) hst hpl
    exact run_fnS (us := .ref q :: us) (vs := .ref q :: vs) (E := WE W) fn (g.room.mono hk) hb (passAt tk σ) I2 (.cons rfl r2') ⟨ι2, h2, .loc l' :: as, r2, .cons (r1.av e2 x1) x2, p2⟩
  · rw [if_neg z] at p1; exact p1.elim
theorem re_meth0 {c : String} {m : Str} {F : FF} {o : Expr} {mo : EE} {apos pos : Pos} {pl : Sem Bool} (g : Gd C X j) (M : MetA C k c m F) (ho : RE C X o mo) (hk : k ≤ j := by decide)
    (ht : eval (.Call (.Attribute o m apos) [] [] pos) X.env = (do
      let ov ← eval o X.env
      standAt apos.atName
      let (f, first) ← holding [ov] (getMethod ov m pl)
      callWith pos f first (backTo pos (starEach [] X.env)) (backToKw pos (keywordEach [] X.env))) := by rfl) :
    RE C X (.Call (.Attribute o m apos) [] [] pos) (eMeth c m F mo lNil) := fun W tk => by
  obtain ⟨f, fd, ps, fn, hc, hm, hb⟩ := M.ex
  unfold FnA at fn
  rw [← g.hP, ← g.hw, ← g.hK, ← g.hm, ← g.hb] at fn
  rw [← g.hK] at hc hm hb
  refine ⟨fun pins s σ H Q I q => ?_⟩
  obtain ⟨ι, h, ρ, r, en, p⟩ := q
  refine PySem.W.methodCall_KW (pl := pl) (thn ((ho W tk).run pins s σ H _ I ⟨ι, h, ρ, r, en, GPost.bnd (R := AvR C) p⟩) fun u s1 ⟨x, H1, I1, rx, ι1, h1, a, r1, e1, x1, p1⟩ => ?_) ht
  by_cases z : (isIns c h1 a && noFld m h1 a) = true
  · rw [if_pos z] at p1
    rw [Bool.and_eq_true] at z
    obtain ⟨q, dx, fs, gs, l', rfl, ea, el, eh, fr⟩ := isIns_of M.us r1 x1 z.1
    subst ea
    obtain rfl : u = Value.ref q := rx
    have nf : gs.lookup m = none := by
      have z2 := z.2
      unfold noFld at z2
      dsimp only at z2
      rw [el] at z2
      dsimp only at z2
      rcases fr.lookup m with ⟨y, v, l1, l2, _⟩ | ⟨l1, l2⟩
      · rw [l1] at z2; cases z2
      · exact l2
    refine getmeth_ok I1 eh hc hm nf ?_
    exact PySem.W.callWith_K0 (first := [.ref q]) I1.kIn hm.kp (run_fnS (us := [.ref q]) (vs := [.ref q]) (E := WE W) fn (g.room.mono hk) hb (passAt tk σ) I1 (.cons rfl .nil) ⟨ι1, h1, [.loc l'], r1, .cons x1 .nil, p1⟩)
  · rw [if_neg z] at p1; exact p1.elim
end
end PL
set_option maxRecDepth 100000
set_option maxHeartbeats 2000000
/-! Lift6: what is walked, for, while, list comprehensions. -/
namespace PL
open PySem PySem.Spec PyProof.Rows L2 PA

/-- J walks these items -/
def ItOk (C : Cz) (ι0 : Nat → Addr) (n0 : Nat) (H0 : Hp) (items : PA.Heap → Option (List AV)) (J : It) : Prop :=
  ∀ (ι : Nat → Addr) (h : PA.Heap) (H : Hp), Ext ι0 n0 H0 ι h.length H → Rep C ι h H → ∀ (i : Nat) (ys : List AV), items h = some ys →
    (∀ x, ys[i]? = some x → J.go i H ∧ ∀ v H', J.yld i H v H' → Ext ι h.length H ι h.length H' ∧ Rep C ι h H' ∧ AvR C ι h.length H' x v) ∧ (ys[i]? = none → J.stop i H)
abbrev tI (C : Cz) (m : II) (W : WX) : TI := tG C (ItOk C) m W
def RI (C : Cz) (X : Cx) (tg iter : Expr) (m : II) : Prop := ∀ W, Takes X W → PI X tg iter (tI C m W)
theorem PI_imp {X : Cx} {tg iter : Expr} {t t' : TI} (p : PI X tg iter t) (k : ∀ σ H Q, t' σ H Q → t σ H Q) : PI X tg iter t' := ⟨fun pins s σ H Q I q => p.run pins s σ H Q I (k σ H Q q)⟩

section
variable {C : Cz} {X : Cx} {tg : Expr} {j : Nat}
theorem itoN {ι0 : Nat → Addr} {n0 : Nat} {H0 : Hp} {xs : List AV} {J : It} (k : ∀ (ι : Nat → Addr) (h : PA.Heap) (H : Hp), Ext ι0 n0 H0 ι h.length H → Rep C ι h H → ∀ (i : Nat), (∀ x, xs[i]? = some x → J.go i H ∧ ∀ v H', J.yld i H v H' → Ext ι h.length H ι h.length H' ∧ Rep C ι h H' ∧ AvR C ι h.length H' x v) ∧ (xs[i]? = none → J.stop i H)) :
    ItOk C ι0 n0 H0 (fun _ => some xs) J := fun ι h H e r i ys z => by
  cases z
  exact k ι h H e r i
/-- a made list -/
def rTmp (C : Cz) (Z : Addr → Prop) : RR (List AV) V := fun ι n H xs v => ∃ p vs, v = .ref p ∧ H p = some (.lst vs) ∧ AvRs C ι n H xs vs ∧ (∀ l, l < n → ι l ≠ p) ∧ ¬ Z p
/-- .. that stands apart from Z -/
def tM (C : Cz) (m : LL) (W : WX) : TE := fun σ H Q => ∃ ι h ρ, Rep C ι h H ∧ EnR C ι h.length H ρ σ ∧ ∃ Z : Addr → Prop, (∀ p, Z p → H p ≠ none) ∧ GPost C (rTmp C Z) ι h H Q (fun c d H' => W c d σ H') (m ρ h)
def RM (C : Cz) (X : Cx) (e : Expr) (m : LL) : Prop := ∀ W, Takes X W → PE X e (tM C m W)
/-- for x in a tuple that is known to be one -/
theorem ri_tup {e : Expr} {m : EE} (g : Gd C X j) (he : RE C X e m) : RI C X tg e (iTup m) := fun W tk =>
  PI_imp (pi_tup (he W tk)) fun σ H R ⟨ι, h, ρ, r, en, p⟩ => ⟨ι, h, ρ, r, en, (GPost.bnd (R := AvR C) p).mono fun x H1 ⟨ι1, h1, a, r1, e1, x1, p1⟩ => by
    cases x1 with
    | @tup q xs vs t av =>
      refine ⟨q, rfl, ⟨vs, by rw [g.hK]; exact t⟩, p1 ι1 H1 (Itt X.K q) Ext.refl r1 (itoN fun ι h H e2 r2 i => ?_)⟩
      have t2 : SqT X.K H q vs := by rw [g.hK]; exact r1.sqT e2 t
      have av2 := r1.avs e2 av
      refine ⟨fun x ex => ?_, fun ex => ?_⟩
      · obtain ⟨v, h1, h2⟩ := av2.get ex
        refine ⟨⟨vs, v, t2, h1⟩, fun v' H' y => ?_⟩
        obtain ⟨rfl, y⟩ := y
        have := y vs t2
        rw [h1] at this
        cases this
        exact ⟨Ext.refl, r2, h2⟩
      · refine ⟨vs, t2, ?_⟩
        rw [← av2.length]
        exact List.getElem?_eq_none_iff.mp ex
    | _ => exact p1.elim⟩
/-- for x in a list of ours -/
theorem ri_loc {e : Expr} {m : EE} (g : Gd C X j) (he : RE C X e m) : RI C X tg e (iLoc m) := fun W tk =>
  PI_imp (pi_list (he W tk)) fun σ H R ⟨ι, h, ρ, r, en, p⟩ => ⟨ι, h, ρ, r, en, (GPost.bnd (R := AvR C) p).mono fun x H1 ⟨ι1, h1, a, r1, e1, x1, p1⟩ => by
    cases x1 with
    | @loc l hl =>
      dsimp only at p1
      cases z : h1[l]? with
      | none => rw [z] at p1; exact p1.elim
      | some o =>
        cases o with
        | lst xs0 =>
          rw [z] at p1
          dsimp only at p1
          obtain ⟨vs0, hv0, _⟩ := lst_at r1 z
          refine ⟨_, rfl, ⟨vs0, SqL.of hv0⟩, p1 ι1 H1 (Itl X.K (ι1 l)) Ext.refl r1 fun ι h H e2 r2 i ys ei => ?_⟩
          unfold lstOf at ei
          dsimp only at ei
          cases z2 : h[l]? with
          | none => rw [z2] at ei; cases ei
          | some o2 =>
            cases o2 with
            | lst ws =>
              rw [z2] at ei
              cases ei
              obtain ⟨vs, hv, av⟩ := lst_at r2 z2
              rw [e2.agree l hl] at hv
              refine ⟨fun x ex => ?_, fun ex => ?_⟩
              · obtain ⟨v, h1, h2⟩ := av.get ex
                refine ⟨⟨vs, v, SqL.of hv, h1⟩, fun v' H' y => ?_⟩
                obtain ⟨rfl, y⟩ := y
                have := y vs (SqL.of hv)
                rw [h1] at this
                cases this
                exact ⟨Ext.refl, r2, h2⟩
              · refine ⟨vs, SqL.of hv, ?_⟩
                rw [← av.length]
                exact List.getElem?_eq_none_iff.mp ex
            | _ => rw [z2] at ei; cases ei
        | _ => rw [z] at p1; exact p1.elim
    | _ => exact p1.elim⟩
/-- for x in a made list -/
theorem ri_tmp {e : Expr} {m : LL} (g : Gd C X j) (he : RM C X e m) : RI C X tg e (iTmp m) := fun W tk =>
  PI_imp (pi_list (he W tk)) fun σ H R ⟨ι, h, ρ, r, en, p⟩ => ⟨ι, h, ρ, r, en, fun _ => False, fun _ z => z.elim, (GPost.bnd (R := rTmp C fun _ => False) p).mono fun x H1 ⟨ι1, h1, xs, r1, e1, x1, p1⟩ => by
    obtain ⟨q, vs, rfl, hq, av, off, _⟩ := x1
    refine ⟨q, rfl, ⟨vs, SqL.of hq⟩, p1 ι1 H1 (Itl X.K q) Ext.refl r1 (itoN fun ι h H e2 r2 i => ?_)⟩
    have t2 : SqL X.K H q vs := SqL.of (e2.frame _ _ hq (fun _ z => nomatch z) off)
    have av2 := r1.avs e2 av
    refine ⟨fun x ex => ?_, fun ex => ?_⟩
    · obtain ⟨v, h1, h2⟩ := av2.get ex
      refine ⟨⟨vs, v, t2, h1⟩, fun v' H' y => ?_⟩
      obtain ⟨rfl, y⟩ := y
      have := y vs t2
      rw [h1] at this
      cases this
      exact ⟨Ext.refl, r2, h2⟩
    · refine ⟨vs, t2, ?_⟩
      rw [← av2.length]
      exact List.getElem?_eq_none_iff.mp ex⟩
theorem range_get {lo hi : Int} {i : Nat} {x : AV} (e : (rangeL lo hi)[i]? = some x) : i < (hi - lo).toNat ∧ x = .int (lo + (i : Int)) := by
  unfold rangeL at e
  rw [List.getElem?_map] at e
  cases z : (List.range (hi - lo).toNat)[i]? with
  | none => rw [z] at e; cases e
  | some k =>
    rw [z] at e
    cases e
    have h1 := List.getElem?_eq_some_iff.mp z
    obtain ⟨h2, h3⟩ := h1
    rw [List.length_range] at h2
    rw [List.getElem_range] at h3
    subst h3
    exact ⟨h2, rfl⟩
theorem range_end {lo hi : Int} {i : Nat} (e : (rangeL lo hi)[i]? = none) : (hi - lo).toNat ≤ i := by
  have := List.getElem?_eq_none_iff.mp e
  simpa [rangeL] using this
theorem range_ok {ι1 : Nat → Addr} {n1 : Nat} {H1 : Hp} {lo hi : Int} : ItOk C ι1 n1 H1 (fun _ => some (rangeL lo hi)) (Itr lo (hi - lo).toNat) := itoN fun ι h H e2 r2 i => by
  refine ⟨fun x ex => ?_, fun ex => range_end ex⟩
  obtain ⟨h1, rfl⟩ := range_get ex
  refine ⟨h1, fun v H' y => ?_⟩
  obtain ⟨rfl, rfl⟩ := y
  exact ⟨Ext.refl, r2, .int _⟩
theorem ri_range0 {a : Expr} {m : EE} {p pos : Pos} (g : Gd C X j) (hm : C.mg "range" = none) (ha : RE C X a m) (hg : Gl X "range" := by rfl) (hs : starEach [a] X.env = [(false, eval a X.env)] := by rfl) : RI C X tg (.Call (.Name "range" p) [a] [] pos) (iRange0 m) := fun W tk =>
  PI_imp (pi_range1 hg (by rw [g.hm]; exact hm) (pa_cons (ha W tk) pa_nil hs) hs) fun σ H R ⟨ι, h, ρ, r, en, p⟩ => ⟨ι, h, ρ, r, en, (GPost.bnd (R := AvR C) p).mono fun x H1 ⟨ι1, h1, a, r1, e1, x1, p1⟩ => by
    cases x1 with
    | int i =>
      dsimp only at p1
      by_cases z : -(2 ^ 62) ≤ i ∧ i < 2 ^ 62
      · rw [if_pos z] at p1
        refine ⟨i, rfl, z.1, z.2, p1 ι1 H1 _ Ext.refl r1 ?_⟩
        have q := range_ok (C := C) (ι1 := ι1) (n1 := h1.length) (H1 := H1) (lo := 0) (hi := i)
        rw [Int.sub_zero] at q
        exact q
      · rw [if_neg z] at p1; exact p1.elim
    | _ => exact p1.elim⟩
theorem ri_range {a b : Expr} {m u : EE} {p pos : Pos} (g : Gd C X j) (hm : C.mg "range" = none) (ha : RE C X a m) (hb : RE C X b u) (hg : Gl X "range" := by rfl) (hs : starEach [a, b] X.env = [(false, eval a X.env), (false, eval b X.env)] := by rfl) (hs2 : starEach [b] X.env = [(false, eval b X.env)] := by rfl) :
    RI C X tg (.Call (.Name "range" p) [a, b] [] pos) (iRange m u) := fun W tk =>
  PI_imp (pi_range2 hg (by rw [g.hm]; exact hm) (pa_cons (ha W tk) (pa_cons (hb W tk) pa_nil hs2) (by rw [hs, hs2])) hs hs2) fun σ H R ⟨ι, h, ρ, r, en, p⟩ => ⟨ι, h, ρ, r, en, (GPost.bnd (R := AvR C) p).mono fun x H1 ⟨ι1, h1, a, r1, e1, x1, p1⟩ =>
    ⟨ι1, h1, ρ, r1, en.ext r e1, (GPost.bnd (R := AvR C) p1).mono fun y H2 ⟨ι2, h2, b, r2, e2, x2, p2⟩ => by
      cases x1 with
      | int i =>
        cases x2 with
        | int j =>
          dsimp only at p2
          by_cases z : -(2 ^ 62) ≤ i ∧ i < 2 ^ 62 ∧ -(2 ^ 62) ≤ j ∧ j < 2 ^ 62
          · rw [if_pos z] at p2
            exact ⟨i, j, rfl, z, p2 ι2 H2 _ Ext.refl r2 range_ok⟩
          · rw [if_neg z] at p2; exact p2.elim
        | _ => exact p2.elim
      | _ => exact p2.elim⟩⟩

/-! ### for -/
theorem rs_for {iter : Expr} {body : List Stmt} {it : II} {g : Tg} {g' : TG} {is : List Nat} {m : SS} {pos : Pos} (gd : Gd C X j) (hp : PassesOwn (model X.prog X.w) X.A X.env X.xe) (hi : RI C X tg iter it) (hg : RG C X tg g g' is) (hb : RSs C X body m)
    (hs : ∀ x, foldedSetIterable iter X.env x = pure x := by intro _; rfl) : RS C X (.For tg iter body [] pos) (sFor it g m) := fun W tk => by
  refine PS_imp (ps_for hp gd.calm (hi W tk) hg.pg (hb W tk) hs) fun D σ H ⟨ι, h, ρ, r, en, p⟩ => ⟨ι, h, ρ, r, en, (SPost.bnd (R := ItOk C) r en p).mono fun J H1 ⟨ι1, h1, items, r1, e1, x1, p1⟩ => ?_⟩
  refine ⟨fun i m' σ' H' => ∃ ι2 h2 ρ2, Ext ι1 h1.length H1 ι2 h2.length H' ∧ Rep C ι2 h2 H' ∧ EnR C ι2 h2.length H' ρ2 σ' ∧ SPost C ι2 h2 H' D W (sIter items g m m' i ρ2 h2), ⟨fuel, ι1, h1, ρ, Ext.refl, r1, en.ext r e1, p1⟩, ?_⟩
  rintro i m' σ2 H2 ⟨ι2, h2, ρ2, e2, r2, en2, p2⟩
  cases m' with
  | zero => exact p2.elim
  | succ k =>
    unfold sIter at p2
    cases z : items h2 with
    | none => simp only [z] at p2; exact p2.elim
    | some ys =>
      simp only [z] at p2
      obtain ⟨w1, w2⟩ := x1 ι2 h2 H2 e2 r2 i ys z
      cases z2 : ys[i]? with
      | none =>
        rw [z2] at p2
        exact .inl ⟨w2 z2, p2 ι2 H2 σ2 Ext.refl r2 en2⟩
      | some x =>
        rw [z2] at p2
        obtain ⟨go, yl⟩ := w1 x z2
        refine .inr ⟨go, fun σ' H' => ∃ ι3 h3 ρ3, Ext ι1 h1.length H1 ι3 h3.length H' ∧ Rep C ι3 h3 H' ∧ EnR C ι3 h3.length H' ρ3 σ' ∧ SPost C ι3 h3 H' D W (sIter items g m k (i + 1) ρ3 h3), fun σ' H' q => ⟨k, Nat.lt_succ_self _, q⟩, fun v H3 y => ?_⟩
        obtain ⟨e3, r3, xv⟩ := yl v H3 y
        dsimp only at p2
        cases z3 : g x ρ2 with
        | none => simp only [z3] at p2; exact p2.elim
        | some ρ1 =>
          simp only [z3] at p2
          refine hg.ok ι2 h2 H3 ρ2 ρ1 σ2 x v _ r3 (en2.ext r2 e3) xv z3 fun σ' en' _ => ⟨ι2, h2, ρ1, r3, en', ?_⟩
          cases z4 : m ρ1 h2 with
          | nx ρ' h' => rw [z4] at p2; exact fun ι4 H4 σ4 e4 r4 en4 => ⟨ι4, h', ρ', e2.trans (e3.trans e4), r4, en4, SPost.shift (h := h2) (h' := h') p2 (e3.trans e4)⟩
          | ct ρ' h' => rw [z4] at p2; exact fun ι4 H4 σ4 e4 r4 en4 => ⟨ι4, h', ρ', e2.trans (e3.trans e4), r4, en4, SPost.shift (h := h2) (h' := h') p2 (e3.trans e4)⟩
          | brk ρ' h' => rw [z4] at p2; exact fun ι4 H4 σ4 e4 r4 en4 => p2 ι4 H4 σ4 (e3.trans e4) r4 en4
          | ret v' h' => rw [z4] at p2; exact fun ι4 H4 v4 e4 r4 x4 => p2 ι4 H4 v4 (e3.trans e4) r4 x4
          | exc e' ρ' h' => rw [z4] at p2; exact fun ι4 H4 σ4 c4 d4 e4 r4 en4 x4 => p2 ι4 H4 σ4 c4 d4 (e3.trans e4) r4 en4 x4
          | bad => rw [z4] at p2; exact p2.elim
theorem rs_while {c : Expr} {body : List Stmt} {t : BB} {m : SS} {pos : Pos} (hp : PassesOwn (model X.prog X.w) X.A X.env X.xe) (hc : RT C X c t) (hb : RSs C X body m) : RS C X (.While c body [] pos) (sWhile t m) := fun W tk => by
  refine PS_imp (ps_while hp (hc W tk) (hb W tk)) fun D σ H ⟨ι, h, ρ, r, en, p⟩ => ?_
  refine ⟨fun n σ' H' => ∃ ι2 h2 ρ2, Ext ι h.length H ι2 h2.length H' ∧ Rep C ι2 h2 H' ∧ EnR C ι2 h2.length H' ρ2 σ' ∧ SPost C ι2 h2 H' D W (sWhileN t m n ρ2 h2), ⟨fuel, ι, h, ρ, Ext.refl, r, en, p⟩, ?_⟩
  rintro n σ2 H2 ⟨ι2, h2, ρ2, e2, r2, en2, p2⟩
  cases n with
  | zero => exact p2.elim
  | succ k =>
    unfold sWhileN at p2
    refine ⟨ι2, h2, ρ2, r2, en2, (SPost.bnd (R := rB) r2 en2 p2).mono fun b H3 ⟨ι3, h3, b', r3, e3, x3, p3⟩ => ?_⟩
    cases x3
    by_cases z : b = true
    · rw [if_pos z] at p3 ⊢
      refine ⟨fun σ' H' => ∃ ι4 h4 ρ4, Ext ι h.length H ι4 h4.length H' ∧ Rep C ι4 h4 H' ∧ EnR C ι4 h4.length H' ρ4 σ' ∧ SPost C ι4 h4 H' D W (sWhileN t m k ρ4 h4), fun σ' H' q => ⟨k, Nat.lt_succ_self _, q⟩, ι3, h3, ρ2, r3, en2.ext r2 e3, ?_⟩
      cases z4 : m ρ2 h3 with
      | nx ρ' h' => rw [z4] at p3; exact fun ι4 H4 σ4 e4 r4 en4 => ⟨ι4, h', ρ', e2.trans (e3.trans e4), r4, en4, SPost.shift (h := h3) (h' := h') p3 e4⟩
      | ct ρ' h' => rw [z4] at p3; exact fun ι4 H4 σ4 e4 r4 en4 => ⟨ι4, h', ρ', e2.trans (e3.trans e4), r4, en4, SPost.shift (h := h3) (h' := h') p3 e4⟩
      | brk ρ' h' => rw [z4] at p3; exact p3
      | ret v' h' => rw [z4] at p3; exact p3
      | exc e' ρ' h' => rw [z4] at p3; exact p3
      | bad => rw [z4] at p3; exact p3.elim
    · rw [if_neg z] at p3 ⊢
      exact p3 ι3 H3 σ2 Ext.refl r3 (en2.ext r2 e3)

/-! ### list comprehensions -/
def RTs (C : Cz) (X : Cx) (ifs : List Expr) (m : BB) : Prop := ∀ W, Takes X W → PTs X ifs (tT C m W)
theorem PTs_imp {X : Cx} {e : List Expr} {t t' : TT} (p : PTs X e t) (k : ∀ σ H Q, t' σ H Q → t σ H Q) : PTs X e t' := ⟨fun pins s σ H Q I q => p.run pins s σ H Q I (k σ H Q q)⟩
theorem rts_nil : RTs C X [] PA.tYes := fun W tk => PTs_imp pts_nil fun σ H Q ⟨ι, h, ρ, r, en, p⟩ => p ι H true Ext.refl r rfl
theorem rts_one {c : Expr} {m : BB} (h : RT C X c m) : RTs C X [c] m := fun W tk => pts_one (h W tk)
abbrev WF : WX := fun _ _ _ _ => False
theorem EnR.wipe {ι : Nat → Addr} {n : Nat} {H : Hp} {ρ : PA.Env} {σ : L2.St} (en : EnR C ι n H ρ σ) : ∀ vs, EnR C ι n H (wipeA ρ vs) (L2.wipe σ vs)
  | [] => en
  | v :: vs => by
    obtain ⟨h1, h2⟩ := EnR.wipe en vs
    refine ⟨by simp [wipeA, L2.wipe, h1], fun i a e => ?_⟩
    unfold wipeA at e
    unfold L2.wipe
    by_cases z : v = i
    · subst z
      by_cases q : v < (wipeA ρ vs).length
      · rw [List.getElem?_set_self q] at e; cases e
      · rw [List.getElem?_eq_none (by simpa using q)] at e; cases e
    · rw [List.getElem?_set_ne z] at e
      rw [List.getElem?_set_ne z]
      exact h2 i a e
theorem rm_lc {elt tg iter : Expr} {ifs : List Expr} {scope : Scope} {own : List (Str × Nat)} {pos : Pos} {it : II} {g : Tg} {g' : TG} {is : List Nat} {t : BB} {e : EE} (gd : Gd C X j) (hi : RI C X tg iter it) (ok : BlkOk X.N X.env.scope scope own)
    (hg : ∀ (s : Shared) (H : Hp) (c : Addr) (cl : List (Str × Addr)) (fp : List Addr), RG C (X.blk s H scope (compEnvC scope cl c X.env) fp) tg g g' is)
    (ht : ∀ (s : Shared) (H : Hp) (c : Addr) (cl : List (Str × Addr)) (fp : List Addr), Gd C (X.blk s H scope (compEnvC scope cl c X.env) fp) j → RTs C (X.blk s H scope (compEnvC scope cl c X.env) fp) ifs t)
    (he : ∀ (s : Shared) (H : Hp) (c : Addr) (cl : List (Str × Addr)) (fp : List Addr), Gd C (X.blk s H scope (compEnvC scope cl c X.env) fp) j → RE C (X.blk s H scope (compEnvC scope cl c X.env) fp) elt e)
    (hin : ∀ i ∈ is, i ∈ own.map (·.2) := by decide) (hs : ∀ x, foldedSetIterable iter X.env x = pure x := by intro _; rfl) :
    RM C X (.ListComp elt [⟨tg, iter, ifs, 0⟩] scope pos) (lComp it g t e (own.map (·.2))) := fun W tk => by
  have gb : ∀ (s : Shared) (H : Hp) (c : Addr) (cl : List (Str × Addr)) (fp : List Addr), Gd C (X.blk s H scope (compEnvC scope cl c X.env) fp) j := fun _ _ _ _ _ => ⟨gd.hP, gd.hw, gd.hK, gd.hm, gd.hb, gd.calm, gd.nd, gd.room⟩
  refine PE_imp (pe_lc (tt := tT C t WF) (te := tE C e WF) gd.calm gd.nd (hi W tk) ok (fun s H c cl fp => (hg s H c cl fp).pg) (fun s H c cl fp => ht s H c cl fp (gb s H c cl fp) WF takes0) (fun s H c cl fp => he s H c cl fp (gb s H c cl fp) WF takes0) hs) ?_
  intro σ H Q ⟨ι, h, ρ, r, en, Z, hZ, p⟩
  refine ⟨ι, h, ρ, r, en, (GPost.bnd (R := ItOk C) p).mono fun J H1 ⟨ι1, h1, items, r1, e1, x1, p1⟩ => ?_⟩
  intro D hD
  have nZ : ¬ Z D := fun z => e1.dom D (hZ D z) hD
  have tokG : TgOk C g' g is := (hg { } H 0 [] []).ok
  refine ⟨fun i m H2 => ∃ ι2 h2 acc vs, Ext ι1 h1.length H1 ι2 h2.length H2 ∧ Rep C ι2 h2 H2 ∧ H2 D = some (.lst vs) ∧ AvRs C ι2 h2.length H2 acc vs ∧ (∀ l, l < h2.length → ι2 l ≠ D) ∧ GPost C (rTmp C Z) ι1 h1 H1 Q (fun c d H' => W c d σ H') (lcIter items g t e (wipeA ρ (own.map (·.2))) m i acc h2),
    ⟨fuel, ι1, h1, [], [], Ext.laid r1 hD, r1.laid hD, upd_same, .nil, fun l hl => r1.off hD hl, p1⟩, ?_⟩
  rintro i m H2 ⟨ι2, h2, acc, vs, e2, r2, hv, av, off, p2⟩
  cases m with
  | zero => exact p2.elim
  | succ k =>
    unfold lcIter at p2
    cases z : items h2 with
    | none => simp only [z] at p2; exact p2.elim
    | some ys =>
      simp only [z] at p2
      obtain ⟨w1, w2⟩ := x1 ι2 h2 H2 e2 r2 i ys z
      cases z2 : ys[i]? with
      | none =>
        simp only [z2] at p2
        exact .inl ⟨w2 z2, p2 ι2 H2 _ e2 r2 ⟨D, vs, rfl, hv, av, off, nZ⟩⟩
      | some x =>
        simp only [z2] at p2
        obtain ⟨go, yl⟩ := w1 x z2
        refine .inr ⟨go, fun H3 => ∃ ι2 h2 acc vs, Ext ι1 h1.length H1 ι2 h2.length H3 ∧ Rep C ι2 h2 H3 ∧ H3 D = some (.lst vs) ∧ AvRs C ι2 h2.length H3 acc vs ∧ (∀ l, l < h2.length → ι2 l ≠ D) ∧ GPost C (rTmp C Z) ι1 h1 H1 Q (fun c d H' => W c d σ H') (lcIter items g t e (wipeA ρ (own.map (·.2))) k (i + 1) acc h2), fun H3 q => ⟨k, Nat.lt_succ_self _, q⟩, fun v H3 y => ?_⟩
        obtain ⟨e3, r3, xv⟩ := yl v H3 y
        cases z3 : g x (wipeA ρ (own.map (·.2))) with
        | none => simp only [z3] at p2; exact p2.elim
        | some ρ1 =>
          simp only [z3] at p2
          have en3 : EnR C ι2 h2.length H3 (wipeA ρ (own.map (·.2))) (L2.wipe σ (own.map (·.2))) := ((en.ext r e1).ext r1 (e2.trans e3)).wipe _
          have keepD : ∀ {ι5 : Nat → Addr} {h5 : PA.Heap} {H5 : Hp}, Ext ι2 h2.length H2 ι5 h5.length H5 → H5 D = some (.lst vs) ∧ ∀ l, l < h5.length → ι5 l ≠ D := fun {ι5 h5 H5} e5 => by
            refine ⟨e5.frame _ _ hv (fun _ z => nomatch z) off, fun l hl zl => ?_⟩
            by_cases q : l < h2.length
            · exact off l q ((e5.agree l q).symm.trans zl)
            · have f := e5.fresh l (Nat.le_of_not_lt q) hl
              rw [zl, hv] at f
              cases f
          refine tokG ι2 h2 H3 _ ρ1 _ x v _ r3 en3 xv z3 fun σ' en' wp => ⟨?_, ι2, h2, ρ1, r3, en', ?_⟩
          · have idem : ∀ ws : List Nat, L2.wipe (L2.wipe σ ws) ws = L2.wipe σ ws := by
              intro ws
              apply List.ext_getElem?
              intro q
              have key : ∀ (τ : L2.St) (us : List Nat), (L2.wipe τ us)[q]? = if q ∈ us then (τ[q]?).map (fun _ => none) else τ[q]? := by
                intro τ us
                induction us with
                | nil => simp [L2.wipe]
                | cons u us ih =>
                  unfold L2.wipe
                  by_cases zz : u = q
                  · subst zz
                    rw [if_pos List.mem_cons_self]
                    by_cases hq : u < τ.length
                    · rw [List.getElem?_set_self (by rw [wipe_length]; exact hq)]
                      simp [hq]
                    · rw [List.getElem?_eq_none (by rw [List.length_set, wipe_length]; omega), List.getElem?_eq_none (by omega)]
                      rfl
                  · rw [List.getElem?_set_ne zz, ih]
                    by_cases hm : q ∈ us
                    · rw [if_pos hm, if_pos (List.mem_cons_of_mem _ hm)]
                    · rw [if_neg hm, if_neg (fun hh => (List.mem_cons.mp hh).elim (fun e => zz e.symm) hm)]
              rw [key, key]
              by_cases hm : q ∈ ws
              · rw [if_pos hm, if_pos hm]; cases σ[q]? <;> rfl
              · rw [if_neg hm, if_neg hm]
            exact (wp _ hin).trans (idem _)
          cases z4 : t ρ1 h2 with
          | bad => simp only [z4] at p2; exact p2.elim
          | exc e' h' => simp only [z4] at p2; exact p2.elim
          | ok b h4 =>
            rw [z4] at p2
            intro ι4 H4 b' e4 r4 eb
            cases eb
            cases b with
            | false =>
              rw [if_neg Bool.false_ne_true]
              obtain ⟨k1, k2⟩ := keepD (e3.trans e4)
              exact ⟨ι4, h4, acc, vs, e2.trans (e3.trans e4), r4, k1, r2.avs (e3.trans e4) av, k2, p2⟩
            | true =>
              rw [if_pos rfl]
              refine ⟨ι4, h4, ρ1, r4, en'.ext r3 e4, ?_⟩
              dsimp only at p2
              cases z5 : e ρ1 h4 with
              | bad => simp only [z5] at p2; exact p2.elim
              | exc e' h' => simp only [z5] at p2; exact p2.elim
              | ok y h5 =>
                simp only [z5] at p2
                intro ι5 H5 w e5 r5 xw
                obtain ⟨k1, k2⟩ := keepD (e3.trans (e4.trans e5))
                have av5 := r2.avs (e3.trans (e4.trans e5)) av
                by_cases zl : acc.length < szl
                · rw [if_pos zl] at p2
                  refine ⟨vs, k1, by rw [← av.length]; exact zl, ι5, h5, acc ++ [y], vs ++ [w], (e2.trans (e3.trans (e4.trans e5))).side hD, r5.side k1 k2, upd_same, ?_, k2, p2⟩
                  exact (av5.append (.cons xw .nil)).map (fun _ _ => side_sqT k1) (Nat.le_refl _) fun _ _ => rfl
                · rw [if_neg zl] at p2; exact p2.elim
end
end PL
set_option maxRecDepth 100000
set_option maxHeartbeats 2000000
/-! Lift7: built-ins, lists' methods, stores. -/
namespace PL
open PySem PySem.Spec PyProof.Rows L2 PA
section
variable {C : Cz} {X : Cx} {j : Nat}
theorem chg_lst {ι : Nat → Addr} {h : PA.Heap} {H : Hp} {l : Nat} {xs ys : List AV} {ws : List V} (r : Rep C ι h H) (e : h[l]? = some (.lst xs)) (q : AvRs C ι h.length H ys ws) :
    Ext ι h.length H ι (h.set l (.lst ys)).length (upd H (ι l) (.lst ws)) ∧ Rep C ι (h.set l (.lst ys)) (upd H (ι l) (.lst ws)) := by
  have hl := (List.getElem?_eq_some_iff.mp e).1
  obtain ⟨vs, hv, _⟩ := lst_at r e
  have nf : ∀ o u, H (ι l) ≠ some (.frz o u) := fun o u z => by rw [hv] at z; cases z
  have ex := Ext.chg (u := .lst ws) r hl nf
  exact ⟨by rw [List.length_set]; exact ex, r.chg hl nf ⟨ws, upd_same, r.avs ex q⟩⟩
theorem loc_of {ι : Nat → Addr} {n : Nat} {H : Hp} {l : Nat} {x : V} (xa : AvR C ι n H (.loc l) x) : x = .ref (ι l) ∧ l < n := by
  cases xa with | loc hl => exact ⟨rfl, hl⟩

/-! ### built-ins by their names -/
def CrA (C : Cz) (X : Cx) (f : Value) (B : FF) : Prop := CallR X f (fun vs H Q => ∃ ι h as W, Rep C ι h H ∧ AvRs C ι h.length H as vs ∧ GPost C (AvR C) ι h H Q W (B as h))
theorem re_callB {x : Str} {id : String} {B : FF} {e : Expr} {es : List Expr} {l : LL} {p pos : Pos} (g : Gd C X j) (cr : CrA C X (.builtin id) B) (hm : C.mg x = none) (hv : bootBuiltins x = some (.builtin id)) (hl : RL C X (e :: es) l) (hg : Gl X x := by rfl)
    (hn : x ≠ "__name__" := by decide) (hdb : (x == ("__debug__" : Str)) = false := by decide) (he : starEach (e :: es) X.env = (false, eval e X.env) :: starEach es X.env := by rfl) (hpl : (backTo pos (starEach es X.env)).any (·.1) = false := by rfl) :
    RE C X (.Call (.Name x p) (e :: es) [] pos) (eCall B l) := fun W tk =>
  PE_imp (pe_callB cr hg (by rw [g.hm]; exact hm) hv (hl W tk) hn hdb he hpl) fun σ H Q ⟨ι, h, ρ, r, en, p⟩ => ⟨ι, h, ρ, r, en, (GPost.bnd (R := AvRs C) p).mono fun xs H1 ⟨ι1, h1, as, r1, e1, x1, p1⟩ => ⟨ι1, h1, as, _, r1, x1, p1⟩⟩
theorem re_callTy {x : Str} {T : String} {B : FF} {e : Expr} {es : List Expr} {l : LL} {p pos : Pos} (g : Gd C X j) (cr : CrA C X (.type T) B) (hm : C.mg x = none) (hv : bootBuiltins x = some (.type T)) (hl : RL C X (e :: es) l) (hg : Gl X x := by rfl)
    (hn : x ≠ "__name__" := by decide) (hdb : (x == ("__debug__" : Str)) = false := by decide) (he : starEach (e :: es) X.env = (false, eval e X.env) :: starEach es X.env := by rfl) (hpl : (backTo pos (starEach es X.env)).any (·.1) = false := by rfl) :
    RE C X (.Call (.Name x p) (e :: es) [] pos) (eCall B l) := fun W tk =>
  PE_imp (pe_callTy cr hg (by rw [g.hm]; exact hm) hv (hl W tk) hn hdb he hpl) fun σ H Q ⟨ι, h, ρ, r, en, p⟩ => ⟨ι, h, ρ, r, en, (GPost.bnd (R := AvRs C) p).mono fun xs H1 ⟨ι1, h1, as, r1, e1, x1, p1⟩ => ⟨ι1, h1, as, _, r1, x1, p1⟩⟩
theorem cr_int : CrA C X (.type "int") bInt := by
  intro pins s σ H xs us Q I rv ⟨ι, h, as, W, r, x, p⟩
  cases x with
  | nil => exact p.elim
  | cons a b =>
    cases b with
    | cons _ _ => cases a <;> exact p.elim
    | nil =>
      cases a with
      | int i => exact call_int1 pins s σ H _ us Q I rv (.inl ⟨i, rfl, p ι H _ Ext.refl r (.int _)⟩)
      | bl i => exact call_int1 pins s σ H _ us Q I rv (.inr ⟨i, rfl, p ι H _ Ext.refl r (.int _)⟩)
      | _ => exact p.elim
theorem cr_strI : CrA C X (.type "str") bStrI := by
  intro pins s σ H xs us Q I rv ⟨ι, h, as, W, r, x, p⟩
  cases x with
  | nil => exact p.elim
  | cons a b =>
    cases b with
    | cons _ _ => cases a <;> exact p.elim
    | nil =>
      cases a with
      | int i =>
        unfold bStrI at p
        dsimp only at p
        by_cases z : i.natAbs.log2 < 1920
        · rw [if_pos z] at p
          exact call_str_int pins s σ H _ us Q I rv ⟨i, rfl, z, p ι H _ Ext.refl r (.str _)⟩
        · rw [if_neg z] at p; exact p.elim
      | _ => exact p.elim
theorem cr_max2 (g : Gd C X j) : CrA C X (.builtin "max") bMax2 := by
  intro pins s σ H xs us Q I rv ⟨ι, h, as, W, r, x, p⟩
  cases x with
  | nil => exact p.elim
  | cons a b =>
    cases b with
    | nil => cases a <;> exact p.elim
    | cons a2 b =>
      cases b with
      | cons _ _ => cases a <;> cases a2 <;> exact p.elim
      | nil =>
        cases a with
        | int i =>
          cases a2 with
          | int k => exact call_max2 g.calm pins s σ H _ us Q I rv ⟨i, k, rfl, p ι H _ Ext.refl r (.int _)⟩
          | _ => exact p.elim
        | _ => exact p.elim
theorem cr_tuple (g : Gd C X j) : CrA C X (.type "tuple") bTuple := by
  intro pins s σ H xs us Q I rv ⟨ι, h, as, W, r, x, p⟩
  cases x with
  | nil => exact p.elim
  | cons a b =>
    cases b with
    | cons _ _ => exact p.elim
    | nil =>
      rename_i a0 v0 
      unfold bTuple at p
      dsimp only at p
      cases e : seqOf h a0 with
      | none => rw [e] at p; exact p.elim
      | some ys =>
        rw [e] at p
        obtain ⟨q, vs, rfl, sq, av⟩ := seq_of r a e
        rcases sq with sq | sq
        · refine call_tuple_of pins s σ H _ us Q I rv ⟨q, vs, rfl, .inr ⟨by rw [g.hK]; exact sq, p ι H _ Ext.refl r (.tup sq av)⟩⟩
        · exact call_tuple_of pins s σ H _ us Q I rv ⟨q, vs, rfl, .inl ⟨by rw [g.hK]; exact sq, fun l hl => laid_tup r av p hl⟩⟩
theorem cr_list (g : Gd C X j) : CrA C X (.type "list") bList := by
  intro pins s σ H xs us Q I rv ⟨ι, h, as, W, r, x, p⟩
  cases x with
  | nil => exact p.elim
  | cons a b =>
    cases b with
    | cons _ _ => exact p.elim
    | nil =>
      rename_i a0 v0 
      unfold bList at p
      dsimp only at p
      cases e : seqOf h a0 with
      | none => rw [e] at p; exact p.elim
      | some ys =>
        rw [e] at p
        obtain ⟨q, vs, rfl, sq, av⟩ := seq_of r a e
        exact call_list_of pins s σ H _ us Q I rv ⟨q, vs, rfl, by rw [g.hK]; exact sq.elim .inr .inl, fun l hl => grow_lst r av p hl⟩
theorem dct_of {ι : Nat → Addr} {h : PA.Heap} {H : Hp} {a : AV} {v : V} {kvs : List (AV × AV)} (r : Rep C ι h H) (x : AvR C ι h.length H a v) (e : dctOf h a = some kvs) :
    ∃ q ks, v = .ref q ∧ Rd H q (.dK ks) ∧ KsR C ι h.length H kvs ks := by
  cases x with
  | @loc l hl =>
    unfold dctOf at e
    dsimp only at e
    cases z : h[l]? with
    | none => rw [z] at e; cases e
    | some o =>
      rw [z] at e
      cases o with
      | dct ys => cases e; obtain ⟨ks, e1, e2⟩ := r.at_ l _ z; exact ⟨_, ks, rfl, .inl e1, e2⟩
      | lck ys => cases e; obtain ⟨o, ks, e1, e2⟩ := r.at_ l _ z; exact ⟨_, ks, rfl, .inr ⟨o, e1⟩, e2⟩
      | lst ys => cases e
      | ins c fs => cases e
  | _ => cases e
theorem dctU_of {ι : Nat → Addr} {h : PA.Heap} {H : Hp} {a : AV} {v : V} {kvs : List (AV × AV)} (r : Rep C ι h H) (x : AvR C ι h.length H a v) (e : dctU h a = some kvs) :
    ∃ q ks, v = .ref q ∧ H q = some (.dK ks) ∧ KsR C ι h.length H kvs ks := by
  cases x with
  | @loc l hl =>
    unfold dctU at e
    dsimp only at e
    cases z : h[l]? with
    | none => rw [z] at e; cases e
    | some o =>
      rw [z] at e
      cases o with
      | dct ys => cases e; obtain ⟨ks, e1, e2⟩ := r.at_ l _ z; exact ⟨_, ks, rfl, e1, e2⟩
      | lck ys => cases e
      | lst ys => cases e
      | ins c fs => cases e
  | _ => cases e
theorem KsR.length {ι : Nat → Addr} {n : Nat} {H : Hp} {kvs : List (AV × AV)} {ks : List (Key × V)} (r : KsR C ι n H kvs ks) : kvs.length = ks.length := by
  induction r with
  | nil => rfl
  | int _ _ ih => simp [ih]
  | str _ _ ih => simp [ih]
theorem tyx_of {ι : Nat → Addr} {h : PA.Heap} {H : Hp} {a : AV} {v : V} {t : String} (g : Gd C X j) (r : Rep C ι h H) (x : AvR C ι h.length H a v) (e : tyOf h a = some t) : TyX X.K H v (.type t) := by
  cases x with
  | non => cases e; exact .base .non
  | bl b => cases e; exact .base (.bl b)
  | int b => cases e; exact .base (.int b)
  | str b => cases e; exact .base (.str b)
  | tup t q =>
    cases e
    rw [g.hK]
    rcases t with (t | ⟨o, t⟩) | ⟨o, its, n, h1, h2, _⟩
    · exact .base (.tup t)
    · exact .fTuple t
    · exact .kTuple h1 h2
  | @loc l hl =>
    unfold tyOf at e
    dsimp only at e
    cases z : h[l]? with
    | none => rw [z] at e; cases e
    | some o =>
      rw [z] at e
      cases o with
      | lst ys => cases e; obtain ⟨vs, e1, _⟩ := lst_at r z; exact .base (.lst e1)
      | dct ys => cases e; obtain ⟨ks, e1, e2⟩ := r.at_ l _ z; exact .base (.dK e1)
      | lck ys => cases e; obtain ⟨o, ks, e1, e2⟩ := r.at_ l _ z; exact .fDict e1
      | ins c fs => cases e
  | gl _ => cases e
  | ty _ => cases e
theorem kit_all {t T : String} (ht : ["NoneType", "bool", "int", "str", "tuple", "list", "dict"].contains t = true) (hT : ["int", "bool", "str", "tuple", "dict", "list"].contains T = true) : kitB t T = some (t == T || (t == "bool" && T == "int")) := by
  have h : (["NoneType", "bool", "int", "str", "tuple", "list", "dict"].all fun t => ["int", "bool", "str", "tuple", "dict", "list"].all fun T => decide (kitB t T = some (t == T || (t == "bool" && T == "int")))) = true := by decide +kernel
  rw [List.all_eq_true] at h
  have h2 := h t (List.contains_iff_mem.mp ht)
  rw [List.all_eq_true] at h2
  exact of_decide_eq_true (h2 T (List.contains_iff_mem.mp hT))
theorem tyOf_in {h : PA.Heap} {a : AV} {t : String} (e : tyOf h a = some t) : ["NoneType", "bool", "int", "str", "tuple", "list", "dict"].contains t = true := by
  unfold tyOf at e
  cases a with
  | loc l =>
    dsimp only at e
    cases z : h[l]? with
    | none => rw [z] at e; cases e
    | some o => rw [z] at e; cases o <;> first | (cases e; done) | (cases e; decide)
  | _ => first | (cases e; done) | (cases e; decide)
theorem cr_isi (g : Gd C X j) : CrA C X (.builtin "isinstance") bIsi := by
  intro pins s σ H xs us Q I rv ⟨ι, h, as, W, r, x, p⟩
  cases x with
  | nil => exact p.elim
  | cons a b =>
    cases b with
    | nil => exact p.elim
    | cons a2 b =>
      cases b with
      | cons _ _ => exact (by cases a2 <;> exact p.elim)
      | nil =>
        cases a2 with
        | ty T =>
          rename_i a0 v0
          unfold bIsi at p
          dsimp only at p
          cases e : tyOf h a0 with
          | none => rw [e] at p; exact p.elim
          | some t =>
            rw [e] at p
            dsimp only at p
            by_cases z : (["int", "bool", "str", "tuple", "dict", "list"].contains T) = true
            · rw [if_pos z] at p
              exact call_isi pins s σ H _ us Q I rv ⟨_, _, _, _, _, rfl, .ty T, tyx_of g r a e, kit_ty (kit_all (tyOf_in e) z), p ι H _ Ext.refl r (.bl _)⟩
            · rw [if_neg z] at p; exact p.elim
        | _ => exact p.elim
theorem seq_none_str {h : PA.Heap} {s : Str} : seqOf h (.str s) = none := rfl
theorem cr_len (g : Gd C X j) : CrA C X (.builtin "len") bLen := by
  intro pins s σ H xs us Q I rv ⟨ι, h, as, W, r, x, p⟩
  cases x with
  | nil => exact p.elim
  | cons a b =>
    cases b with
    | cons _ _ => cases a <;> exact p.elim
    | nil =>
      rename_i a0 v0
      have go : GPost C (AvR C) ι h H Q W (match seqOf h a0 with
        | some xs => .ok (.int xs.length) h
        | none => match dctU h a0 with
          | some kvs => .ok (.int kvs.length) h
          | none => .bad) → wpAny (model X.prog X.w) X.A (PySem.call (.builtin "len") us) (EP X pins σ Q) X.xe s := fun p => by
        cases e : seqOf h a0 with
        | some ys =>
          rw [e] at p
          dsimp only at p
          obtain ⟨q, vs, rfl, sq, av⟩ := seq_of r a e
          refine call_len_seq pins s σ H _ us Q I rv ⟨q, vs, rfl, by rw [g.hK]; exact sq.elim .inr .inl, ?_⟩
          rw [← av.length]
          exact p ι H _ Ext.refl r (.int _)
        | none =>
          rw [e] at p
          dsimp only at p
          cases e2 : dctU h a0 with
          | none => rw [e2] at p; exact p.elim
          | some kvs =>
            rw [e2] at p
            dsimp only at p
            obtain ⟨q, ks, rfl, rd, kr⟩ := dctU_of r a e2
            refine call_lenD pins s σ H _ us Q I rv ⟨q, ks, rfl, rd, ?_⟩
            rw [← KsR.length kr]
            exact p ι H _ Ext.refl r (.int _)
      cases a with
      | str z =>
        unfold bLen at p
        dsimp only at p
        by_cases hz : z.length ≤ szl
        · rw [if_pos hz] at p
          exact call_len_str pins s σ H _ us Q I rv ⟨z, rfl, hz, p ι H _ Ext.refl r (.int _)⟩
        · rw [if_neg hz] at p; exact p.elim
      | non => exact p.elim
      | bl _ => exact p.elim
      | int _ => exact p.elim
      | gl _ => exact p.elim
      | ty _ => exact p.elim
      | tup t q => exact go p
      | loc hl => exact go p
end
end PL
set_option maxRecDepth 100000
set_option maxHeartbeats 2000000
/-! Lift8: made lists, lists' methods, texts, stores. -/
namespace PL
open PySem PySem.Spec PyProof.Rows L2 PA
section
variable {C : Cz} {X : Cx} {j : Nat}
/-! ### made lists -/
/-- kept: it becomes a list of ours -/
theorem re_keep {e : Expr} {m : LL} (h : RM C X e m) : RE C X e (eKeep m) := fun W tk =>
  PE_imp (h W tk) fun σ H Q ⟨ι, h, ρ, r, en, p⟩ => ⟨ι, h, ρ, r, en, (fun p => H p ≠ none), fun _ z => z, by
    unfold eKeep PA.bnd at p
    cases e : m ρ h with
    | bad => rw [e] at p; exact p.elim
    | exc e' h' => rw [e] at p; exact p
    | ok xs h' =>
      rw [e] at p
      intro ι1 H1 v e1 r1 ⟨q, vs, ev, hq, av, off, nz⟩
      subst ev
      have hn : H q = none := Classical.byContradiction nz
      have e2 : Ext ι h.length H (put1 ι1 h'.length q) (h' ++ [AO.lst xs]).length H1 := by
        rw [List.length_append, List.length_singleton]
        refine ⟨Nat.le_succ_of_le e1.le, fun l hl => (put1_lt (Nat.lt_of_lt_of_le hl e1.le)).trans (e1.agree l hl), e1.frame, fun l a b => ?_, e1.dom, e1.frz⟩
        by_cases z : l < h'.length
        · rw [put1_lt z]; exact e1.fresh l a z
        · have : l = h'.length := by omega
          subst this
          rw [put1_same]; exact hn
      have ag : ∀ l, l < h'.length → put1 ι1 h'.length q l = ι1 l := fun l hl => put1_lt hl
      have r2 : Rep C (put1 ι1 h'.length q) (h' ++ [AO.lst xs]) H1 := by
        refine ⟨fun l o eo => ?_, fun l l' a b eq => ?_, r1.scr⟩
        · rw [List.length_append, List.length_singleton]
          by_cases z : l < h'.length
          · rw [List.getElem?_append_left z] at eo
            rw [put1_lt z]
            have := r1.at_ l o eo
            have step : Ext ι1 h'.length H1 (put1 ι1 h'.length q) (h'.length + 1) H1 ∨ True := .inr trivial
            cases o with
            | lst ys => obtain ⟨ws, w1, w2⟩ := this; exact ⟨ws, w1, w2.map (fun _ _ t => t) (Nat.le_succ _) ag⟩
            | dct ys => obtain ⟨ws, w1, w2⟩ := this; exact ⟨ws, w1, w2.map (fun _ _ t => t) (Nat.le_succ _) ag⟩
            | lck ys => obtain ⟨o, ws, w1, w2⟩ := this; exact ⟨o, ws, w1, w2.map (fun _ _ t => t) (Nat.le_succ _) ag⟩
            | ins c fs =>
              rcases this with ⟨e0, dx, gs, w1, w2⟩ | ⟨names, dx, us, e0, sl, ne, w2⟩
              · exact .inl ⟨e0, dx, gs, w1, w2.map (fun _ _ t => t) (Nat.le_succ _) ag⟩
              · exact .inr ⟨names, dx, us, e0, sl, ne, fun i f x h1 h2 => let ⟨v, e3, e4⟩ := w2 i f x h1 h2; ⟨v, e3, e4.map (fun _ _ t => t) (Nat.le_succ _) ag⟩⟩
          · have hl : l < h'.length + 1 := by have := (List.getElem?_eq_some_iff.mp eo).1; simpa using this
            have : l = h'.length := by omega
            subst this
            rw [List.getElem?_append_right (Nat.le_refl _), Nat.sub_self] at eo
            simp at eo
            subst eo
            rw [put1_same]
            exact ⟨vs, hq, av.map (fun _ _ t => t) (Nat.le_succ _) ag⟩
        · rw [List.length_append, List.length_singleton] at a b
          by_cases z : l < h'.length
          · by_cases z' : l' < h'.length
            · rw [put1_lt z, put1_lt z'] at eq; exact r1.inj l l' z z' eq
            · have : l' = h'.length := by omega
              subst this
              rw [put1_lt z, put1_same] at eq
              exact absurd eq (off l z)
          · have : l = h'.length := by omega
            subst this
            by_cases z' : l' < h'.length
            · rw [put1_lt z', put1_same] at eq
              exact absurd eq.symm (off l' z')
            · omega
      refine p _ H1 (.ref q) e2 r2 ?_
      have t : AvR C (put1 ι1 h'.length q) (h' ++ [AO.lst xs]).length H1 (.loc h'.length) (.ref (put1 ι1 h'.length q h'.length)) := .loc (by simp)
      rw [put1_same] at t
      exact t⟩
/-- what a consumer of a made list sees -/
theorem tmp_bnd {β' : Type} {α' : Type} {R' : RR α' β'} {ι : Nat → Addr} {h : PA.Heap} {H : Hp} {ρ : PA.Env} {σ : L2.St} {W : XK} {Q : β' → Hp → Prop} {m : LL} {k : List AV → PA.Heap → Res α'} (p : GPost C R' ι h H Q W (PA.bnd (m ρ) k h)) :
    GPost C (rTmp C fun _ => False) ι h H (fun b H1 => ∃ ι1 h1 xs, Rep C ι1 h1 H1 ∧ Ext ι h.length H ι1 h1.length H1 ∧ (∃ q vs, b = .ref q ∧ H1 q = some (.lst vs) ∧ AvRs C ι1 h1.length H1 xs vs ∧ ∀ l, l < h1.length → ι1 l ≠ q) ∧ GPost C R' ι1 h1 H1 Q W (k xs h1)) W (m ρ h) :=
  (GPost.bnd (R := rTmp C fun _ => False) p).mono fun b H1 ⟨ι1, h1, xs, r1, e1, ⟨q, vs, eb, hq, av, off, _⟩, p1⟩ => ⟨ι1, h1, xs, r1, e1, ⟨q, vs, eb, hq, av, off⟩, p1⟩
/-- T(made list) -/
theorem re_tyT {x : Str} {T : String} {e : Expr} {l : LL} {p pos : Pos} {k : List AV → PA.Heap → Res AV} (g : Gd C X j) (hm : C.mg x = none) (hv : bootBuiltins x = some (.type T)) (hl : RM C X e l)
    (cr : CallR X (.type T) (fun vs H Q => ∃ ι h xs q ws W, Rep C ι h H ∧ vs = [.ref q] ∧ H q = some (.lst ws) ∧ AvRs C ι h.length H xs ws ∧ GPost C (AvR C) ι h H Q W (k xs h))) (hg : Gl X x := by rfl)
    (hn : x ≠ "__name__" := by decide) (hdb : (x == ("__debug__" : Str)) = false := by decide) (he : starEach [e] X.env = (false, eval e X.env) :: starEach [] X.env := by rfl) (hpl : (backTo pos (starEach [] X.env)).any (·.1) = false := by rfl) :
    RE C X (.Call (.Name x p) [e] [] pos) (fun ρ => bnd (l ρ) k) := fun W tk =>
  PE_imp (pe_callTy cr hg (by rw [g.hm]; exact hm) hv (pa_cons (hl W tk) pa_nil he) hn hdb he hpl) fun σ H Q ⟨ι, h, ρ, r, en, p⟩ => ⟨ι, h, ρ, r, en, _, fun _ z => z.elim, (tmp_bnd (R' := AvR C) (ρ := ρ) (σ := σ) p).mono fun y H1 ⟨ι1, h1, xs, r1, e1, ⟨q, vs, eb, hq, av, off⟩, p1⟩ =>
    ⟨ι1, h1, xs, q, vs, _, r1, by rw [eb], hq, av, p1⟩⟩
theorem re_blT {x : Str} {id : String} {e : Expr} {l : LL} {p pos : Pos} {k : List AV → PA.Heap → Res AV} (g : Gd C X j) (hm : C.mg x = none) (hv : bootBuiltins x = some (.builtin id)) (hl : RM C X e l)
    (cr : CallR X (.builtin id) (fun vs H Q => ∃ ι h xs q ws W, Rep C ι h H ∧ vs = [.ref q] ∧ H q = some (.lst ws) ∧ AvRs C ι h.length H xs ws ∧ GPost C (AvR C) ι h H Q W (k xs h))) (hg : Gl X x := by rfl)
    (hn : x ≠ "__name__" := by decide) (hdb : (x == ("__debug__" : Str)) = false := by decide) (he : starEach [e] X.env = (false, eval e X.env) :: starEach [] X.env := by rfl) (hpl : (backTo pos (starEach [] X.env)).any (·.1) = false := by rfl) :
    RE C X (.Call (.Name x p) [e] [] pos) (fun ρ => bnd (l ρ) k) := fun W tk =>
  PE_imp (pe_callB cr hg (by rw [g.hm]; exact hm) hv (pa_cons (hl W tk) pa_nil he) hn hdb he hpl) fun σ H Q ⟨ι, h, ρ, r, en, p⟩ => ⟨ι, h, ρ, r, en, _, fun _ z => z.elim, (tmp_bnd (R' := AvR C) (ρ := ρ) (σ := σ) p).mono fun y H1 ⟨ι1, h1, xs, r1, e1, ⟨q, vs, eb, hq, av, off⟩, p1⟩ =>
    ⟨ι1, h1, xs, q, vs, _, r1, by rw [eb], hq, av, p1⟩⟩
theorem re_tupOf {e : Expr} {l : LL} {p pos : Pos} (g : Gd C X j) (hm : C.mg "tuple" = none) (hl : RM C X e l) (hg : Gl X "tuple" := by rfl) (he : starEach [e] X.env = (false, eval e X.env) :: starEach [] X.env := by rfl) :
    RE C X (.Call (.Name "tuple" p) [e] [] pos) (eTupOf l) := re_tyT (T := "tuple") g hm (by decide +kernel) hl (by
  intro pins s σ H xs us Q I rv ⟨ι, h, ys, q, ws, W, r, ev, hq, av, p⟩
  subst ev
  exact call_tuple_of pins s σ H _ us Q I rv ⟨q, ws, rfl, .inl ⟨SqL.of hq, fun l hl => laid_tup r av p hl⟩⟩) hg (by decide) (by decide) he
theorem bls_of {ι : Nat → Addr} {n : Nat} {H : Hp} : ∀ {xs : List AV} {ws : List V} {bs : List Bool}, AvRs C ι n H xs ws → blsOf xs = some bs → ws = bs.map V.bl
  | _, _, bs, .nil, e => by cases e; rfl
  | _, _, bs, .cons (x := x) a b, e => by
    cases a with
    | bl k =>
      unfold blsOf at e
      cases z : blsOf _ with
      | none => rw [z] at e; cases e
      | some cs => rw [z] at e; cases e; rw [bls_of b z]; rfl
    | _ => cases e
theorem re_allOf {e : Expr} {l : LL} {p pos : Pos} (g : Gd C X j) (hm : C.mg "all" = none) (hl : RM C X e l) (hg : Gl X "all" := by rfl) (he : starEach [e] X.env = (false, eval e X.env) :: starEach [] X.env := by rfl) :
    RE C X (.Call (.Name "all" p) [e] [] pos) (eAllOf l) := re_blT (id := "all") g hm (by decide +kernel) hl (by
  intro pins s σ H xs us Q I rv ⟨ι, h, ys, q, ws, W, r, ev, hq, av, p⟩
  subst ev
  cases z : blsOf ys with
  | none => rw [z] at p; exact p.elim
  | some bs =>
    rw [z] at p
    have := bls_of av z
    subst this
    exact cr_all g.calm pins s σ H _ us Q I rv ⟨q, bs, rfl, SqL.of hq, p ι H _ Ext.refl r (.bl _)⟩) hg (by decide) (by decide) he
theorem re_anyOf {e : Expr} {l : LL} {p pos : Pos} (g : Gd C X j) (hm : C.mg "any" = none) (hl : RM C X e l) (hg : Gl X "any" := by rfl) (he : starEach [e] X.env = (false, eval e X.env) :: starEach [] X.env := by rfl) :
    RE C X (.Call (.Name "any" p) [e] [] pos) (eAnyOf l) := re_blT (id := "any") g hm (by decide +kernel) hl (by
  intro pins s σ H xs us Q I rv ⟨ι, h, ys, q, ws, W, r, ev, hq, av, p⟩
  subst ev
  cases z : blsOf ys with
  | none => rw [z] at p; exact p.elim
  | some bs =>
    rw [z] at p
    have := bls_of av z
    subst this
    exact cr_any g.calm pins s σ H _ us Q I rv ⟨q, bs, rfl, SqL.of hq, p ι H _ Ext.refl r (.bl _)⟩) hg (by decide) (by decide) he
/-- a display as a made list -/
theorem rm_lst {es : List Expr} {l : LL} {pos : Pos} (hl : RL C X es l) : RM C X (.List es pos) (lDisp l) := fun W tk =>
  PE_imp (pe_lst (hl W tk)) fun σ H Q ⟨ι, h, ρ, r, en, Z, hZ, p⟩ => ⟨ι, h, ρ, r, en, (GPost.bnd (R := AvRs C) p).mono fun xs H1 ⟨ι1, h1, as, r1, e1, x1, p1⟩ => by
    by_cases z : as.length ≤ szl
    · rw [if_pos z] at p1
      refine ⟨by rw [← x1.length]; exact z, fun q hq => ?_⟩
      exact p1 ι1 _ (.ref q) (Ext.laid r1 hq) (r1.laid hq) ⟨q, xs, rfl, upd_same, r1.avs (Ext.laid r1 hq) x1, fun l hl => r1.off hq hl, fun zq => e1.dom q (hZ q zq) hq⟩
    · rw [if_neg z] at p1; exact p1.elim⟩

/-! ### texts -/
theorem strs_of {ι : Nat → Addr} {n : Nat} {H : Hp} : ∀ {xs : List AV} {ws : List V} {bs : List Str}, AvRs C ι n H xs ws → strsOf xs = some bs → ws = bs.map V.str
  | _, _, bs, .nil, e => by cases e; rfl
  | _, _, bs, .cons (x := x) a b, e => by
    cases a with
    | str k =>
      unfold strsOf at e
      cases z : strsOf _ with
      | none => rw [z] at e; cases e
      | some cs => rw [z] at e; cases e; rw [strs_of b z]; rfl
    | _ => cases e
theorem re_joinT {o e : Expr} {mo : EE} {l : LL} {apos pos : Pos} (g : Gd C X j) (ho : RE C X o mo) (hl : RM C X e l) (hs : starEach [e] X.env = [(false, eval e X.env)] := by rfl) (hbase : attributeBase o "join" X.env (eval o X.env) = eval o X.env := by rfl) (hline : (apos.endLine == pos.line) = true := by rfl) :
    RE C X (.Call (.Attribute o "join" apos) [e] [] pos) (eJoinT mo l) := fun W tk =>
  PE_imp (pe_join (ho W tk) (hl W tk) hs hbase hline) fun σ H Q ⟨ι, h, ρ, r, en, p⟩ => ⟨ι, h, ρ, r, en, (GPost.bnd (R := AvR C) p).mono fun x H1 ⟨ι1, h1, a, r1, e1, x1, p1⟩ => by
    have key : ∀ s : Str, a = .str s → x = .str s → (∃ a, x = V.str a) ∧ tM C l W σ H1 fun y H2 => ∃ a p, ∃ ys : List Str, x = .str a ∧ [y] = [.ref p] ∧ (SqL X.K H2 p (ys.map V.str) ∨ SqT X.K H2 p (ys.map V.str)) ∧ (ys.map (·.length)).sum + ys.length * a.length ≤ 16777216 ∧ Q (.str (PySem.Txt.join a ys)) H2 := fun s ea ex => by
      subst ea ex
      refine ⟨⟨s, rfl⟩, ι1, h1, ρ, r1, en.ext r e1, _, fun _ z => z.elim, (tmp_bnd (R' := AvR C) (ρ := ρ) (σ := σ) p1).mono fun y H2 ⟨ι2, h2, xs, r2, e2, ⟨q, vs, eb, hq, av, off⟩, p2⟩ => ?_⟩
      unfold joinS at p2
      cases z : strsOf xs with
      | none => rw [z] at p2; exact p2.elim
      | some ys =>
        rw [z] at p2
        dsimp only at p2
        have ev : vs = ys.map V.str := strs_of av z
        subst ev
        by_cases zz : (ys.map (·.length)).sum + ys.length * s.length ≤ 16777216
        · rw [if_pos zz] at p2
          exact ⟨s, q, ys, rfl, by rw [eb], .inl (SqL.of hq), zz, p2 ι2 H2 _ Ext.refl r2 (.str _)⟩
        · rw [if_neg zz] at p2; exact p2.elim
    cases x1 with
    | str s => exact key s rfl rfl
    | _ => exact p1.elim⟩
end
end PL
set_option maxRecDepth 100000
set_option maxHeartbeats 2000000
/-! Lift9: more texts, lists' methods, stores, dicts. -/
namespace PL
open PySem PySem.Spec PyProof.Rows L2 PA
section
variable {C : Cz} {X : Cx} {j : Nat}
theorem re_join {o e : Expr} {mo me : EE} {apos pos : Pos} (g : Gd C X j) (ho : RE C X o mo) (hl : RE C X e me) (hs : starEach [e] X.env = [(false, eval e X.env)] := by rfl) (hbase : attributeBase o "join" X.env (eval o X.env) = eval o X.env := by rfl) (hline : (apos.endLine == pos.line) = true := by rfl) :
    RE C X (.Call (.Attribute o "join" apos) [e] [] pos) (eJoin mo me) := fun W tk =>
  PE_imp (pe_join (ho W tk) (hl W tk) hs hbase hline) fun σ H Q ⟨ι, h, ρ, r, en, p⟩ => ⟨ι, h, ρ, r, en, (GPost.bnd (R := AvR C) p).mono fun x H1 ⟨ι1, h1, a, r1, e1, x1, p1⟩ => by
    cases x1 with
    | str s =>
      refine ⟨⟨s, rfl⟩, ι1, h1, ρ, r1, en.ext r e1, (GPost.bnd (R := AvR C) p1).mono fun y H2 ⟨ι2, h2, b, r2, e2, x2, p2⟩ => ?_⟩
      cases ze : seqOf h2 b with
      | none => rw [ze] at p2; exact p2.elim
      | some xs =>
        rw [ze] at p2
        dsimp only at p2
        obtain ⟨q, vs, rfl, sq, av⟩ := seq_of r2 x2 ze
        unfold joinS at p2
        cases z : strsOf xs with
        | none => rw [z] at p2; exact p2.elim
        | some ys =>
          rw [z] at p2
          dsimp only at p2
          have ev : vs = ys.map V.str := strs_of av z
          subst ev
          by_cases zz : (ys.map (·.length)).sum + ys.length * s.length ≤ 16777216
          · rw [if_pos zz] at p2
            exact ⟨s, q, ys, rfl, rfl, by rw [g.hK]; exact sq.elim .inr .inl, zz, p2 ι2 H2 _ Ext.refl r2 (.str _)⟩
          · rw [if_neg zz] at p2; exact p2.elim
    | _ => exact p1.elim⟩
theorem avr_strs {ι : Nat → Addr} {n : Nat} {H : Hp} : ∀ ys : List Str, AvRs C ι n H (ys.map AV.str) (ys.map V.str)
  | [] => .nil
  | y :: ys => .cons (.str y) (avr_strs ys)
theorem rm_split {o e : Expr} {mo me : EE} {apos pos : Pos} (ho : RE C X o mo) (he : RE C X e me) (hs : starEach [e] X.env = [(false, eval e X.env)] := by rfl) (hbase : attributeBase o "split" X.env (eval o X.env) = eval o X.env := by rfl) (hline : (apos.endLine == pos.line) = true := by rfl) :
    RM C X (.Call (.Attribute o "split" apos) [e] [] pos) (lSplit mo me) := fun W tk =>
  PE_imp (pe_split (ho W tk) (he W tk) hs hbase hline) fun σ H Q ⟨ι, h, ρ, r, en, Z, hZ, p⟩ => ⟨ι, h, ρ, r, en, (GPost.bnd (R := AvR C) p).mono fun x H1 ⟨ι1, h1, a, r1, e1, x1, p1⟩ => by
    cases x1 with
    | str s =>
      refine ⟨⟨s, rfl⟩, ι1, h1, ρ, r1, en.ext r e1, (GPost.bnd (R := AvR C) p1).mono fun y H2 ⟨ι2, h2, b, r2, e2, x2, p2⟩ => ?_⟩
      cases x2 with
      | str t =>
        dsimp only at p2
        by_cases z : (t.length == 0) = false ∧ s.length + 2 ≤ szl
        · rw [if_pos z] at p2
          refine ⟨s, t, rfl, rfl, z.1, z.2, fun q hq => ?_⟩
          exact p2 ι2 _ (.ref q) (Ext.laid r2 hq) (r2.laid hq) ⟨q, _, rfl, upd_same, avr_strs _, fun l hl => r2.off hq hl, fun zq => (e1.trans e2).dom q (hZ q zq) hq⟩
        · rw [if_neg z] at p2; exact p2.elim
      | _ => exact p2.elim
    | _ => exact p1.elim⟩
theorem re_fmt {e : Expr} {m : EE} {pos : Pos} (he : RE C X e m) : RE C X (.FormattedValue e (-1) none pos) (eFmt m) := fun W tk =>
  PE_imp (pe_fmt (he W tk)) fun σ H Q ⟨ι, h, ρ, r, en, p⟩ => ⟨ι, h, ρ, r, en, (GPost.bnd (R := AvR C) p).mono fun x H1 ⟨ι1, h1, a, r1, e1, x1, p1⟩ => by
    cases x1 with
    | str s =>
      dsimp only at p1
      by_cases z : s.length ≤ szl
      · rw [if_pos z] at p1; exact .inl ⟨s, rfl, z, p1 ι1 H1 _ Ext.refl r1 (.str _)⟩
      · rw [if_neg z] at p1; exact p1.elim
    | int i =>
      dsimp only at p1
      by_cases z : i.natAbs.log2 < 1920
      · rw [if_pos z] at p1; exact .inr ⟨i, rfl, z, p1 ι1 H1 _ Ext.refl r1 (.str _)⟩
      · rw [if_neg z] at p1; exact p1.elim
    | _ => exact p1.elim⟩
inductive RJ (C : Cz) (X : Cx) : List Expr → List EE → Prop
  | nil : RJ C X [] []
  | cons {e : Expr} {m : EE} {es : List Expr} {ms : List EE} (h : RE C X e m) (r : RJ C X es ms) : RJ C X (e :: es) (m :: ms)
theorem RJ.pj {es : List Expr} {ms : List EE} {W : WX} (tk : Takes X W) (h : RJ C X es ms) : PJ X es (ms.map fun m => tE C m W) := by
  induction h with
  | nil => exact .nil
  | cons h r ih => exact .cons (h W tk) ih
theorem tjs_imp {W : WX} {σ : L2.St} : ∀ (ms : List EE) (acc : Str) {ι : Nat → Addr} {h : PA.Heap} {ρ : PA.Env} {H : Hp} {Q : VK}, Rep C ι h H → EnR C ι h.length H ρ σ → GPost C (AvR C) ι h H Q (fun c d H' => W c d σ H') (fJoin ms acc ρ h) → tJs (ms.map fun m => tE C m W) acc σ H fun out H1 => Q (.str out) H1
  | [], acc, ι, h, ρ, H, Q, r, en, p => p ι H _ Ext.refl r (.str acc)
  | m :: ms, acc, ι, h, ρ, H, Q, r, en, p => by
    refine ⟨ι, h, ρ, r, en, (GPost.bnd (R := AvR C) p).mono fun x H1 ⟨ι1, h1, a, r1, e1, x1, p1⟩ => ?_⟩
    cases x1 with
    | str y =>
      dsimp only at p1
      by_cases z : (acc ++ y).length ≤ szl
      · rw [if_pos z] at p1
        exact ⟨y, rfl, z, tjs_imp ms (acc ++ y) r1 (en.ext r e1) p1⟩
      · rw [if_neg z] at p1; exact p1.elim
    | _ => exact p1.elim
theorem re_fstr {v1 v2 : Expr} {rest : List Expr} {ms : List EE} {pos : Pos} (h : RJ C X (v1 :: v2 :: rest) ms) : RE C X (.JoinedStr (v1 :: v2 :: rest) pos) (eFStr ms) := fun W tk =>
  PE_imp (pe_joined (h.pj tk)) fun σ H Q ⟨ι, h, ρ, r, en, p⟩ => tjs_imp ms _ r en p

/-! ### methods of built-ins -/
def MrA (C : Cz) (X : Cx) (id : String) (M : MM) : Prop := MtR X id (fun x vs H Q => ∃ ι h a as W, Rep C ι h H ∧ AvR C ι h.length H a x ∧ AvRs C ι h.length H as vs ∧ GPost C (AvR C) ι h H Q W (M a as h))
theorem tyl_of {ι : Nat → Addr} {h : PA.Heap} {H : Hp} {a : AV} {x : V} (r : Rep C ι h H) (xa : AvR C ι h.length H a x) (z : isLst h a = true) : tyV X.K "list" x H := by
  cases xa with
  | @loc l hl =>
    unfold isLst at z
    dsimp only at z
    cases e : h[l]? with
    | none => rw [e] at z; cases z
    | some o =>
      rw [e] at z
      cases o with
      | lst xs => obtain ⟨vs, hv, _⟩ := lst_at r e; exact .inl ⟨rfl, vs, SqL.of hv⟩
      | _ => cases z
  | _ => cases z
/-- xs.m(e, ..), xs a list of ours -/
theorem re_lm {o e : Expr} {es : List Expr} {mo : EE} {l : LL} {name : Str} {id : String} {M : MM} {apos cpos : Pos} (slot : Slot "list" name id) (hty : typeOf (.builtin id) = pure (.type "method_descriptor")) (hm : MtM X id fun x vs H Q => ∃ ι h a as W, Rep C ι h H ∧ AvR C ι h.length H a x ∧ AvRs C ι h.length H as vs ∧ GPost C (AvR C) ι h H Q W (M a as h))
    (ho : RE C X o mo) (hl : RL C X (e :: es) l) (hbase : attributeBase o name X.env (eval o X.env) = eval o X.env := by rfl)
    (hfew : ((backTo cpos (starEach (e :: es) X.env)).all (fun x => !x.1) && (backToKw cpos (keywordEach [] X.env)).all (fun x => x.1.isSome)
      && decide ((e :: es).length + ([] : List Keyword).length + (if ([] : List Keyword).isEmpty then 0 else 1) < 30)) = true := by rfl)
    (hline : (apos.endLine == cpos.line) = true := by rfl) (hs : starEach (e :: es) X.env = (false, eval e X.env) :: starEach es X.env := by rfl) (hplain : (backTo cpos (starEach es X.env)).any (·.1) = false := by rfl) :
    RE C X (.Call (.Attribute o name apos) (e :: es) [] cpos) (eLm M mo l) := fun W tk =>
  PE_imp (pe_bm PySem.F.plainAttrs_list slot hty hm (ho W tk) (hl W tk) hbase hfew hline hs hplain) fun σ H Q ⟨ι, h, ρ, r, en, p⟩ => ⟨ι, h, ρ, r, en, (GPost.bnd (R := AvR C) p).mono fun x H1 ⟨ι1, h1, a, r1, e1, x1, p1⟩ => by
    by_cases z : isLst h1 a = true
    · rw [if_pos z] at p1
      exact ⟨tyl_of r1 x1 z, ι1, h1, ρ, r1, en.ext r e1, (GPost.bnd (R := AvRs C) p1).mono fun xs H2 ⟨ι2, h2, as, r2, e2, x2, p2⟩ => ⟨ι2, h2, a, as, _, r2, r1.av e2 x1, x2, p2⟩⟩
    · rw [if_neg z] at p1; exact p1.elim⟩
end
end PL
set_option maxRecDepth 100000
set_option maxHeartbeats 2000000
/-! Lift10: list methods' rules, stores, dicts. -/
namespace PL
open PySem PySem.Spec PyProof.Rows L2 PA
section
variable {C : Cz} {X : Cx} {j : Nat}
abbrev MmA (C : Cz) (X : Cx) (id : String) (M : MM) : Prop := MtM X id fun x vs H Q => ∃ ι h a as W, Rep C ι h H ∧ AvR C ι h.length H a x ∧ AvRs C ι h.length H as vs ∧ GPost C (AvR C) ι h H Q W (M a as h)
theorem mm_append : MmA C X "list.append" mAppend := by
  intro pins s σ H x vs v us Q I rx rv ⟨ι, h, a, as, W, r, xa, xs, p⟩
  cases xa with
  | @loc l hl =>
    cases xs with
    | nil => exact p.elim
    | cons a1 b1 =>
      cases b1 with
      | cons _ _ => exact p.elim
      | nil =>
        rename_i a0 v0
        unfold mAppend at p
        dsimp only at p
        cases e : h[l]? with
        | none => rw [e] at p; exact p.elim
        | some o =>
          cases o with
          | lst ys =>
            rw [e] at p
            dsimp only at p
            by_cases z : ys.length < szl
            · rw [if_pos z] at p
              obtain ⟨ws, hv, av⟩ := lst_at r e
              obtain ⟨ex, r2⟩ := chg_lst r e (av.append (.cons a1 .nil))
              exact mt_append pins s σ H _ _ v us Q I rx rv ⟨_, ws, v0, rfl, rfl, hv, by rw [← av.length]; exact z, p ι _ .non ex r2 .non⟩
            · rw [if_neg z] at p; exact p.elim
          | _ => rw [e] at p; exact p.elim
  | _ => cases xs with
    | nil => exact p.elim
    | cons a1 b1 => cases b1 <;> exact p.elim
theorem mm_extend : MmA C X "list.extend" mExtend := by
  intro pins s σ H x vs v us Q I rx rv ⟨ι, h, a, as, W, r, xa, xs, p⟩
  cases xa with
  | @loc l hl =>
    cases xs with
    | nil => exact p.elim
    | cons a1 b1 =>
      cases b1 with
      | cons _ _ => cases a1 <;> exact p.elim
      | nil =>
        cases a1 with
        | @loc k hk =>
          unfold mExtend at p
          dsimp only at p
          cases e : h[l]? with
          | none => rw [e] at p; exact p.elim
          | some o =>
            cases o with
            | lst ys =>
              cases e2 : h[k]? with
              | none => rw [e, e2] at p; exact p.elim
              | some o2 =>
                cases o2 with
                | lst zs =>
                  rw [e, e2] at p
                  dsimp only at p
                  by_cases z : ys.length + zs.length ≤ szl
                  · rw [if_pos z] at p
                    obtain ⟨ws, hv, av⟩ := lst_at r e
                    obtain ⟨ws2, hv2, av2⟩ := lst_at r e2
                    obtain ⟨ex, r2⟩ := chg_lst r e (av.append av2)
                    exact mt_extend pins s σ H _ _ v us Q I rx rv ⟨_, _, ws, ws2, rfl, rfl, hv, hv2, by rw [← av.length, ← av2.length]; exact z, p ι _ .non ex r2 .non⟩
                  · rw [if_neg z] at p; exact p.elim
                | _ => rw [e, e2] at p; exact p.elim
            | _ => rw [e] at p; exact p.elim
        | _ => exact p.elim
  | _ => cases xs with
    | nil => exact p.elim
    | cons a1 b1 => cases b1 <;> exact p.elim
theorem re_extT {o e : Expr} {mo : EE} {l : LL} {apos cpos : Pos} (ho : RE C X o mo) (hl : RM C X e l) (hbase : attributeBase o "extend" X.env (eval o X.env) = eval o X.env := by rfl)
    (hfew : ((backTo cpos (starEach [e] X.env)).all (fun x => !x.1) && (backToKw cpos (keywordEach [] X.env)).all (fun x => x.1.isSome)
      && decide (([e] : List Expr).length + ([] : List Keyword).length + (if ([] : List Keyword).isEmpty then 0 else 1) < 30)) = true := by rfl)
    (hline : (apos.endLine == cpos.line) = true := by rfl) (hs : starEach [e] X.env = (false, eval e X.env) :: starEach [] X.env := by rfl) (hplain : (backTo cpos (starEach [] X.env)).any (·.1) = false := by rfl) :
    RE C X (.Call (.Attribute o "extend" apos) [e] [] cpos) (eExtT mo l) := fun W tk =>
  PE_imp (pe_bm PySem.F.plainAttrs_list PySem.F.slot_list_extend PySem.F.type_list_extend mt_extend (ho W tk) (pa_cons (hl W tk) pa_nil hs) hbase hfew hline hs hplain) fun σ H Q ⟨ι, h, ρ, r, en, p⟩ => ⟨ι, h, ρ, r, en, (GPost.bnd (R := AvR C) p).mono fun x H1 ⟨ι1, h1, a, r1, e1, x1, p1⟩ => by
    by_cases z : PA.isLst h1 a = true
    · rw [if_pos z] at p1
      refine ⟨tyl_of r1 x1 z, ι1, h1, ρ, r1, en.ext r e1, _, fun _ z => z.elim, (tmp_bnd (R' := AvR C) (ρ := ρ) (σ := σ) p1).mono fun y H2 ⟨ι2, h2, xs, r2, e2, ⟨q, vs, eb, hq, av, off⟩, p2⟩ => ?_⟩
      have x2 := r1.av e2 x1
      cases x2 with
      | @loc l' hl' =>
        unfold mExtendT at p2
        dsimp only at p2
        cases ee : h2[l']? with
        | none => rw [ee] at p2; exact p2.elim
        | some o =>
          cases o with
          | lst ys =>
            rw [ee] at p2
            dsimp only at p2
            by_cases zz : ys.length + xs.length ≤ szl
            · rw [if_pos zz] at p2
              obtain ⟨ws, hv, av'⟩ := lst_at r2 ee
              obtain ⟨ex, r3⟩ := chg_lst r2 ee (av'.append av)
              exact ⟨_, q, ws, vs, rfl, by rw [eb], hv, hq, by rw [← av'.length, ← av.length]; exact zz, p2 ι2 _ .non ex r3 .non⟩
            · rw [if_neg zz] at p2; exact p2.elim
          | _ => rw [ee] at p2; exact p2.elim
      | _ => cases z
    · rw [if_neg z] at p1; exact p1.elim⟩

/-! ### xs[i] = e -/
theorem rs_ix {o i e : Expr} {mo mi me : EE} {tpos pos : Pos} (he : RE C X e me) (ho : RE C X o mo) (hi : RE C X i mi)
    (ha : ∀ v, assign (.Subscript o i tpos) X.env v = (do
      let ov ← holding [v] (eval o X.env)
      let iv ← holding [v, ov] (eval i X.env)
      standAt tpos
      holding [v, ov, iv] (setItem ov iv v)
      release [v, ov, iv] []) := by intro _; rfl) (hs : swapsWithSole [.Subscript o i tpos] e pos.line X.env = pure false := by rfl) (hw : swappedStores [.Subscript o i tpos] e X.env = pure none := by rfl)
    (h1 : (assignEach [.Subscript o i tpos] X.env).map (·.2) = [assign (.Subscript o i tpos) X.env] := by rfl) : RS C X (.Assign [.Subscript o i tpos] e pos) (sIx mo mi me) := fun W tk =>
  PS_imp (ps_asg (he W tk) (pg_sub (ho W tk) (hi W tk) set_list ha) hs hw h1) fun D σ H ⟨ι, h, ρ, r, en, p⟩ => ⟨ι, h, ρ, r, en, (SPost.bnd (R := AvR C) r en p).mono fun x H1 ⟨ι1, h1, a, r1, e1, x1, p1⟩ =>
    ⟨ι1, h1, ρ, r1, en.ext r e1, (SPost.bnd (R := AvR C) r1 (en.ext r e1) p1).mono fun y H2 ⟨ι2, h2, b, r2, e2, x2, p2⟩ =>
      ⟨ι2, h2, ρ, r2, (en.ext r e1).ext r1 e2, (SPost.bnd (R := AvR C) r2 ((en.ext r e1).ext r1 e2) p2).mono fun z H3 ⟨ι3, h3, c, r3, e3, x3, p3⟩ => by
        have x2' := r2.av e3 x2
        have xa := r2.av e3 (r1.av e2 x1)
        cases x2' with
        | @loc l hl =>
          cases x3 with
          | int k =>
            dsimp only at p3
            cases ee : h3[l]? with
            | none => rw [ee] at p3; exact p3.elim
            | some o =>
              cases o with
              | lst ys =>
                rw [ee] at p3
                dsimp only at p3
                cases en3 : PA.ixN ys.length k with
                | none => rw [en3] at p3; exact p3.elim
                | some m =>
                  rw [en3] at p3
                  obtain ⟨ws, hv, av⟩ := lst_at r3 ee
                  obtain ⟨ex, r4⟩ := chg_lst r3 ee (av.set xa m)
                  refine ⟨_, ws, k, m, rfl, rfl, hv, by rw [← av.length]; exact en3, p3 ι3 _ σ ex r4 ?_⟩
                  exact (((en.ext r e1).ext r1 e2).ext r2 e3).ext r3 ex
              | _ => rw [ee] at p3; exact p3.elim
          | _ => exact p3.elim
        | _ => exact p3.elim⟩⟩⟩

/-! ### dicts -/
theorem key_kv {ι : Nat → Addr} {n : Nat} {H : Hp} {a : AV} {x : V} (xa : AvR C ι n H a x) (z : isKey a = true) : ∃ k : Key, x = kV k ∧ ((∃ i, a = .int i ∧ k = .inl i) ∨ ∃ s, a = .str s ∧ k = .inr s) := by
  cases xa with
  | int i => exact ⟨.inl i, rfl, .inl ⟨i, rfl, rfl⟩⟩
  | str s => exact ⟨.inr s, rfl, .inr ⟨s, rfl, rfl⟩⟩
  | _ => cases z
/-- a key and its abstract key -/
inductive KR : AV → Key → Prop
  | int (i : Int) : KR (.int i) (.inl i)
  | str (s : Str) : KR (.str s) (.inr s)
theorem KR.of {ι : Nat → Addr} {n : Nat} {H : Hp} {a : AV} {x : V} (xa : AvR C ι n H a x) (z : isKey a = true) : ∃ k : Key, x = kV k ∧ KR a k := by
  cases xa with
  | int i => exact ⟨.inl i, rfl, .int i⟩
  | str s => exact ⟨.inr s, rfl, .str s⟩
  | _ => cases z
theorem KR.eq {a b : AV} {k l : Key} (p : KR a k) (q : KR b l) : keyEq a b = decide (k = l) := by
  cases p <;> cases q
  · rename_i i i'
    show decide (i = i') = decide ((Sum.inl i : Key) = Sum.inl i')
    by_cases e : i = i' <;> simp [e]
  · rfl
  · rfl
  · rename_i i i'
    show decide (i = i') = decide ((Sum.inr i : Key) = Sum.inr i')
    by_cases e : i = i' <;> simp [e]
theorem KsR.get {ι : Nat → Addr} {n : Nat} {H : Hp} {kvs : List (AV × AV)} {ks : List (Key × V)} (r : KsR C ι n H kvs ks) {a : AV} {k : Key} (q : KR a k) : (dGet kvs a = none ∧ valV ks k = none) ∨ ∃ x v, dGet kvs a = some x ∧ valV ks k = some v ∧ AvR C ι n H x v := by
  induction r with
  | nil => exact .inl ⟨rfl, rfl⟩
  | @int i x v fs gs h t ih =>
    unfold dGet valV
    rw [List.find?_cons, List.find?_cons, KR.eq (.int i) q]
    cases decide ((Sum.inl i : Key) = k) with
    | true => exact .inr ⟨x, v, rfl, rfl, h⟩
    | false => exact ih
  | @str i x v fs gs h t ih =>
    unfold dGet valV
    rw [List.find?_cons, List.find?_cons, KR.eq (.str i) q]
    cases decide ((Sum.inr i : Key) = k) with
    | true => exact .inr ⟨x, v, rfl, rfl, h⟩
    | false => exact ih
theorem KsR.any {ι : Nat → Addr} {n : Nat} {H : Hp} {kvs : List (AV × AV)} {ks : List (Key × V)} (r : KsR C ι n H kvs ks) {a : AV} {k : Key} (q : KR a k) : (kvs.any fun p => keyEq p.1 a) = ks.any fun p => decide (p.1 = k) := by
  induction r with
  | nil => rfl
  | @int i x v fs gs h t ih => rw [List.any_cons, List.any_cons, ih, KR.eq (.int i) q]
  | @str i x v fs gs h t ih => rw [List.any_cons, List.any_cons, ih, KR.eq (.str i) q]
theorem KsR.snoc {ι : Nat → Addr} {n : Nat} {H : Hp} {kvs : List (AV × AV)} {ks : List (Key × V)} (r : KsR C ι n H kvs ks) {a : AV} {k : Key} {x : AV} {v : V} (q : KR a k) (xv : AvR C ι n H x v) : KsR C ι n H (kvs ++ [(a, x)]) (ks ++ [(k, v)]) := by
  induction r with
  | nil => cases q with
    | int i => exact .int xv .nil
    | str i => exact .str xv .nil
  | int h t ih => exact .int h ih
  | str h t ih => exact .str h ih
theorem KsR.mapPut {ι : Nat → Addr} {n : Nat} {H : Hp} {kvs : List (AV × AV)} {ks : List (Key × V)} (r : KsR C ι n H kvs ks) {a : AV} {k : Key} {x : AV} {v : V} (q : KR a k) (xv : AvR C ι n H x v) :
    KsR C ι n H (kvs.map fun p => if keyEq p.1 a = true then (p.1, x) else p) (ks.map fun p => if p.1 = k then (p.1, v) else p) := by
  induction r with
  | nil => exact .nil
  | @int i y w fs gs h t ih =>
    rw [List.map_cons, List.map_cons, KR.eq (.int i) q]
    by_cases e : (Sum.inl i : Key) = k
    · rw [if_pos (decide_eq_true e), if_pos e]; exact .int xv ih
    · rw [if_neg (by simpa using e), if_neg e]; exact .int h ih
  | @str i y w fs gs h t ih =>
    rw [List.map_cons, List.map_cons, KR.eq (.str i) q]
    by_cases e : (Sum.inr i : Key) = k
    · rw [if_pos (decide_eq_true e), if_pos e]; exact .str xv ih
    · rw [if_neg (by simpa using e), if_neg e]; exact .str h ih
theorem KsR.put {ι : Nat → Addr} {n : Nat} {H : Hp} {kvs : List (AV × AV)} {ks : List (Key × V)} (r : KsR C ι n H kvs ks) {a : AV} {k : Key} {x : AV} {v : V} (q : KR a k) (xv : AvR C ι n H x v) : KsR C ι n H (dPut kvs a x) (putK ks k v) := by
  unfold dPut putK
  rw [r.any q]
  by_cases z : (ks.any fun p => decide (p.1 = k)) = true
  · rw [if_pos z, if_pos z]; exact r.mapPut q xv
  · rw [if_neg z, if_neg z]; exact r.snoc q xv
theorem re_dget {o i : Expr} {mo mi : EE} {pos : Pos} (g : Gd C X j) (ho : RE C X o mo) (hi : RE C X i mi) (hs : NoSl i := by exact fun _ _ => rfl) : RE C X (.Subscript o i pos) (eBin oDGet mo mi) := fun W tk =>
  PE_imp (pe_dget (hu_of g.room) (ho W tk) (hi W tk) hs) fun σ H Q q => by
    obtain ⟨ι, h, ρ, r, en, hx⟩ := bin_imp q
    refine ⟨ι, h, ρ, r, en, hx.mono fun x H1 ⟨ι1, h1, ρ1, r1, en1, hy⟩ => ⟨ι1, h1, ρ1, r1, en1, hy.mono fun y H2 ⟨ι2, h2, a, b, W2, r2, xa, xb, p2⟩ => ?_⟩⟩
    unfold oDGet at p2
    cases e : dctOf h2 a with
    | none => rw [e] at p2; exact p2.elim
    | some kvs =>
      rw [e] at p2
      dsimp only at p2
      by_cases z : isKey b = true
      · rw [if_pos z] at p2
        obtain ⟨q', ks, rfl, rd, kr⟩ := dct_of r2 xa e
        obtain ⟨k, rfl, kk⟩ := KR.of xb z
        rcases kr.get kk with ⟨g1, g2⟩ | ⟨w, v, g1, g2, g3⟩
        · rw [g1] at p2; exact p2.elim
        · rw [g1] at p2
          exact ⟨q', v, rfl, .inl ⟨ks, k, rd, rfl, g2.symm⟩, p2 ι2 H2 v Ext.refl r2 g3⟩
      · rw [if_neg z] at p2; exact p2.elim
end
end PL
set_option maxRecDepth 100000
set_option maxHeartbeats 2000000
/-! Lift11: dicts further, the module's dicts, x += e. -/
namespace PL
open PySem PySem.Spec PyProof.Rows L2 PA
section
variable {C : Cz} {X : Cx} {j : Nat}
theorem din_imp {mo mi : EE} {W : WX} {σ : L2.St} {H : Hp} {Q : VK} (q : tE C (eBin oDIn mi mo) W σ H Q) : tDIn (tE C mi W) (tE C mo W) σ H Q := by
  obtain ⟨ι, h, ρ, r, en, hx⟩ := bin_imp q
  refine ⟨ι, h, ρ, r, en, hx.mono fun y H1 ⟨ι1, h1, ρ1, r1, en1, hy⟩ => ⟨ι1, h1, ρ1, r1, en1, hy.mono fun x H2 ⟨ι2, h2, b, a, W2, r2, xb, xa, p2⟩ => ?_⟩⟩
  unfold oDIn at p2
  cases e : dctOf h2 a with
  | none => rw [e] at p2; exact p2.elim
  | some kvs =>
    rw [e] at p2
    dsimp only at p2
    by_cases z : isKey b = true
    · rw [if_pos z] at p2
      obtain ⟨q', ks, rfl, rd, kr⟩ := dct_of r2 xa e
      obtain ⟨k, rfl, kk⟩ := KR.of xb z
      refine ⟨q', valV ks k, rfl, .inl ⟨ks, k, rd, rfl, rfl⟩, ?_⟩
      have : (valV ks k).isSome = (dGet kvs b).isSome := by
        rcases kr.get kk with ⟨g1, g2⟩ | ⟨w, v, g1, g2, g3⟩ <;> rw [g1, g2] <;> rfl
      rw [this]
      exact p2 ι2 H2 _ Ext.refl r2 (.bl _)
    · rw [if_neg z] at p2; exact p2.elim
theorem dnotin_imp {mo mi : EE} {W : WX} {σ : L2.St} {H : Hp} {Q : VK} (q : tE C (eBin oDNotIn mi mo) W σ H Q) : tDNotIn (tE C mi W) (tE C mo W) σ H Q := by
  obtain ⟨ι, h, ρ, r, en, hx⟩ := bin_imp q
  refine ⟨ι, h, ρ, r, en, hx.mono fun y H1 ⟨ι1, h1, ρ1, r1, en1, hy⟩ => ⟨ι1, h1, ρ1, r1, en1, hy.mono fun x H2 ⟨ι2, h2, b, a, W2, r2, xb, xa, p2⟩ => ?_⟩⟩
  unfold oDNotIn at p2
  cases e : dctOf h2 a with
  | none => rw [e] at p2; exact p2.elim
  | some kvs =>
    rw [e] at p2
    dsimp only at p2
    by_cases z : isKey b = true
    · rw [if_pos z] at p2
      obtain ⟨q', ks, rfl, rd, kr⟩ := dct_of r2 xa e
      obtain ⟨k, rfl, kk⟩ := KR.of xb z
      refine ⟨q', valV ks k, rfl, .inl ⟨ks, k, rd, rfl, rfl⟩, ?_⟩
      have : (valV ks k).isSome = (dGet kvs b).isSome := by
        rcases kr.get kk with ⟨g1, g2⟩ | ⟨w, v, g1, g2, g3⟩ <;> rw [g1, g2] <;> rfl
      rw [this]
      exact p2 ι2 H2 _ Ext.refl r2 (.bl _)
    · rw [if_neg z] at p2; exact p2.elim
theorem re_din {o i : Expr} {mo mi : EE} {pos : Pos} (g : Gd C X j) (hi : RE C X i mi) (ho : RE C X o mo) (h1 : behindInMarks .In o = false := by with_unfolding_all rfl) : RE C X (.Compare i [.In] [o] pos) (eBin oDIn mi mo) := fun W tk =>
  PE_imp (pe_cmp (pc_din (hu_of g.room) (hi W tk) (ho W tk)) h1) fun σ H Q q => din_imp q
theorem re_dnotin {o i : Expr} {mo mi : EE} {pos : Pos} (g : Gd C X j) (hi : RE C X i mi) (ho : RE C X o mo) (h1 : behindInMarks .NotIn o = false := by with_unfolding_all rfl) : RE C X (.Compare i [.NotIn] [o] pos) (eBin oDNotIn mi mo) := fun W tk =>
  PE_imp (pe_cmp (pc_dnotin (hu_of g.room) (hi W tk) (ho W tk)) h1) fun σ H Q q => dnotin_imp q
theorem rt_din {o i : Expr} {mo mi : EE} {pos : Pos} (g : Gd C X j) (hi : RE C X i mi) (ho : RE C X o mo) (h1 : behindInMarks .In o = false := by with_unfolding_all rfl) : RT C X (.Compare i [.In] [o] pos) (tB (eBin oDIn mi mo)) := fun W tk =>
  PT_imp (pt_cmp (pc_din (hu_of g.room) (hi W tk) (ho W tk)) h1) fun σ H Q q => din_imp (tB_imp q)
theorem rt_dnotin {o i : Expr} {mo mi : EE} {pos : Pos} (g : Gd C X j) (hi : RE C X i mi) (ho : RE C X o mo) (h1 : behindInMarks .NotIn o = false := by with_unfolding_all rfl) : RT C X (.Compare i [.NotIn] [o] pos) (tB (eBin oDNotIn mi mo)) := fun W tk =>
  PT_imp (pt_cmp (pc_dnotin (hu_of g.room) (hi W tk) (ho W tk)) h1) fun σ H Q q => dnotin_imp (tB_imp q)
theorem dct_at {ι : Nat → Addr} {h : PA.Heap} {H : Hp} {l : Nat} {kvs : List (AV × AV)} (r : Rep C ι h H) (e : h[l]? = some (.dct kvs)) : ∃ ks, H (ι l) = some (.dK ks) ∧ KsR C ι h.length H kvs ks := r.at_ l _ e
theorem chg_dct {ι : Nat → Addr} {h : PA.Heap} {H : Hp} {l : Nat} {xs ys : List (AV × AV)} {ws : List (Key × V)} (r : Rep C ι h H) (e : h[l]? = some (.dct xs)) (q : KsR C ι h.length H ys ws) :
    Ext ι h.length H ι (h.set l (.dct ys)).length (upd H (ι l) (.dK ws)) ∧ Rep C ι (h.set l (.dct ys)) (upd H (ι l) (.dK ws)) := by
  have hl := (List.getElem?_eq_some_iff.mp e).1
  obtain ⟨vs, hv, _⟩ := dct_at r e
  have nf : ∀ o u, H (ι l) ≠ some (.frz o u) := fun o u z => by rw [hv] at z; cases z
  have ex := Ext.chg (u := .dK ws) r hl nf
  exact ⟨by rw [List.length_set]; exact ex, r.chg hl nf ⟨ws, upd_same, r.ksr ex q⟩⟩
theorem rs_dput {o i e : Expr} {mo mi me : EE} {tpos pos : Pos} (g : Gd C X j) (he : RE C X e me) (ho : RE C X o mo) (hi : RE C X i mi) (hs : swapsWith e (some (.Subscript o i tpos)) pos.line X.env = pure false := by rfl) : RS C X (.Assign [.Subscript o i tpos] e pos) (sDPut mo mi me) := fun W tk =>
  PS_imp (ps_dput (hu_of g.room) (ho W tk) (hi W tk) (he W tk) hs) fun D σ H ⟨ι, h, ρ, r, en, p⟩ => ⟨ι, h, ρ, r, en, (SPost.bnd (R := AvR C) r en p).mono fun x H1 ⟨ι1, h1, a, r1, e1, x1, p1⟩ =>
    ⟨ι1, h1, ρ, r1, en.ext r e1, (SPost.bnd (R := AvR C) r1 (en.ext r e1) p1).mono fun y H2 ⟨ι2, h2, b, r2, e2, x2, p2⟩ =>
      ⟨ι2, h2, ρ, r2, (en.ext r e1).ext r1 e2, (SPost.bnd (R := AvR C) r2 ((en.ext r e1).ext r1 e2) p2).mono fun z H3 ⟨ι3, h3, c, r3, e3, x3, p3⟩ => by
        have x2' := r2.av e3 x2
        have xa := r2.av e3 (r1.av e2 x1)
        cases x2' with
        | @loc l hl =>
          dsimp only at p3
          cases ee : h3[l]? with
          | none => rw [ee] at p3; exact p3.elim
          | some o =>
            cases o with
            | dct ys =>
              rw [ee] at p3
              dsimp only at p3
              by_cases zz : isKey c = true ∧ ys.length < 100000
              · rw [if_pos zz] at p3
                obtain ⟨ws, hv, kr⟩ := dct_at r3 ee
                obtain ⟨k, rfl, kk⟩ := KR.of x3 zz.1
                obtain ⟨ex, r4⟩ := chg_dct r3 ee (kr.put kk xa)
                have hz : ws.length < sizeLine := by
                  rw [← kr.length, sizeLine_eq]
                  have := zz.2
                  omega
                exact ⟨_, _, rfl, DPut.k hv hz, p3 ι3 _ σ ex r4 ((((en.ext r e1).ext r1 e2).ext r2 e3).ext r3 ex)⟩
              · rw [if_neg zz] at p3; exact p3.elim
            | _ => rw [ee] at p3; exact p3.elim
        | _ => exact p3.elim⟩⟩⟩
theorem re_newD {pos : Pos} : RE C X (.Dict [] [] pos) eNewD := fun W tk =>
  PE_imp pe_dnewK fun σ H Q ⟨ι, h, ρ, r, en, p⟩ => fun q hq => by
    have e2 := Ext.grow (o := .dK []) r hq
    have key := p (put1 ι h.length q) _ (.ref q) (by rw [List.length_append]; exact e2) (r.grow (ao := .dct []) hq ⟨[], upd_same, .nil⟩) (by
      have t : AvR C (put1 ι h.length q) (h ++ [AO.dct []]).length (upd H q (.dK [])) (.loc h.length) (.ref (put1 ι h.length q h.length)) := .loc (by simp)
      rw [put1_same] at t
      exact t)
    exact key

/-! ### a dict of the module -/
/-- the dict at the global x: its pairs -/
structure KdA (C : Cz) (x : Str) (kvs : List (Str × AV)) : Prop where
  ex : ∃ d es n, C.mg x = some (.ref d) ∧ KDict C.K C.w d es n ∧ ∀ z, (kvs.lookup z = none ∧ PySem.W.nsIn C.K d z = some none) ∨
    ∃ a u v, kvs.lookup z = some a ∧ PySem.W.nsIn C.K d z = some (some u) ∧ RelV v u ∧ ∀ ι n H, AvR C ι n H a v
theorem kd_transport {K : PySem.W.Frag} {w : World} {d : Addr} {es : Array DictEntry} {n : Nat} {K' : PySem.W.Frag} {w' : World} (h : KDict K w d es n) (e : K' = K) (e' : w' = w) : KDict K' w' d es n := by subst e e'; exact h
/-- the module's dict is named -/
theorem ev_glob {x : Str} {d : Addr} {pos : Pos} (g : Gd C X j) (hm : C.mg x = some (.ref d)) (hg : Gl X x) (hd : (x == ("__debug__" : Str)) = false) : PE X (.Name x pos) (tC (.ref d)) := pe_glob hg (by rw [g.hm]; exact hm) rfl hd
theorem re_kin {x : Str} {kvs : List (Str × AV)} {e : Expr} {m : EE} {p pos : Pos} (g : Gd C X j) (K : KdA C x kvs) (he : RE C X e m) (hg : Gl X x := by rfl) (hd : (x == ("__debug__" : Str)) = false := by decide)
    (hm : behindInMarks .In (.Name x p) = false := by with_unfolding_all rfl) : RE C X (.Compare e [.In] [.Name x p] pos) (eBin (oKIn kvs) m (eC (.gl "?"))) := fun W tk => by
  obtain ⟨d, es, n, hmg, D, look⟩ := K.ex
  have D' := kd_transport D g.hK g.hw
  refine PE_imp (pe_cmpR (op_in_kd D') (he W tk) (ev_glob g hmg hg hd) hm) fun σ H Q ⟨ι, h, ρ, r, en, p⟩ => ⟨ι, h, ρ, r, en, (GPost.bnd (R := AvR C) p).mono fun y H1 ⟨ι1, h1, a, r1, e1, x1, p1⟩ => ?_⟩
  cases x1 with
  | str z =>
    have p2 : GPost C (AvR C) ι1 h1 H1 Q (fun c d H' => W c d σ H') (.ok (.bl (kvs.lookup z).isSome) h1) := p1
    rw [g.hK]
    rcases look z with ⟨l1, l2⟩ | ⟨a, u, v, l1, l2, _⟩
    · rw [l1] at p2; exact ⟨z, none, rfl, rfl, l2, p2 ι1 H1 _ Ext.refl r1 (.bl _)⟩
    · rw [l1] at p2; exact ⟨z, some u, rfl, rfl, l2, p2 ι1 H1 _ Ext.refl r1 (.bl _)⟩
  | _ => exact p1.elim
theorem re_knotin {x : Str} {kvs : List (Str × AV)} {e : Expr} {m : EE} {p pos : Pos} (g : Gd C X j) (K : KdA C x kvs) (he : RE C X e m) (hg : Gl X x := by rfl) (hd : (x == ("__debug__" : Str)) = false := by decide)
    (hm : behindInMarks .NotIn (.Name x p) = false := by with_unfolding_all rfl) : RE C X (.Compare e [.NotIn] [.Name x p] pos) (eBin (oKNotIn kvs) m (eC (.gl "?"))) := fun W tk => by
  obtain ⟨d, es, n, hmg, D, look⟩ := K.ex
  have D' := kd_transport D g.hK g.hw
  refine PE_imp (pe_cmpR (op_notIn_kd D') (he W tk) (ev_glob g hmg hg hd) hm) fun σ H Q ⟨ι, h, ρ, r, en, p⟩ => ⟨ι, h, ρ, r, en, (GPost.bnd (R := AvR C) p).mono fun y H1 ⟨ι1, h1, a, r1, e1, x1, p1⟩ => ?_⟩
  cases x1 with
  | str z =>
    have p2 : GPost C (AvR C) ι1 h1 H1 Q (fun c d H' => W c d σ H') (.ok (.bl (!(kvs.lookup z).isSome)) h1) := p1
    rw [g.hK]
    rcases look z with ⟨l1, l2⟩ | ⟨a, u, v, l1, l2, _⟩
    · rw [l1] at p2; exact ⟨z, none, rfl, rfl, l2, p2 ι1 H1 _ Ext.refl r1 (.bl _)⟩
    · rw [l1] at p2; exact ⟨z, some u, rfl, rfl, l2, p2 ι1 H1 _ Ext.refl r1 (.bl _)⟩
  | _ => exact p1.elim
theorem rt_knotin {x : Str} {kvs : List (Str × AV)} {e : Expr} {m : EE} {p pos : Pos} (g : Gd C X j) (K : KdA C x kvs) (he : RE C X e m) (hg : Gl X x := by rfl) (hd : (x == ("__debug__" : Str)) = false := by decide)
    (hm : behindInMarks .NotIn (.Name x p) = false := by with_unfolding_all rfl) : RT C X (.Compare e [.NotIn] [.Name x p] pos) (tB (eBin (oKNotIn kvs) m (eC (.gl "?")))) := fun W tk => by
  obtain ⟨d, es, n, hmg, D, look⟩ := K.ex
  have D' := kd_transport D g.hK g.hw
  refine PT_imp (pt_cmpR (op_notIn_kd D') (he W tk) (ev_glob g hmg hg hd) hm) fun σ H Q q => ?_
  obtain ⟨ι, h, ρ, r, en, p⟩ := tB_imp q
  refine ⟨ι, h, ρ, r, en, (GPost.bnd (R := AvR C) p).mono fun y H1 ⟨ι1, h1, a, r1, e1, x1, p1⟩ => ?_⟩
  cases x1 with
  | str z =>
    have p2 : GPost C (AvR C) ι1 h1 H1 (fun x H1 => ∃ k, x = V.bl k ∧ Q k H1) (fun c d H' => W c d σ H') (.ok (.bl (!(kvs.lookup z).isSome)) h1) := p1
    rw [g.hK]
    rcases look z with ⟨l1, l2⟩ | ⟨a, u, v, l1, l2, _⟩
    · rw [l1] at p2; exact ⟨z, none, rfl, rfl, l2, p2 ι1 H1 _ Ext.refl r1 (.bl _)⟩
    · rw [l1] at p2; exact ⟨z, some u, rfl, rfl, l2, p2 ι1 H1 _ Ext.refl r1 (.bl _)⟩
  | _ => exact p1.elim
theorem re_kget {x : Str} {kvs : List (Str × AV)} {e : Expr} {m : EE} {p pos : Pos} (g : Gd C X j) (K : KdA C x kvs) (he : RE C X e m) (hg : Gl X x := by rfl) (hd : (x == ("__debug__" : Str)) = false := by decide)
    (hs : PlainIx e := by exact fun _ _ => rfl) : RE C X (.Subscript (.Name x p) e pos) (eBin (oKGet kvs) (eC (.gl "?")) m) := fun W tk => by
  obtain ⟨d, es, n, hmg, D, look⟩ := K.ex
  have D' := kd_transport D g.hK g.hw
  have ix : IxR X (fun x y H Q => ∃ (z : Str) (u0 : Value) (v0 : V), x = .ref d ∧ y = .str z ∧ PySem.W.nsIn X.K d z = some (some u0) ∧ RelV v0 u0 ∧ Q v0 H) := by
    intro value slice pins s σ H x y v u Q I rx ry h hs'
    obtain ⟨z, u0, v0, rfl, rfl, hn, rr, q⟩ := h
    have rx' : v = Value.ref d := rx
    subst rx'
    have hh := op_item_kd D' pins s σ H (.ref d) (.str z) (.ref d) u Q I rfl ry ⟨z, u0, v0, rfl, rfl, hn, rr, q⟩
    exact tail_any (kd_type D' I) PySem.F.slot_dict_getitem.lookup hh hs'
  refine PE_imp (pe_ix ix (ev_glob g hmg hg hd) (he W tk) hs) fun σ H Q ⟨ι, h, ρ, r, en, p⟩ => ?_
  refine ⟨ι, h, ρ, r, en, (GPost.bnd (R := AvR C) (m := m ρ) p).mono fun y H1 ⟨ι1, h1, a, r1, e1, x1, p1⟩ => ?_⟩
  cases x1 with
  | str z =>
    have p2 : GPost C (AvR C) ι1 h1 H1 Q (fun c d H' => W c d σ H') (match kvs.lookup z with | some v => .ok v h1 | none => .bad) := p1
    rw [g.hK]
    rcases look z with ⟨l1, l2⟩ | ⟨a, u, v, l1, l2, l3, l4⟩
    · rw [l1] at p2; exact p2.elim
    · rw [l1] at p2; exact ⟨z, u, v, rfl, rfl, l2, l3, p2 ι1 H1 v Ext.refl r1 (l4 _ _ _)⟩
  | _ => exact p1.elim
end
end PL
set_option maxRecDepth 100000
set_option maxHeartbeats 2000000
/-! Lift12: displays of dicts, slots, properties, new instances. -/
namespace PL
open PySem PySem.Spec PyProof.Rows L2 PA
section
variable {C : Cz} {X : Cx} {j k : Nat}
/-! ### x += e -/
theorem rs_aug (i : Nat) {x : Str} {e : Expr} {m : EE} {o : O2} {op : Operator} {pos pos' : Pos} (g : Gd C X j) (ho : ∀ (pins : List (Addr × Obj)) (s : Shared) (σ : L2.St) (H : Hp) (x y : V) (v u : Value) (Q : VK), Inv X pins σ H s → RelV x v → RelV y u → rA C o x y H Q → wpAny (model X.prog X.w) X.A (inplaceOp op v u) (EP X pins σ Q) X.xe s)
    (he : RE C X e m) (hi : X.N[i]? = some x := by rfl) (hx : Loc X.env.scope x := by first | exact Or.inl rfl | exact Or.inr rfl)
    (hf : X.fn x = true ∨ X.env.scope.names.lookup x = some .local := by first | exact .inl rfl | exact .inr rfl | assumption) : RS C X (.AugAssign (.Name x pos') op e pos) (sAug i o m) := fun W tk =>
  PS_imp (ps_aug g.nd hi hx (he W tk) (ti := rA C o) ho hf) fun D σ H ⟨ι, h, ρ, r, en, p⟩ => by
    unfold sAug sBnd eVar at p
    dsimp only at p
    cases e0 : ρ[i]? with
    | none => rw [e0] at p; exact p.elim
    | some oo =>
      cases oo with
      | none => rw [e0] at p; exact p.elim
      | some a =>
        rw [e0] at p
        obtain ⟨v, e1, e2⟩ := en.2 i a e0
        refine ⟨v, e1, ι, h, ρ, r, en, (SPost.bnd (R := AvR C) (k := fun y => sBnd (fun _ => o a y) fun z ρ h => .nx (ρ.set i (some z)) h) r en p).mono fun y H1 ⟨ι1, h1, b, r1, ex1, x1, p1⟩ => ?_⟩
        refine ⟨ι1, h1, a, b, _, r1, r.av ex1 e2, x1, (SPost.bnd (R := AvR C) (k := fun z ρ h => .nx (ρ.set i (some z)) h) (m := fun _ => o a b) r1 (en.ext r ex1) p1).mono fun z H2 ⟨ι2, h2, c, r2, ex2, x2, p2⟩ => ?_⟩
        exact p2 ι2 H2 _ Ext.refl r2 (((en.ext r ex1).ext r1 ex2).set x2 i)

/-! ### displays of dicts -/
inductive RD (C : Cz) (X : Cx) : List (Option Expr) → List Expr → List (Str × EE) → Prop
  | nil : RD C X [] [] []
  | cons {s : Str} {k : Nat} {p : Pos} {v : Expr} {ks : List (Option Expr)} {vs : List Expr} {m : EE} {ms : List (Str × EE)} (h : RE C X v m) (r : RD C X ks vs ms) : RD C X (some (.Constant (.str s) k p) :: ks) (v :: vs) ((s, m) :: ms)
theorem RD.pps {pos : Pos} {ks : List (Option Expr)} {vs : List Expr} {ms : List (Str × EE)} {W : WX} (tk : Takes X W) (h : RD C X ks vs ms) : PPs X pos ks vs (ms.map fun m => (tC (.str m.1), tE C m.2 W)) := by
  induction h with
  | nil => exact pps_nil
  | cons h r ih => exact pps_cons pe_str (h W tk) ih
/-- the pairs' values, from the left -/
inductive PsR (C : Cz) (ι : Nat → Addr) (n : Nat) (H : Hp) : List (Str × AV) → List (V × V) → Prop
  | nil : PsR C ι n H [] []
  | cons {s : Str} {a : AV} {v : V} {ps : List (Str × AV)} {qs : List (V × V)} : AvR C ι n H a v → PsR C ι n H ps qs → PsR C ι n H ((s, a) :: ps) ((.str s, v) :: qs)
theorem tpairs_imp {W : WX} {σ : L2.St} : ∀ (ms : List (Str × EE)) {ι : Nat → Addr} {h : PA.Heap} {ρ : PA.Env} {H : Hp} {Q : List (V × V) → Hp → Prop}, Rep C ι h H → EnR C ι h.length H ρ σ → GPost C (PsR C) ι h H Q (fun c d H' => W c d σ H') (lDct ms ρ h) → tPairs (ms.map fun m => (tC (.str m.1), tE C m.2 W)) σ H Q
  | [], ι, h, ρ, H, Q, r, en, p => p ι H [] Ext.refl r .nil
  | (s, m) :: ms, ι, h, ρ, H, Q, r, en, p => by
    refine ⟨ι, h, ρ, r, en, (GPost.bnd (R := AvR C) p).mono fun y H1 ⟨ι1, h1, a, r1, e1, x1, p1⟩ => ?_⟩
    refine tpairs_imp ms r1 (en.ext r e1) ((GPost.bnd (R := PsR C) p1).mono fun ps H2 ⟨ι2, h2, as, r2, e2, x2, p2⟩ => ?_)
    exact p2 ι2 H2 _ Ext.refl r2 (.cons (r1.av e2 x1) x2)
theorem psr_keys {ι : Nat → Addr} {n : Nat} {H : Hp} {ps : List (Str × AV)} {qs : List (V × V)} (r : PsR C ι n H ps qs) : ∃ kvs : List (Key × V), qs = kvs.map (fun kv => (kV kv.1, kv.2)) ∧ kvs.length = ps.length ∧
    ∀ (xs : List (AV × AV)) (ks : List (Key × V)), KsR C ι n H xs ks → KsR C ι n H (ps.foldl (fun acc p => dPut acc (.str p.1) p.2) xs) (mergeK ks kvs) := by
  induction r with
  | nil => exact ⟨[], rfl, rfl, fun _ _ h => h⟩
  | @cons s a v ps qs h t ih =>
    obtain ⟨kvs, h1, h2, h3⟩ := ih
    exact ⟨(.inr s, v) :: kvs, by rw [h1]; rfl, by simp [h2], fun xs ks h0 => h3 _ _ (h0.put (.str s) h)⟩
/-- a thing beside ours becomes ours -/
theorem adopt {ι : Nat → Addr} {h : PA.Heap} {H : Hp} {q : Addr} {ao : AO} (r : Rep C ι h H) (off : ∀ l, l < h.length → ι l ≠ q) (ob : ObR C (put1 ι h.length q) (h.length + 1) H q ao) : Rep C (put1 ι h.length q) (h ++ [ao]) H := by
  have ag : ∀ l, l < h.length → put1 ι h.length q l = ι l := fun l hl => put1_lt hl
  refine ⟨fun l o eo => ?_, fun l l' a b eq => ?_, r.scr⟩
  · rw [List.length_append, List.length_singleton]
    by_cases z : l < h.length
    · rw [List.getElem?_append_left z] at eo
      rw [put1_lt z]
      have := r.at_ l o eo
      cases o with
      | lst ys => obtain ⟨ws, w1, w2⟩ := this; exact ⟨ws, w1, w2.map (fun _ _ t => t) (Nat.le_succ _) ag⟩
      | dct ys => obtain ⟨ws, w1, w2⟩ := this; exact ⟨ws, w1, w2.map (fun _ _ t => t) (Nat.le_succ _) ag⟩
      | lck ys => obtain ⟨o, ws, w1, w2⟩ := this; exact ⟨o, ws, w1, w2.map (fun _ _ t => t) (Nat.le_succ _) ag⟩
      | ins c fs =>
        rcases this with ⟨e0, dx, gs, w1, w2⟩ | ⟨names, dx, us, e0, sl, ne, w2⟩
        · exact .inl ⟨e0, dx, gs, w1, w2.map (fun _ _ t => t) (Nat.le_succ _) ag⟩
        · exact .inr ⟨names, dx, us, e0, sl, ne, fun i f x h1 h2 => let ⟨v, e3, e4⟩ := w2 i f x h1 h2; ⟨v, e3, e4.map (fun _ _ t => t) (Nat.le_succ _) ag⟩⟩
    · have hl : l < h.length + 1 := by have := (List.getElem?_eq_some_iff.mp eo).1; simpa using this
      have : l = h.length := by omega
      subst this
      rw [List.getElem?_append_right (Nat.le_refl _), Nat.sub_self] at eo
      simp at eo
      subst eo
      rw [put1_same]
      exact ob
  · rw [List.length_append, List.length_singleton] at a b
    by_cases z : l < h.length
    · by_cases z' : l' < h.length
      · rw [put1_lt z, put1_lt z'] at eq; exact r.inj l l' z z' eq
      · have : l' = h.length := by omega
        subst this
        rw [put1_lt z, put1_same] at eq
        exact absurd eq (off l z)
    · have : l = h.length := by omega
      subst this
      by_cases z' : l' < h.length
      · rw [put1_lt z', put1_same] at eq
        exact absurd eq.symm (off l' z')
      · omega
/-- a dict beside ours is written -/
theorem side_sqT' {H : Hp} {D : Addr} {u0 u : HO} (hD : H D = some u0) (n1 : ∀ xs, u0 ≠ .tup xs) (n2 : ∀ o w, u0 ≠ .frz o w) {a : Addr} {xs : List V} (t : SqT C.K H a xs) : SqT C.K (upd H D u) a xs := by
  rcases t with (t | ⟨o, t⟩) | t
  · exact .inl (.inl (by rw [upd_ne (fun z => by rw [z, hD] at t; exact n1 _ (Option.some.inj t))]; exact t))
  · exact .inl (.inr ⟨o, by rw [upd_ne (fun z => by rw [z, hD] at t; exact n2 _ _ (Option.some.inj t))]; exact t⟩)
  · exact .inr t
theorem Rep.sideD {ι : Nat → Addr} {h : PA.Heap} {H : Hp} (r : Rep C ι h H) {D : Addr} {ys : List (Key × V)} {u : HO} (hD : H D = some (.dK ys)) (off : ∀ l, l < h.length → ι l ≠ D) : Rep C ι h (upd H D u) := by
  have sq : ∀ a xs, SqT C.K H a xs → SqT C.K (upd H D u) a xs := fun a xs => side_sqT' hD (fun _ z => nomatch z) (fun _ _ z => nomatch z)
  refine ⟨fun l o e => ?_, r.inj, r.scr.upd fun o w z => by rw [hD] at z; cases z⟩
  have hl := (List.getElem?_eq_some_iff.mp e).1
  have st : upd H D u (ι l) = H (ι l) := upd_ne (off l hl)
  have q := r.at_ l o e
  cases o with
  | lst xs => obtain ⟨vs, e1, e2⟩ := q; exact ⟨vs, st.trans e1, e2.map sq (Nat.le_refl _) fun _ _ => rfl⟩
  | dct xs => obtain ⟨vs, e1, e2⟩ := q; exact ⟨vs, st.trans e1, e2.map sq (Nat.le_refl _) fun _ _ => rfl⟩
  | lck xs => obtain ⟨o, vs, e1, e2⟩ := q; exact ⟨o, vs, st.trans e1, e2.map sq (Nat.le_refl _) fun _ _ => rfl⟩
  | ins c fs =>
    rcases q with ⟨e0, dx, gs, e1, e2⟩ | ⟨names, dx, vs, e0, sl, ne, e2⟩
    · exact .inl ⟨e0, dx, gs, st.trans e1, e2.map sq (Nat.le_refl _) fun _ _ => rfl⟩
    · refine .inr ⟨names, dx, vs, e0, ?_, ne, fun i f x h1 h2 => let ⟨v, e3, e4⟩ := e2 i f x h1 h2; ⟨v, e3, e4.map sq (Nat.le_refl _) fun _ _ => rfl⟩⟩
      rcases sl with ⟨s1, s2, s3⟩ | ⟨s1, s2⟩
      · exact .inl ⟨st.trans s1, by rw [upd_ne (fun z => by rw [z, hD] at s2; cases s2)]; exact s2, s3⟩
      · exact .inr ⟨st.trans s1, by rw [upd_ne (fun z => by rw [z, hD] at s2; cases s2)]; exact s2⟩
theorem re_disp {ks : List (Option Expr)} {vs : List Expr} {ms : List (Str × EE)} {pos : Pos} (h : RD C X ks vs ms) (hall : ks.all (·.isSome) = true := by rfl) (hl : ks.length = vs.length := by rfl) (h0 : ks ≠ [] := by exact fun z => nomatch z) (h15 : ks.length ≤ 15 := by decide) (hms : ms.length ≤ 15 := by decide) :
    RE C X (.Dict ks vs pos) (eDisp ms) := fun W tk =>
  PE_imp (pe_disp (h.pps tk) hall hl h0 h15) fun σ H Q ⟨ι, hh, ρ, r, en, p⟩ => fun q hq => by
    have exl := Ext.laid (o := .dK []) r hq
    have p' : GPost C (PsR C) ι hh H (fun b H1 => ∃ ι1 h1 a, Rep C ι1 h1 H1 ∧ Ext ι hh.length H ι1 h1.length H1 ∧ PsR C ι1 h1.length H1 a b ∧ GPost C (AvR C) ι1 h1 H1 Q (fun c d H' => W c d σ H') (.ok (.loc h1.length) (h1 ++ [.dct (a.foldl (fun acc p => dPut acc (.str p.1) p.2) [])]))) (fun c d H' => W c d σ H') (lDct ms ρ hh) := GPost.bnd (R := PsR C) p
    have lenp : ∀ (ms : List (Str × EE)) (h : PA.Heap) ps h', lDct ms ρ h = .ok ps h' → ps.length = ms.length := by
      intro ms
      induction ms with
      | nil => intro h ps h' e; unfold lDct at e; cases e; rfl
      | cons m ms ih =>
        obtain ⟨s, m⟩ := m
        intro h ps h' e
        unfold lDct PA.bnd at e
        cases e1 : m ρ h with
        | bad => rw [e1] at e; cases e
        | exc a b => rw [e1] at e; cases e
        | ok v h1 =>
          rw [e1] at e
          dsimp only at e
          cases e2 : lDct ms ρ h1 with
          | bad => rw [e2] at e; cases e
          | exc a b => rw [e2] at e; cases e
          | ok ws h2 => rw [e2] at e; cases e; simp [ih h1 ws _ e2]
    refine tpairs_imp ms (r.laid hq) (en.ext r exl) ?_
    cases e : lDct ms ρ hh with
    | bad => rw [e] at p'; exact p'.elim
    | exc e' h' => rw [e] at p'; exact fun ι1 H1 c d e1 r1 x1 => p' ι1 H1 c d (exl.trans e1) r1 x1
    | ok ps h1 =>
      intro ι1 H1 qs e1 r1 x1
      have hH1 : H1 q = some (.dK []) := e1.frame _ _ upd_same (fun _ z => nomatch z) fun l hl => r.off hq hl
      have off : ∀ l, l < h1.length → ι1 l ≠ q := fun l hl z => by
        by_cases zz : l < hh.length
        · exact r.off hq zz ((e1.agree l zz).symm.trans z)
        · have f := e1.fresh l (Nat.le_of_not_lt zz) hl
          rw [z, upd_same] at f
          cases f
      obtain ⟨kvs, k1, k2, k3⟩ := psr_keys x1
      refine ⟨hH1, kvs, k1, by rw [k2, lenp ms hh ps h1 e]; exact hms, ?_⟩
      have sq : ∀ a xs, SqT C.K H1 a xs → SqT C.K (upd H1 q (.dK (mergeK [] kvs))) a xs := fun a xs => side_sqT' hH1 (fun _ z => nomatch z) (fun _ _ z => nomatch z)
      have r2 : Rep C ι1 h1 (upd H1 q (.dK (mergeK [] kvs))) := r1.sideD hH1 off
      have ag : ∀ l, l < h1.length → put1 ι1 h1.length q l = ι1 l := fun l hl => put1_lt hl
      have kr := (k3 [] [] .nil).map sq (Nat.le_succ h1.length) ag
      have r3 := adopt (ao := .dct (ps.foldl (fun acc p => dPut acc (.str p.1) p.2) [])) r2 off ⟨_, upd_same, kr⟩
      have e3 : Ext ι hh.length H (put1 ι1 h1.length q) (h1 ++ [AO.dct (ps.foldl (fun acc p => dPut acc (.str p.1) p.2) [])]).length (upd H1 q (.dK (mergeK [] kvs))) := by
        rw [List.length_append, List.length_singleton]
        have et := exl.trans e1
        refine ⟨Nat.le_succ_of_le et.le, fun l hl => (put1_lt (Nat.lt_of_lt_of_le hl et.le)).trans (et.agree l hl), fun p o q1 q2 q3 => ?_, fun l a b => ?_, fun p q1 => ?_, fun p o w q1 => ?_⟩
        · rw [upd_ne (ne_of_none q1 hq)]; exact et.frame p o q1 q2 q3
        · by_cases z : l < h1.length
          · rw [put1_lt z]; exact et.fresh l a z
          · have : l = h1.length := by omega
            subst this
            rw [put1_same]; exact hq
        · by_cases z : p = q
          · rw [z, upd_same]; exact fun z => nomatch z
          · rw [upd_ne z]; exact et.dom p q1
        · rw [upd_ne (ne_of_none q1 hq)]; exact et.frz p o w q1
      have key : GPost C (AvR C) ι hh H Q (fun c d H' => W c d σ H') (.ok (.loc h1.length) (h1 ++ [.dct (ps.foldl (fun acc p => dPut acc (.str p.1) p.2) [])])) := by
        unfold eDisp PA.bnd at p
        rw [e] at p
        exact p
      refine key _ _ (.ref q) e3 r3 ?_
      have t : AvR C (put1 ι1 h1.length q) (h1 ++ [AO.dct (ps.foldl (fun acc p => dPut acc (.str p.1) p.2) [])]).length (upd H1 q (.dK (mergeK [] kvs))) (.loc h1.length) (.ref (put1 ι1 h1.length q h1.length)) := .loc (by simp)
      rw [put1_same] at t
      exact t
end
end PL
set_option maxRecDepth 100000
set_option maxHeartbeats 2000000
/-! Lift13: slots, properties, new instances, own ==. -/
namespace PL
open PySem PySem.Spec PyProof.Rows L2 PA
section
variable {C : Cz} {X : Cx} {j k : Nat}
/-- the slot f of the slotted class c -/
structure SltA (C : Cz) (c : String) (f : Str) : Prop where
  ex : ∃ names i p, C.sl c = some names ∧ names.Nodup ∧ names[i]? = some f ∧ SlX.SCls C.K (C.ad c) ∧ SlX.Slot1 C.K (C.ad c) f p i
/-- an instance of a slotted class -/
theorem slt_at {ι : Nat → Addr} {h : PA.Heap} {H : Hp} {l : Nat} {c : String} {fs : List (Str × AV)} {names : List Str} (r : Rep C ι h H) (e : h[l]? = some (.ins c fs)) (hs : C.sl c = some names) :
    ∃ dx vs, SlX.Slt H (ι l) (C.ad c) dx vs ∧ dx ≠ ι l ∧ SlsR C ι h.length H names fs vs ∧ ((H (ι l) = some (.ins (C.ad c) dx []) ∧ H dx = some (.own (ι l))) ∨ (H (ι l) = some (SlX.SlO (ι l) (C.ad c) dx vs) ∧ H dx = some (.xd []))) := by
  rcases r.at_ l _ e with ⟨e0, _⟩ | ⟨names', dx, vs, e0, sl, ne, q⟩
  · rw [hs] at e0; cases e0
  · rw [hs] at e0
    cases e0
    rcases sl with ⟨s1, s2, s3⟩ | ⟨s1, s2⟩
    · exact ⟨dx, vs, .inl ⟨s1, s3⟩, ne, q, .inl ⟨s1, s2⟩⟩
    · exact ⟨dx, vs, .inr ⟨s1, s2⟩, ne, q, .inr ⟨s1, s2⟩⟩
theorem re_sl {c : String} {f : Str} {e : Expr} {m : EE} {pos : Pos} (hK : X.K = C.K) (F : SltA C c f) (he : RE C X e m) (hb : attributeBase e f X.env (eval e X.env) = eval e X.env := by rfl) : RE C X (.Attribute e f pos) (eAttr c f m) := fun W tk =>
  PE_imp (SlX.pe_sl (he W tk) hb) fun σ H Q ⟨ι, h, ρ, r, en, p⟩ => ⟨ι, h, ρ, r, en, (GPost.bnd (R := AvR C) p).mono fun x H1 ⟨ι1, h1, a, r1, e1, x1, p1⟩ => by
    cases x1 with
    | @loc l hl =>
      dsimp only at p1
      cases z : h1[l]? with
      | none => rw [z] at p1; exact p1.elim
      | some o =>
        rw [z] at p1
        cases o with
        | ins c' fs =>
          dsimp only at p1
          by_cases zc : c' = c
          · subst zc
            rw [if_pos rfl] at p1
            obtain ⟨names, i, pp, hs, nd, hi, sc, s1⟩ := F.ex
            obtain ⟨dx, vs, st, ne, sr, _⟩ := slt_at r1 z hs
            cases hf : fs.lookup f with
            | none => rw [hf] at p1; exact p1.elim
            | some y =>
              rw [hf] at p1
              obtain ⟨v, e3, e4⟩ := sr i f y hi hf
              exact ⟨_, _, dx, pp, vs, i, v, rfl, st, by rw [hK]; exact sc, by rw [hK]; exact s1, e3, p1 ι1 H1 v Ext.refl r1 e4⟩
          · rw [if_neg zc] at p1; exact p1.elim
        | _ => exact p1.elim
    | _ => exact p1.elim⟩
theorem lookup_put {f g : Str} {x : AV} {fs : List (Str × AV)} : (PA.putF f x fs).lookup g = if g = f then some x else fs.lookup g := by
  induction fs with
  | nil =>
    unfold PA.putF
    by_cases e : g = f
    · rw [if_pos e, e]; simp [List.lookup]
    · have e' : (g == f) = false := by simpa using e
      rw [if_neg e]; simp [List.lookup, e']
  | cons p fs ih =>
    obtain ⟨k, w⟩ := p
    unfold PA.putF
    by_cases z : k = f
    · rw [if_pos z]
      by_cases e : g = f
      · rw [if_pos e, z, e]; simp [List.lookup]
      · have e' : (g == k) = false := by rw [z]; simpa using e
        rw [if_neg e]
        simp only [List.lookup, e']
    · rw [if_neg z]
      by_cases q : g = k
      · subst q
        rw [if_neg z]; simp [List.lookup]
      · have e' : (g == k) = false := by simpa using q
        simp only [List.lookup, e']
        exact ih
theorem rs_sl {c : String} {f : Str} {o e : Expr} {mo me : EE} {pos pos' : Pos} (hK : X.K = C.K) (F : SltA C c f) (ho : RE C X o mo) (he : RE C X e me) (hs : swapsWith e (some (.Attribute o f pos')) pos.line X.env = pure false := by rfl) : RS C X (.Assign [.Attribute o f pos'] e pos) (sAttr c mo f me) := fun W tk =>
  PS_imp (SlX.ps_sl (ho W tk) (he W tk) hs) fun D σ H ⟨ι, h, ρ, r, en, p⟩ => ⟨ι, h, ρ, r, en, (SPost.bnd (R := AvR C) r en p).mono fun y H1 ⟨ι1, h1, b, r1, e1, x1, p1⟩ =>
    ⟨ι1, h1, ρ, r1, en.ext r e1, (SPost.bnd (R := AvR C) r1 (en.ext r e1) p1).mono fun x H2 ⟨ι2, h2, a, r2, e2, x2, p2⟩ => by
      cases x2 with
      | @loc l hl =>
        dsimp only at p2
        cases z : h2[l]? with
        | none => rw [z] at p2; exact p2.elim
        | some o =>
          rw [z] at p2
          cases o with
          | ins c' fs =>
            dsimp only at p2
            by_cases zc : c' = c ∧ fs.length < 100
            · rw [if_pos zc] at p2
              obtain ⟨zc, zl⟩ := zc
              subst zc
              obtain ⟨names, i, pp, hsl, nd, hi, sc, s1⟩ := F.ex
              obtain ⟨dx, vs, st, ne, sr, cse⟩ := slt_at r2 z hsl
              refine ⟨_, _, dx, pp, vs, i, rfl, st, by rw [hK]; exact sc, by rw [hK]; exact s1, ?_⟩
              have xb := r1.av e2 x1
              -- the new heap
              have hdx : ∃ u0, H2 dx = some u0 ∧ (∀ xs, u0 ≠ .tup xs) ∧ (∀ o w, u0 ≠ .frz o w) := by
                rcases cse with ⟨_, h2⟩ | ⟨_, h2⟩
                · exact ⟨_, h2, (fun _ z => nomatch z), (fun _ _ z => nomatch z)⟩
                · exact ⟨_, h2, (fun _ z => nomatch z), (fun _ _ z => nomatch z)⟩
              obtain ⟨u0, hd0, nt, nf⟩ := hdx
              obtain ⟨w0, ha0, _⟩ := (r2.at_ l _ z).kind
              have ntA : ∀ xs, w0 ≠ .tup xs := fun xs zz => (r2.at_ l _ z).notup (xs := xs) (.inl (by rw [ha0, zz]))
              have nfA : ∀ o w, w0 ≠ .frz o w := fun o w zz => by
                rcases cse with ⟨h1, _⟩ | ⟨h1, _⟩
                · rw [ha0] at h1; rw [zz] at h1; cases h1
                · rw [ha0] at h1; rw [zz] at h1; exact slO_nofrz (Option.some.inj h1).symm
              have hA' : (upd H2 dx (.xd [])) (ι2 l) = some w0 := by rw [upd_ne ne.symm]; exact ha0
              have sq : ∀ a xs, SqT C.K H2 a xs → SqT C.K (SlX.slH H2 (ι2 l) (C.ad c') dx (SlX.putS i y vs)) a xs := fun a xs t =>
                side_sqT' hA' ntA nfA (side_sqT' hd0 nt nf t)
              have at1 : (SlX.slH H2 (ι2 l) (C.ad c') dx (SlX.putS i y vs)) (ι2 l) = some (SlX.SlO (ι2 l) (C.ad c') dx (SlX.putS i y vs)) := upd_same
              have at2 : (SlX.slH H2 (ι2 l) (C.ad c') dx (SlX.putS i y vs)) dx = some (.xd []) := by unfold SlX.slH; rw [upd_ne ne, upd_same]
              have other : ∀ q, q ≠ ι2 l → q ≠ dx → (SlX.slH H2 (ι2 l) (C.ad c') dx (SlX.putS i y vs)) q = H2 q := fun q q1 q2 => by unfold SlX.slH; rw [upd_ne q1, upd_ne q2]
              have noimg : ∀ l', l' < h2.length → ι2 l' ≠ dx := fun l' hl' zz => by
                obtain ⟨o', _, ob'⟩ := r2.there hl'
                rw [zz] at ob'
                rcases cse with ⟨_, h2⟩ | ⟨_, h2⟩
                · exact ob'.noown h2
                · exact ob'.noxd h2
              have ex : Ext ι2 h2.length H2 ι2 h2.length (SlX.slH H2 (ι2 l) (C.ad c') dx (SlX.putS i y vs)) := by
                refine ⟨Nat.le_refl _, fun _ _ => rfl, fun q o q1 q2 q3 => ?_, fun l a b => absurd (Nat.lt_of_lt_of_le b a) (Nat.lt_irrefl _), fun q q1 => ?_, fun q o u q1 => ?_⟩
                · by_cases qd : q = dx
                  · subst qd
                    rcases cse with ⟨_, h2⟩ | ⟨_, h2⟩
                    · rw [h2] at q1; cases q1; exact absurd rfl (q2 _)
                    · rw [h2] at q1; cases q1; exact at2
                  · rw [other q (fun zz => q3 l hl zz.symm) qd]; exact q1
                · by_cases qa : q = ι2 l
                  · rw [qa, at1]; exact fun z => nomatch z
                  · by_cases qd : q = dx
                    · rw [qd, at2]; exact fun z => nomatch z
                    · rw [other q qa qd]; exact q1
                · rw [other q (fun zz => by rw [zz, ha0] at q1; exact nfA _ _ (Option.some.inj q1)) (fun zz => by rw [zz, hd0] at q1; exact nf _ _ (Option.some.inj q1))]
                  exact q1
              have r3 : Rep C ι2 (h2.set l (.ins c' (PA.putF f b fs))) (SlX.slH H2 (ι2 l) (C.ad c') dx (SlX.putS i y vs)) := by
                refine ⟨fun l' o' eo => ?_, fun a b h1' h2' eq => r2.inj a b (by simpa using h1') (by simpa using h2') eq, r2.scr.keep ex.frz⟩
                rw [List.length_set]
                by_cases ql : l = l'
                · subst ql
                  rw [List.getElem?_set_self hl] at eo
                  cases eo
                  refine .inr ⟨names, dx, _, hsl, .inr ⟨at1, at2⟩, ne, fun i' f' x' h1' h2' => ?_⟩
                  rw [lookup_put] at h2'
                  by_cases ef : f' = f
                  · rw [if_pos ef] at h2'
                    cases h2'
                    have : i' = i := nodup_ix nd h1' (ef ▸ hi)
                    subst this
                    exact ⟨y, SlX.putS_get _ _ _, xb.map sq (Nat.le_refl _) fun _ _ => rfl⟩
                  · rw [if_neg ef] at h2'
                    obtain ⟨v, e3, e4⟩ := sr i' f' x' h1' h2'
                    have ni : i' ≠ i := fun zz => ef (by rw [zz, hi] at h1'; exact (Option.some.inj h1').symm)
                    exact ⟨v, (SlX.putS_ne ni).mpr e3, e4.map sq (Nat.le_refl _) fun _ _ => rfl⟩
                · rw [List.getElem?_set_ne ql] at eo
                  have hk := (List.getElem?_eq_some_iff.mp eo).1
                  have nl : ι2 l' ≠ ι2 l := fun zz => ql (r2.inj l' l hk hl zz).symm
                  refine r2.obr ex (r2.at_ l' o' eo) (other _ nl (noimg l' hk)) fun dx' qd => ?_
                  rw [other dx' (fun zz => ?_) (fun zz => ?_)]
                  · exact qd
                  · rw [zz] at qd; exact (r2.at_ l _ z).noown qd
                  · rw [zz] at qd
                    rcases cse with ⟨_, h3⟩ | ⟨_, h3⟩
                    · rw [h3] at qd
                      injection qd with qd
                      injection qd with qd
                      exact nl qd.symm
                    · rw [h3] at qd; cases qd
              refine p2 ι2 _ σ (by rw [List.length_set]; exact ex) r3 ?_
              rw [List.length_set]
              exact ((en.ext r e1).ext r1 e2).ext r2 ex
            · rw [if_neg zc] at p2; exact p2.elim
          | _ => exact p2.elim
      | _ => exact p2.elim⟩⟩

/-! ### no exception leaves -/
theorem GPost.noExc {α β : Type} {R : RR α β} {ι : Nat → Addr} {h : PA.Heap} {H : Hp} {Q : β → Hp → Prop} {W W' : XK} {r : Res α} (p : GPost C R ι h H Q W (PA.noExc r)) : GPost C R ι h H Q W' r := by
  cases r with
  | ok a h1 => exact p
  | exc e h1 => exact p.elim
  | bad => exact p.elim
/-- a property of a class without slots -/
theorem re_prop {c : String} {f : Str} {F : FF} {e : Expr} {m : EE} {pos : Pos} (g : Gd C X j) (P : PrpA C k c f F) (he : RE C X e m) (hk : k + 1 ≤ j := by decide) (hb : attributeBase e f X.env (eval e X.env) = eval e X.env := by rfl) : RE C X (.Attribute e f pos) (eProp c F m) := fun W tk => by
  obtain ⟨p, f', fd, ps, fn, hc, hp, hbd⟩ := P.ex
  unfold FnA at fn
  rw [← g.hP, ← g.hw, ← g.hK, ← g.hm, ← g.hb] at fn
  rw [← g.hK] at hc hp hbd
  refine PE_imp (pe_prop (he W tk) hc hp fn (g.room.mono hk) hbd .nil (passL (X := X.nox)) hb) fun σ H Q ⟨ι, h, ρ, r, en, p⟩ => ⟨ι, h, ρ, r, en, (GPost.bnd (R := AvR C) p).mono fun x H1 ⟨ι1, h1, a, r1, e1, x1, p1⟩ => ?_⟩
  by_cases z : isIns c h1 a = true
  · rw [if_pos z] at p1
    obtain ⟨q, dx, fs, gs, l', rfl, ea, el, eh, fr⟩ := isIns_of P.us r1 x1 z
    exact ⟨q, dx, gs, rfl, eh, ι1, h1, [a], r1, .cons x1 .nil, p1.noExc⟩
  · rw [if_neg z] at p1; exact p1.elim
/-- a property of a slotted class -/
structure PrpS (C : Cz) (k : Nat) (c : String) (m : Str) (F : FF) : Prop where
  ex : ∃ p f fd ps names, FnA C k f fd ps F ∧ SlX.SCls C.K (C.ad c) ∧ PropOf C.K (C.ad c) m p f ∧ Binds C.K fd ps [] ∧ C.sl c = some names
theorem isIns_sl {c : String} {h : PA.Heap} {ι : Nat → Addr} {H : Hp} {a : AV} {x : V} {names : List Str} (us : C.sl c = some names) (r : Rep C ι h H) (xa : AvR C ι h.length H a x) (z : isIns c h a = true) : ∃ q dx vs, x = .ref q ∧ SlX.Slt H q (C.ad c) dx vs := by
  cases xa with
  | @loc l hl =>
    unfold isIns at z
    dsimp only at z
    cases e : h[l]? with
    | none => rw [e] at z; cases z
    | some o =>
      rw [e] at z
      cases o with
      | ins c' fs =>
        have zc : c' = c := of_decide_eq_true z
        subst zc
        obtain ⟨dx, vs, st, _⟩ := slt_at r e us
        exact ⟨_, dx, vs, rfl, st⟩
      | _ => cases z
  | _ => cases z
theorem re_propS {c : String} {f : Str} {F : FF} {e : Expr} {m : EE} {pos : Pos} (g : Gd C X j) (P : PrpS C k c f F) (he : RE C X e m) (hk : k + 1 ≤ j := by decide) (hb : attributeBase e f X.env (eval e X.env) = eval e X.env := by rfl) : RE C X (.Attribute e f pos) (eProp c F m) := fun W tk => by
  obtain ⟨p, f', fd, ps, names, fn, hc, hp, hbd, us⟩ := P.ex
  unfold FnA at fn
  rw [← g.hP, ← g.hw, ← g.hK, ← g.hm, ← g.hb] at fn
  rw [← g.hK] at hc hp hbd
  have fr := fn.raw hbd (dvs := []) .nil
  refine PE_imp (SlX.pe_propSl (E := E0) (he W tk) hc hp.at_ hp.get hp.tak hp.rec_ fr (g.room.mono hk) (fun H s e s' z => by obtain ⟨_, _, _, _, _, _, _, _, _, _, _, _, z⟩ := z; exact z) hb) fun σ H Q ⟨ι, h, ρ, r, en, p⟩ => ⟨ι, h, ρ, r, en, (GPost.bnd (R := AvR C) p).mono fun x H1 ⟨ι1, h1, a, r1, e1, x1, p1⟩ => ?_⟩
  by_cases z : isIns c h1 a = true
  · rw [if_pos z] at p1
    obtain ⟨q, dx, vs, rfl, st⟩ := isIns_sl us r1 x1 z
    exact ⟨q, dx, vs, rfl, st, ι1, h1, [a], r1, .cons x1 .nil, p1.noExc⟩
  · rw [if_neg z] at p1; exact p1.elim
/-- o.m() of a slotted class, nothing leaves -/
structure MetS (C : Cz) (k : Nat) (c : String) (m : Str) (F : FF) : Prop where
  ex : ∃ f fd ps names, FnA C k f fd ps F ∧ SlX.SCls C.K (C.ad c) ∧ Meth C.K (C.ad c) m f ∧ Binds C.K fd ps [] ∧ C.sl c = some names
theorem re_methS0 {c : String} {m : Str} {F : FF} {o : Expr} {mo : EE} {apos pos : Pos} {pl : Sem Bool} (g : Gd C X j) (M : MetS C k c m F) (ho : RE C X o mo) (hk : k ≤ j := by decide)
    (ht : eval (.Call (.Attribute o m apos) [] [] pos) X.env = (do
      let ov ← eval o X.env
      standAt apos.atName
      let (f, first) ← holding [ov] (getMethod ov m pl)
      callWith pos f first (backTo pos (starEach [] X.env)) (backToKw pos (keywordEach [] X.env))) := by rfl) :
    RE C X (.Call (.Attribute o m apos) [] [] pos) (eMethS c F mo lNil) := fun W tk => by
  obtain ⟨f, fd, ps, names, fn, hc, hm, hb, us⟩ := M.ex
  unfold FnA at fn
  rw [← g.hP, ← g.hw, ← g.hK, ← g.hm, ← g.hb] at fn
  rw [← g.hK] at hc hm hb
  refine ⟨fun pins s σ H Q I q => ?_⟩
  obtain ⟨ι, h, ρ, r, en, p⟩ := q
  refine PySem.W.methodCall_KW (pl := pl) (thn ((ho W tk).run pins s σ H _ I ⟨ι, h, ρ, r, en, GPost.bnd (R := AvR C) p⟩) fun u s1 ⟨x, H1, I1, rx, ι1, h1, a, r1, e1, x1, p1⟩ => ?_) ht
  by_cases z : isIns c h1 a = true
  · rw [if_pos z] at p1
    obtain ⟨q, dx, vs, rfl, st⟩ := isIns_sl us r1 x1 z
    obtain rfl : u = Value.ref q := rx
    refine SlX.getmethsl_ok I1 st hc hm ?_
    exact PySem.W.callWith_K0 (first := [.ref q]) I1.kIn hm.kp (run_fnS (us := [.ref q]) (vs := [.ref q]) (E := WE W) fn (g.room.mono hk) hb (passAt tk σ) I1 (.cons rfl .nil) ⟨ι1, h1, [a], r1, .cons x1 .nil, p1⟩)
  · rw [if_neg z] at p1; exact p1.elim
/-- a == b, both instances of the slotted class c with its own __eq__ -/
structure EqS (C : Cz) (k : Nat) (c : String) (F : FF) : Prop where
  ex : ∃ f fd ps names, FnA C k f fd ps F ∧ SlX.SCls C.K (C.ad c) ∧ PySem.W.findIn C.K (.ref (C.ad c)) "__eq__" = some (some (.ref f)) ∧ PySem.W.isFn C.K (.ref f) = true ∧ Binds C.K fd ps [] ∧ C.sl c = some names ∧ PySem.W.notFirst C.K (C.ad c) (.ref (C.ad c)) = true
theorem op_ownEq {c : String} {F : FF} (g : Gd C X j) (M : EqS C k c F) (hk : k ≤ j := by decide) : OpA C X (compareOp .Eq) (oOwnEq c F) := by
  obtain ⟨f, fd, ps, names, fn, hc, hf, hfn, hb, us, nf⟩ := M.ex
  unfold FnA at fn
  rw [← g.hP, ← g.hw, ← g.hK, ← g.hm, ← g.hb] at fn
  rw [← g.hK] at hc hf hfn hb nf
  have fr := fn.raw hb (dvs := []) .nil
  have base := SlX.op_own (X := X) (op := .Eq) (E := E0) (fun _ _ => rfl) hf hfn fr (g.room.mono hk) (passL (X := X))
  intro pins s σ H x y v u Q I rx ry ⟨ι, h, a, b, W, r, xa, xb, p⟩
  unfold oOwnEq at p
  by_cases z : (isIns c h a && isIns c h b) = true
  · rw [if_pos z] at p
    rw [Bool.and_eq_true] at z
    obtain ⟨q, dx, vs, rfl, st⟩ := isIns_sl us r xa z.1
    obtain ⟨q', dx', vs', rfl, st'⟩ := isIns_sl us r xb z.2
    exact base pins s σ H _ _ v u Q I rx ry ⟨q, dx, vs, q', _, dx', vs', rfl, rfl, st, st', nf, ι, h, [a, b], r, .cons xa (.cons xb .nil), p.noExc⟩
  · rw [if_neg z] at p; exact p.elim

/-! ### C(..) -/
theorem run_makeA {c : String} {F : FF} {fI : Addr} {fd : FuncData} {ps : List Str} {pins : List (Addr × Obj)} {σ : L2.St} {H : Hp} {s : Shared} {Q : VK} {us : List Value} {vs : List V} {W : WX} (tk : Takes X W) (M : Mk X.K (C.ad c) fI) (fn : FnOk X.prog X.w X.K X.mg X.base (L2.CX X.prog X.w) k fI fd ps (spA C F)) (hr : Room (k + 1) X.A) (hb : Binds X.K fd ps [])
    (I : Inv X pins σ H s) (r : Vals vs us)
    (h : ∀ x dx, H x = none → H dx = none → dx ≠ x → spA C F (.ref x :: vs) (upd (upd H dx (.own x)) x (.ins (C.ad c) dx [])) (fun v H2 => v = .non ∧ Q (.ref x) H2) (WE W σ)) :
    wpAny (model X.prog X.w) X.A (PySem.call (.ref (C.ad c)) us) (EP X pins σ Q) X.xe s := by
  have hq := h (s.heap.objs.size + 1) s.heap.objs.size (I.hok.fresh (Nat.le_succ _)) (I.hok.fresh (Nat.le_refl _)) (Nat.ne_of_lt (Nat.lt_succ_self _))
  have I2 := Inv.made (C := C.ad c) I
  have r2 : Vals (V.ref (s.heap.objs.size + 1) :: vs) (Value.ref (s.heap.objs.size + 1) :: us) := .cons rfl r
  have hl : (Value.ref (s.heap.objs.size + 1) :: us).length = ps.length := by
    have e := r2.length
    rw [fn.len _ _ _ _ hq] at e
    exact e.symm
  have b2 := hb { s with heap := (s.heap.push { cls := .type "dict", data := .dict #[] }).push (PySem.W.instObj (C.ad c) s.heap.objs.size) } (Value.ref (s.heap.objs.size + 1) :: us)
  refine wpAny_call (make_map (f := fI) I.kIn M.makes M.init (beq_iff_eq.mp M.fn) (codeAny_mono (fn.run _ X.stack _ _ ⟨Value.ref (s.heap.objs.size + 1) :: us, []⟩ (Value.ref (s.heap.objs.size + 1) :: us) _ _ (WE W σ) (hr.make (C.ad c) us [])
    (I2.env0.make (C.ad c) us []) (by
      have := hb _ (Value.ref (s.heap.objs.size + 1) :: us) I2.kIn (by rw [List.append_nil]; exact hl)
      rw [List.append_nil] at this
      exact this) r2 hq) fun r s' hq' => ?_))
  cases r with
  | error e => exact passAt tk σ pins _ _ e s' I2 hq'
  | ok fl =>
    cases fl with
    | ret u =>
      obtain ⟨v, H', I3, rv, ev, q3⟩ := I2.after hq'
      subst ev
      exact ⟨rv, ⟨V.ref (s.heap.objs.size + 1), H', I3, rfl, q3⟩⟩
    | next => exact False.elim hq'
    | brk => exact False.elim hq'
    | cont => exact False.elim hq'
/-- the new instance, then __init__ -/
theorem make_imp {c : String} {F : FF} {ι : Nat → Addr} {h : PA.Heap} {H : Hp} {as : List AV} {vs : List V} {Q : VK} {W : XK} (r : Rep C ι h H) (xs : AvRs C ι h.length H as vs)
    (p : GPost C (AvR C) ι h H Q W (match F (.loc h.length :: as) (h ++ [.ins c []]) with
      | .ok .non h' => .ok (.loc h.length) h'
      | .ok _ _ => .bad
      | .exc e h' => .exc e h'
      | .bad => .bad)) (x dx : Addr) (hx : H x = none) (hdx : H dx = none) (ne : dx ≠ x) : spA C F (.ref x :: vs) (upd (upd H dx (.own x)) x (.ins (C.ad c) dx [])) (fun v H2 => v = .non ∧ Q (.ref x) H2) W := by
  have r1 : Rep C ι h (upd H dx (.own x)) := r.laid hdx
  have ex1 : Ext ι h.length H ι h.length (upd H dx (.own x)) := Ext.laid r hdx
  have hx1 : (upd H dx (.own x)) x = none := by rw [upd_ne ne.symm]; exact hx
  have ex2 := Ext.grow (o := .ins (C.ad c) dx []) r1 hx1
  have ob : ObR C (put1 ι h.length x) (h.length + 1) (upd (upd H dx (.own x)) x (.ins (C.ad c) dx [])) x (.ins c []) := by
    cases z : C.sl c with
    | none => exact .inl ⟨z, dx, [], upd_same, .nil⟩
    | some names => exact .inr ⟨names, dx, [], z, .inl ⟨upd_same, by rw [upd_ne ne, upd_same], rfl⟩, ne, fun i f y h1 h2 => by cases h2⟩
  have r2 := r1.grow (ao := .ins c []) hx1 ob
  have ex : Ext ι h.length H (put1 ι h.length x) (h ++ [AO.ins c []]).length (upd (upd H dx (.own x)) x (.ins (C.ad c) dx [])) := by
    rw [List.length_append, List.length_singleton]
    exact ex1.trans ex2
  have lx : AvR C (put1 ι h.length x) (h ++ [AO.ins c []]).length (upd (upd H dx (.own x)) x (.ins (C.ad c) dx [])) (.loc h.length) (.ref x) := by
    have t : AvR C (put1 ι h.length x) (h ++ [AO.ins c []]).length (upd (upd H dx (.own x)) x (.ins (C.ad c) dx [])) (.loc h.length) (.ref (put1 ι h.length x h.length)) := .loc (by simp)
    rw [put1_same] at t
    exact t
  refine ⟨put1 ι h.length x, h ++ [.ins c []], .loc h.length :: as, r2, .cons lx (r.avs ex xs), ?_⟩
  cases e : F (.loc h.length :: as) (h ++ [.ins c []]) with
  | bad => rw [e] at p; exact p.elim
  | exc e' h' => rw [e] at p; exact fun ι1 H1 c d e1 r1 x1 => p ι1 H1 c d (ex.trans e1) r1 x1
  | ok v h' =>
    rw [e] at p
    cases v with
    | non =>
      intro ι1 H1 b e1 r1 x1
      cases x1
      refine ⟨rfl, p ι1 H1 (.ref x) (ex.trans e1) r1 ?_⟩
      have t : AvR C ι1 h'.length H1 (.loc h.length) (.ref (ι1 h.length)) := .loc (Nat.lt_of_lt_of_le (by simp) e1.le)
      rw [e1.agree h.length (by simp), put1_same] at t
      exact t
    | _ => exact p.elim
theorem re_make {c : String} {x : Str} {F : FF} {e : Expr} {es : List Expr} {l : LL} {p pos : Pos} (g : Gd C X j) (M : MakA C k c x F) (hl : RL C X (e :: es) l) (hk : k + 1 ≤ j := by decide) (hg : Gl X x := by rfl) (hdb : (x == ("__debug__" : Str)) = false := by decide)
    (he : starEach (e :: es) X.env = (false, eval e X.env) :: starEach es X.env := by rfl) (hpl : (backTo pos (starEach es X.env)).any (·.1) = false := by rfl) :
    RE C X (.Call (.Name x p) (e :: es) [] pos) (eMake c F l) := fun W tk => by
  obtain ⟨f, fd, ps, fn, mk, hm, hb⟩ := M.ex
  unfold FnA at fn
  rw [← g.hP, ← g.hw, ← g.hK, ← g.hm, ← g.hb] at fn
  rw [← g.hm] at hm
  rw [← g.hK] at mk hb
  refine ⟨fun pins s σ H Q I q => ?_⟩
  obtain ⟨ι, h, ρ, r, en, p⟩ := q
  refine wpAny_Call_Name_kw (ld_glob I hg hm ?_ hdb)
  refine PySem.W.callWith_K (h₀ := X.base) I.ok.mod.kin mk.kp (thn ((hl W tk).run pos pins s σ H _ I ⟨ι, h, ρ, r, en, GPost.bnd (R := AvRs C) p⟩) fun us s1 ⟨vs, H1, I1, r', ι1, h1, as, r1, e1, x1, p1⟩ => ⟨I1.kIn, ?_⟩) he hpl
  exact run_makeA tk mk fn (g.room.mono hk) hb I1 r' fun x dx hx hdx ne => make_imp r1 x1 p1 x dx hx hdx ne
end
end PL
set_option maxRecDepth 100000
set_option maxHeartbeats 2000000
/-! Lift14: names of the module, o.f += e, int of a text, isinstance of own classes, never. -/
namespace PL
open PySem PySem.Spec PyProof.Rows L2 PA
section
variable {C : Cz} {X : Cx} {j k : Nat}
theorem rs_never {st : Stmt} : RS C X st sBad := fun W tk => PS_imp ps_never fun D σ H ⟨ι, h, ρ, r, en, p⟩ => p
theorem rss_never {st : List Stmt} : RSs C X st sBad := fun W tk => PSs_imp pss_never fun D σ H ⟨ι, h, ρ, r, en, p⟩ => p
theorem rt_chain {op op' : CmpOp} {o o' : O2} {a b c : Expr} {ma mb mc : EE} {pos : Pos} (ho : OpA C X (compareOp op) o) (ho' : OpA C X (compareOp op') o') (ha : RE C X a ma) (hb : RE C X b mb) (hc : RE C X c mc)
    (hm : lastMarks [op, op'] [b, c] = false := by with_unfolding_all rfl) : RT C X (.Compare a [op, op'] [b, c] pos) (tB (eChain o o' ma mb mc)) := fun W tk =>
  PT_imp (pt_chain ho ho' (ha W tk) (hb W tk) (hc W tk) hm) fun σ H Q q => chain_imp (tB_imp q)
/-- a name of the module whose value is known -/
structure GlA (C : Cz) (x : Str) (a : AV) : Prop where
  ex : ∃ v u, C.mg x = some u ∧ RelV v u ∧ ∀ ι n H, AvR C ι n H a v
theorem re_gl {x : Str} {a : AV} {pos : Pos} (g : Gd C X j) (G : GlA C x a) (hg : Gl X x := by rfl) (hd : (x == ("__debug__" : Str)) = false := by decide) : RE C X (.Name x pos) (eC a) := by
  obtain ⟨v, u, hm, r, k⟩ := G.ex
  exact re_c (pe_glob hg (by rw [g.hm]; exact hm) r hd) fun ι n H => k ι n H
theorem re_bty {x : Str} {T : String} {pos : Pos} (g : Gd C X j) (hm : C.mg x = none) (hv : bootBuiltins x = some (.type T)) (hg : Gl X x := by rfl) (hn : x ≠ "__name__" := by decide) (hd : (x == ("__debug__" : Str)) = false := by decide) : RE C X (.Name x pos) (eC (.ty T)) :=
  re_c (pe_bltn (v := .ty T) hg (by rw [g.hm]; exact hm) hv rfl hn hd) fun _ _ _ => .ty T
/-- int(text): the texts whose value is told -/
theorem cr_intS {val : Str → Option Int} (hv : ∀ z n, val z = some n → PySem.intText? z = some n ∧ z.length ≤ 640) : CrA C X (.type "int") (bIntS val) := by
  intro pins s σ H xs us Q I rv ⟨ι, h, as, W, r, x, p⟩
  cases x with
  | nil => exact p.elim
  | cons a b =>
    cases b with
    | cons _ _ => cases a <;> exact p.elim
    | nil =>
      cases a with
      | str z =>
        unfold bIntS at p
        dsimp only at p
        cases e : val z with
        | none => rw [e] at p; exact p.elim
        | some n =>
          rw [e] at p
          obtain ⟨h1, h2⟩ := hv z n e
          exact call_int_str pins s σ H _ us Q I rv ⟨z, n, rfl, h1, h2, p ι H _ Ext.refl r (.int _)⟩
      | _ => exact p.elim
theorem sBnd_ok {α : Type} {m : PA.Env → PA.Heap → Res α} {k : α → SS} {ρ : PA.Env} {h h' : PA.Heap} {a : α} (e : m ρ h = .ok a h') : sBnd m k ρ h = k a ρ h' := by
  unfold sBnd; rw [e]
theorem rs_fldaug {c : String} {f : Str} {o e : Expr} {mo me : EE} {op : Operator} {oo : O2} {pos pos' : Pos} (hK : X.K = C.K) (F : FldA C c f) (hop : ∀ (pins : List (Addr × Obj)) (s : Shared) (σ : L2.St) (H : Hp) (x y : V) (u v : Value) (Q : VK), Inv X pins σ H s → RelV x u → RelV y v → rA C oo x y H Q → wpAny (model X.prog X.w) X.A (inplaceOp op u v) (EP X pins σ Q) X.xe s)
    (ho : RE C X o mo) (he : RE C X e me) : RS C X (.AugAssign (.Attribute o f pos') op e pos) (sAttrAug c oo mo f me) := fun W tk =>
  PS_imp (ps_fldaug (rd := rA C oo) (ho W tk) (he W tk) hop) fun D σ H ⟨ι, h, ρ, r, en, p⟩ => ⟨ι, h, ρ, r, en, (SPost.bnd (R := AvR C) r en p).mono fun x H1 ⟨ι1, h1, a, r1, e1, x1, p1⟩ => by
    cases x1 with
    | @loc l hl =>
      cases z : h1[l]? with
      | none => unfold sBnd at p1; dsimp only at p1; rw [z] at p1; exact p1.elim
      | some ob =>
        cases ob with
        | ins c' fs =>
          by_cases zc : c' = c
          · subst zc
            rcases r1.at_ l _ z with ⟨_, dx, gs, eh, fr⟩ | ⟨names, dx, vs, e0, _⟩
            · rcases fr.lookup f with ⟨y, v, l1, l2, xv⟩ | ⟨l1, l2⟩
              · rw [sBnd_ok (a := y) (h' := h1) (by dsimp only; rw [z]; dsimp only; rw [if_pos rfl, l1])] at p1
                refine ⟨_, _, dx, gs, v, rfl, eh, by rw [hK]; exact F.cl, by rw [hK]; exact F.no, l2, ι1, h1, ρ, r1, en.ext r e1, (SPost.bnd (R := AvR C) (m := me) r1 (en.ext r e1) p1).mono fun w H2 ⟨ι2, h2, b, r2, e2, x2, p2⟩ => ?_⟩
                refine ⟨ι2, h2, y, b, _, r2, r1.av e2 xv, x2, (SPost.bnd (R := AvR C) (m := fun _ => oo y b) r2 ((en.ext r e1).ext r1 e2) p2).mono fun t H3 ⟨ι3, h3, d, r3, e3, x3, p3⟩ => ?_⟩
                dsimp only at p3
                cases z3 : h3[l]? with
                | none => rw [z3] at p3; exact p3.elim
                | some ob3 =>
                  cases ob3 with
                  | ins c3 fs3 =>
                    rw [z3] at p3
                    dsimp only at p3
                    by_cases zz : c3 = c' ∧ fs3.length < 100
                    · rw [if_pos zz] at p3
                      obtain ⟨zz, zl⟩ := zz
                      subst zz
                      have ag : ι3 l = ι1 l := ((e2.trans e3).agree l hl)
                      have hl3 := (List.getElem?_eq_some_iff.mp z3).1
                      rcases r3.at_ l _ z3 with ⟨us, dx3, gs3, eh3, fr3⟩ | ⟨names, dx, vs, e0, _⟩
                      · have nf : ∀ o u, H3 (ι3 l) ≠ some (.frz o u) := fun o u q => by rw [eh3] at q; cases q
                        have ex := Ext.chg (u := .ins (C.ad c3) dx3 (L2.putF f t gs3)) r3 hl3 nf
                        rw [← ag]
                        refine ⟨dx3, gs3, eh3, by rw [← fr3.length]; omega, p3 ι3 _ σ (by rw [List.length_set]; exact ex) (r3.chg hl3 nf (.inl ⟨us, dx3, _, upd_same, (r3.fsr ex fr3).put (r3.av ex x3) f⟩)) ?_⟩
                        rw [List.length_set]
                        exact (((en.ext r e1).ext r1 e2).ext r2 e3).ext r3 ex
                      · rw [F.us] at e0; cases e0
                    · rw [if_neg zz] at p3; exact p3.elim
                  | _ => rw [z3] at p3; exact p3.elim
              · unfold sBnd at p1
                dsimp only at p1
                rw [z] at p1
                dsimp only at p1
                rw [if_pos rfl, l1] at p1
                exact p1.elim
            · rw [F.us] at e0; cases e0
          · unfold sBnd at p1
            dsimp only at p1
            rw [z] at p1
            dsimp only at p1
            rw [if_neg zc] at p1
            exact p1.elim
        | _ => unfold sBnd at p1; dsimp only at p1; rw [z] at p1; exact p1.elim
    | _ => exact p1.elim⟩
/-- x += e of whole numbers -/
theorem io_add : ∀ (pins : List (Addr × Obj)) (s : Shared) (σ : L2.St) (H : Hp) (x y : V) (u v : Value) (Q : VK), Inv X pins σ H s → RelV x u → RelV y v → rA C oAddI x y H Q → wpAny (model X.prog X.w) X.A (inplaceOp .Add u v) (EP X pins σ Q) X.xe s := by
  intro pins s σ H x y u v Q I rx ry ⟨ι, h, a, b, W, r, xa, xb, p⟩
  cases xa with
  | int i =>
    cases xb with
    | int j => exact ip_add pins s σ H _ _ u v Q I rx ry ⟨i, j, rfl, rfl, p ι H _ Ext.refl r (.int _)⟩
    | _ => exact p.elim
  | _ => exact p.elim
end
end PL
set_option maxRecDepth 100000
set_option maxHeartbeats 2000000
/-! Lift15: enumerate. -/
namespace PySem
open Sem (wp)
set_option maxHeartbeats 1000000 in
theorem meets_enumerate_newB1 {v : Value} {o : Obj} {H : Heap → Prop} (B : Begins v o H) :
    Meets (Builtin.«enumerate.__new__» ⟨[.type "enumerate", v], []⟩) (fun _ R s => H s.heap ∧
      R (.ok (.ret (.ref (s.heap.push o).objs.size))) { s with heap := (s.heap.push o).push { cls := .type "enumerate", data := .fields #[.none, .bool false, .ref s.heap.objs.size, rawInt 0, .none, .none] } }) :=
  .of_wp fun prog w A R s h => by
    obtain ⟨hp, g, d, tk, os⟩ := s; obtain ⟨h1, h⟩ := h
    have hsub := sub_enumerate
    have q1 : ∀ {A' : Around} {E : Value → Shared → Prop} {Q : Value → Shared → Prop}, Q (.ref hp.objs.size) ⟨hp.push o, g, d, tk, os⟩ → wpAny (model prog w) A' (pyIter v) Q E ⟨hp, g, d, tk, os⟩ :=
      fun q => B.iter prog w _ _ ⟨hp, g, d, tk, os⟩ _ h1 q
    wp_walk using q1
    refine wpAny_stack_any fun st => wpAny_pure ?_
    split
    · rename_i c _ _ _ _ _
      cases (c == Value.type "enumerate")
      · wp_walk using q1
        exact ⟨_, rfl, h⟩
      · wp_walk using q1
        exact ⟨_, rfl, h⟩
    · wp_walk using q1
      exact ⟨_, rfl, h⟩
section
variable {prog : Program} {w : World} {A : Around} {E : Value → Shared → Prop} {s : Shared}
/-- enumerate(v): its two new cells -/
theorem enum_begins1 {v : Value} {o : Obj} {H : Heap → Prop} {Q : Value → Shared → Prop} (B : Begins v o H) (h1 : H s.heap)
    (h : ∀ h', IsEnum h' (s.heap.objs.size + 1) s.heap.objs.size 0 .none → h'.get? s.heap.objs.size = some o → h'.objs.size = s.heap.objs.size + 2 →
      (∀ b o, s.heap.get? b = some o → h'.get? b = some o) → Q (.ref (s.heap.objs.size + 1)) { s with heap := h' }) :
    wpAny (model prog w) A (call (.type "enumerate") [v]) Q E s := by
  refine callType_new F.called_enumerate (by decide) (F.typeCall_enumerate_1 _) (F.newCall_enumerate_1 _) (fun obj => F.args_object_init_2 obj _) F.entry_enumerate_new
    (meets_enumerate_newB1 B) ⟨h1, ?_⟩
  have hz : (s.heap.push o).objs.size = s.heap.objs.size + 1 := Heap.size_push ..
  show _ ∧ _
  rw [hz]
  have he : IsEnum ((s.heap.push o).push { cls := .type "enumerate", data := .fields #[.none, .bool false, .ref s.heap.objs.size, rawInt 0, .none, .none] }) (s.heap.objs.size + 1) s.heap.objs.size 0 .none := by
    have := Heap.get?_push_size (s.heap.push o) (o := { cls := .type "enumerate", data := .fields #[.none, .bool false, .ref s.heap.objs.size, rawInt 0, .none, .none] }) rfl
    rw [hz] at this; exact this
  refine ⟨⟨_, he, rfl⟩, h _ he (Heap.get?_push_of_some _ (Heap.get?_push_size _ B.free)) (by rw [Heap.size_push, hz]) fun b o x => Heap.get?_push_of_some _ (Heap.get?_push_of_some _ x)⟩
end
end PySem
namespace PL
open PySem PySem.Spec PyProof.Rows L2 PA
/-- the tuple at a, each item in a new pair -/
def IteT (K : PySem.W.Frag) (a : Addr) : It :=
  ⟨fun i H => ∃ (xs : List V) (x : V), SqT K H a xs ∧ xs[i]? = some x, fun i H v H' => ∃ T x, v = .ref T ∧ H T = none ∧ H' = upd H T (.tup [.int (i : Nat), x]) ∧ ∀ xs, SqT K H a xs → xs[i]? = some x, fun i H => ∃ xs : List V, SqT K H a xs ∧ xs.length ≤ i⟩
theorem tupIt_ne {h : PySem.Heap} {it a : Addr} {i : Nat} {items : Array Value} (x : h.IsTupleIter it a i) (y : h.IsTuple a items) : a ≠ it := by
  intro z
  subst z
  obtain ⟨o, e, c, _⟩ := x
  obtain ⟨o', e', c', _⟩ := y
  rw [e] at e'
  cases e'
  rw [c] at c'
  injection c' with c'
  exact absurd c' (by decide)
theorem turn_enumT {P : Program} {w : World} {K : PySem.W.Frag} {elts : List Expr} {kk : Nat} {tpos : Pos} (a e it : Addr) :
    Turn P w K (.Tuple elts kk tpos) (IteT K a) [e, it] e (fun i h => (∃ old, IsEnum h e it ((i : Nat) : Int) old) ∧ h.IsTupleIter it a i ∧ e ≠ it) where
  mem := by simp
  obj := fun i h st b hb => by
    obtain ⟨⟨old, he⟩, ⟨o, ho, hc, hd⟩, _⟩ := st
    have e' : b = e ∨ b = it := by simpa using hb
    rcases e' with z | z
    · rw [z]; exact ⟨_, he, fun v q => nomatch q⟩
    · rw [z]; exact ⟨o, ho, fun v q => by rw [hd] at q; cases q⟩
  keep := fun i h h' st k => let ⟨⟨old, he⟩, hi, hne⟩ := st; ⟨⟨old, k e (by simp) _ he⟩, hi.at fun o q => k it (by simp) o q, hne⟩
  item := by
    intro X hP hw hK hc i pins s σ H E I hf st hg
    subst hP hw hK
    obtain ⟨⟨old, he⟩, hit, hne⟩ := st
    obtain ⟨xs, x, hq, hx⟩ := hg
    obtain ⟨its, rv, p, hz⟩ := I.tuple hq
    obtain ⟨u, hu, ru⟩ := rv.get hx
    have hT0 : s.heap.IsTuple a its.toArray := p
    have hel : e < s.heap.objs.size := Heap.lt_size he
    have hil : it < s.heap.objs.size := by obtain ⟨_, q, _⟩ := hit; exact Heap.lt_size q
    have hea : e ≠ a := by
      intro z
      subst z
      obtain ⟨o', e', c', _⟩ := hT0
      rw [he] at e'
      cases e'
      injection c' with c'
      exact absurd c' (by decide)
    have hi : i < its.toArray.size := by simpa using (List.getElem?_eq_some_iff.mp hu).1
    have D := Draws.tuple (prog := X.prog) (w := X.w) (A := X.A.in1) (I.ok.hd hc) it a (tupIt_ne hit hT0) its.toArray
    refine wpAny_pyNext_enum_itemD D he ⟨hit, hT0⟩ hi hne (by simp [hne, hea]) fun y h' tk hP ho st' hT hsz hk => ?_
    obtain ⟨hit', hT0'⟩ := st'
    have hy : y = u := by
      have : its.toArray[i]? = some u := by simpa using hu
      rw [this] at hP
      exact (Option.some.inj hP).symm
    subst hy
    refine ⟨_, rfl, wpAny_letOwnedTupleGo_enum (s := { s with heap := h', toks := tk + 1 }) ho fun h'' he' sb => ?_⟩
    have hT2 : h''.get? s.heap.objs.size = some { cls := .type "tuple", data := .seq #[.int i tk, y] } := (sb.2 _ (Nat.ne_of_gt hel)).trans hT
    have new : ObjOk X.prog X.w (upd H s.heap.objs.size (.tup [.int (i : Nat), x])) h'' s.heap.objs.size (.tup [.int (i : Nat), x]) :=
      ⟨by show 2 ≤ sizeLine; decide, [.int i tk, y], .cons ⟨_, rfl⟩ (.cons ru .nil), ⟨_, hT2, rfl, _, rfl⟩⟩
    have I1 : Inv X pins σ (upd H s.heap.objs.size (.tup [.int (i : Nat), x])) { s with heap := h'', toks := tk + 1 } :=
      I.turnedNew (ch := [e, it]) (fun b ob hb q => (sb.2 b (fun z => hb (by simp [z]))).trans (hk b ob (fun z => hb (by simp [z])) (fun z => hb (by simp [z])) q)) hf (Nat.le_refl _) new
    refine ⟨.ref s.heap.objs.size, _, I1, rfl, ⟨_, x, rfl, I.hok.fresh (Nat.le_refl _), rfl, fun ys hy => by rw [I.tuple_inj hy hq]; exact hx⟩, ⟨⟨y, ?_⟩, hit'.at fun o q => (sb.2 it (Ne.symm hne)).trans q, hne⟩, fun b hb => ?_⟩
    · have e1 : ((i + 1 : Nat) : Int) = (i : Int) + 1 := by omega
      rw [e1]; exact he'
    · have hb' : b < s.heap.objs.size := by
        have e' : b = e ∨ b = it := by simpa using hb
        rcases e' with z | z
        · rw [z]; exact hel
        · rw [z]; exact hil
      rw [upd_ne (Nat.ne_of_lt hb')]
      exact (hf b hb).1
  done := by
    intro X hP hw hK hc i pins s σ H E I hf st hg
    subst hP hw hK
    obtain ⟨⟨old, he⟩, hit, hne⟩ := st
    obtain ⟨xs, hq, hx⟩ := hg
    obtain ⟨its, rv, p, hz⟩ := I.tuple hq
    have hT0 : s.heap.IsTuple a its.toArray := p
    obtain ⟨f0, f1, f2, f3, f4, f5⟩ := hf it (by simp)
    have hl := rv.length
    have D := Draws.tuple (prog := X.prog) (w := X.w) (A := X.A.in1) (I.ok.hd hc) it a (tupIt_ne hit hT0) its.toArray
    have hd : wpAny (model X.prog X.w) X.A.in1 (Builtin.SmallTypes.nextOf (.ref it)) (fun _ _ => False) (fun _ _ => False) s → True := fun _ => trivial
    have D0 : Draws X.prog X.w X.A.in1 it [it, a] i (fun i v => its.toArray[i]? = some v ∧ False) (fun k h => (k = i) ∧ h.IsTupleIter it a i ∧ h.IsTuple a its.toArray) :=
      { live := fun k h st => let ⟨o, ho, _⟩ := st.2.1; ⟨o, ho⟩
        frame := fun k h h' st kk => ⟨st.1, st.2.1.at fun o e => kk it (by simp) o e, st.2.2.at fun o e => kk a (by simp) o e⟩
        item := fun k s Q E lt st _ => absurd st.1 (Nat.ne_of_lt lt)
        done := fun s Q E st hE => wpAny_nextOf_tuple_end (I.ok.hd hc) st.2.1 st.2.2 (by simp; omega) hE }
    exact wpAny_pyNext_enum_endD D0 he ⟨rfl, hit, hT0⟩ fun h' eb => ⟨rfl, I.turned (t' := s.toks) (fun b o hb q => eb b o hb q) f0 f1 f3 f4 f5⟩
  self := fun A i s Q E st h => let ⟨⟨_, he⟩, _⟩ := st; wpAny_pyIter_enum he h
def iEnumT (K : PySem.W.Frag) (ta : TA) : TI := fun σ H R => ta σ H fun vs H1 => ∃ a xs, vs = [.ref a] ∧ SqT K H1 a xs ∧ R (IteT K a) H1
theorem pi_enumT {X : Cx} {e : Expr} {ta : TA} {p pos tpos : Pos} {elts : List Expr} {kk : Nat} (hg : Gl X "enumerate") (hm : X.mg "enumerate" = none) (ha : PA X [e] ta) (hs : starEach [e] X.env = [(false, eval e X.env)] := by rfl) :
    PI X (.Tuple elts kk tpos) (.Call (.Name "enumerate" p) [e] [] pos) (iEnumT X.K ta) := by
  refine ⟨fun pins s σ H R I h => ?_⟩
  refine Call_ (ld_blt I hg hm boot_enumerate (PyProof.Rows.callWith_type1 (thn (ha.run pos pins s σ H _ I h) fun us s1 ⟨vs, H1, I1, r1, q1⟩ => ?_) hs rfl))
  obtain ⟨a, xs, ex, hq, q⟩ := q1
  subst ex
  cases r1 with
  | cons r rr =>
    cases rr
    cases r
    obtain ⟨its, rv, p', hz⟩ := I1.tuple hq
    have hT0 : s1.heap.IsTuple a its.toArray := p'
    refine enum_begins1 (begins_tuple a its.toArray) hT0 fun h' he hit hsz hk => wpAny_pyIter_enum he ?_
    have I2 : Inv X pins σ H1 { s1 with heap := h' } := I1.kept (t' := s1.toks) hk
    refine ⟨s1.heap.objs.size + 1, [s1.heap.objs.size + 1, s1.heap.objs.size], _, _, H1, rfl, I2, turn_enumT a (s1.heap.objs.size + 1) s1.heap.objs.size, ⟨⟨.none, he⟩, ⟨_, hit, rfl, rfl⟩, Nat.succ_ne_self _⟩, fun b hb => ?_, q⟩
    have e' : b = s1.heap.objs.size + 1 ∨ b = s1.heap.objs.size := by simpa using hb
    have hle : s1.heap.objs.size ≤ b := by
      rcases e' with z | z
      · rw [z]; exact Nat.le_add_right _ _
      · rw [z]; exact Nat.le_refl _
    exact I1.fpOk hle (I1.hok.fresh hle)
section
variable {C : Cz} {X : Cx} {tg : Expr} {j : Nat}
theorem numbered_get {xs : List AV} {i : Nat} {x : AV} (e : (PA.numbered xs)[i]? = some x) : ∃ y, xs[i]? = some y ∧ x = .tup [.int (i : Nat), y] := by
  unfold PA.numbered at e
  rw [List.getElem?_map, List.getElem?_zipIdx] at e
  cases z : xs[i]? with
  | none => rw [z] at e; cases e
  | some y => rw [z] at e; simp at e; exact ⟨y, rfl, e.symm⟩
theorem numbered_end {xs : List AV} {i : Nat} (e : (PA.numbered xs)[i]? = none) : xs.length ≤ i := by
  have := List.getElem?_eq_none_iff.mp e
  simpa [PA.numbered] using this
theorem pair_new {ι : Nat → Addr} {h : PA.Heap} {H : Hp} {T : Addr} {i : Nat} {x : V} {y : AV} (r : Rep C ι h H) (hT : H T = none) (xy : AvR C ι h.length H y x) : Ext ι h.length H ι h.length (upd H T (.tup [.int (i : Nat), x])) ∧ Rep C ι h (upd H T (.tup [.int (i : Nat), x])) ∧ AvR C ι h.length (upd H T (.tup [.int (i : Nat), x])) (.tup [.int (i : Nat), y]) (.ref T) := by
  have ex := Ext.laid (o := .tup [.int (i : Nat), x]) r hT
  have r1 := r.laid (o := .tup [.int (i : Nat), x]) hT
  exact ⟨ex, r1, .tup (SqT.of upd_same) (.cons (.int _) (.cons (r.av ex xy) .nil))⟩
theorem ri_enumT {e : Expr} {m : EE} {p pos tpos : Pos} {elts : List Expr} {kk : Nat} (g : Gd C X j) (hm : C.mg "enumerate" = none) (he : RE C X e m) (hg : Gl X "enumerate" := by rfl) (hs : starEach [e] X.env = [(false, eval e X.env)] := by rfl) : RI C X (.Tuple elts kk tpos) (.Call (.Name "enumerate" p) [e] [] pos) (PA.iEnumT m) := fun W tk =>
  PI_imp (pi_enumT hg (by rw [g.hm]; exact hm) (pa_cons (he W tk) pa_nil hs) hs) fun σ H R ⟨ι, h, ρ, r, en, p⟩ => ⟨ι, h, ρ, r, en, (GPost.bnd (R := AvR C) p).mono fun x H1 ⟨ι1, h1, a, r1, e1, x1, p1⟩ => by
    cases x1 with
    | @tup q xs vs t av =>
      refine ⟨q, vs, rfl, by rw [g.hK]; exact t, p1 ι1 H1 (IteT X.K q) Ext.refl r1 (itoN fun ι h H e2 r2 i => ?_)⟩
      have t2 : SqT X.K H q vs := by rw [g.hK]; exact r1.sqT e2 t
      have av2 := r1.avs e2 av
      refine ⟨fun x ex => ?_, fun ex => ?_⟩
      · obtain ⟨y, hy, rfl⟩ := numbered_get ex
        obtain ⟨v, h1, h2⟩ := av2.get hy
        refine ⟨⟨vs, v, t2, h1⟩, fun v' H' yy => ?_⟩
        obtain ⟨T, x', rfl, hT, rfl, yy⟩ := yy
        have := yy vs t2
        rw [h1] at this
        cases this
        exact pair_new r2 hT h2
      · refine ⟨vs, t2, ?_⟩
        rw [← av2.length]
        exact numbered_end ex
    | _ => exact p1.elim⟩
theorem ri_enum {e : Expr} {m : EE} {p pos tpos : Pos} {elts : List Expr} {kk : Nat} (g : Gd C X j) (hm : C.mg "enumerate" = none) (he : RE C X e m) (hg : Gl X "enumerate" := by rfl) (hs : starEach [e] X.env = [(false, eval e X.env)] := by rfl) : RI C X (.Tuple elts kk tpos) (.Call (.Name "enumerate" p) [e] [] pos) (PA.iEnum m) := fun W tk =>
  PI_imp (pi_enum hg (by rw [g.hm]; exact hm) (pa_cons (he W tk) pa_nil hs) hs) fun σ H R ⟨ι, h, ρ, r, en, p⟩ => ⟨ι, h, ρ, r, en, (GPost.bnd (R := AvR C) p).mono fun x H1 ⟨ι1, h1, a, r1, e1, x1, p1⟩ => by
    cases x1 with
    | @loc l hl =>
      dsimp only at p1
      cases z : h1[l]? with
      | none => rw [z] at p1; exact p1.elim
      | some o =>
        cases o with
        | lst xs0 =>
          rw [z] at p1
          dsimp only at p1
          obtain ⟨vs0, hv0, _⟩ := lst_at r1 z
          refine ⟨_, vs0, rfl, SqL.of hv0, p1 ι1 H1 (Ite X.K (ι1 l)) Ext.refl r1 fun ι h H e2 r2 i ys ei => ?_⟩
          unfold lstOf at ei
          dsimp only at ei
          cases z2 : h[l]? with
          | none => rw [z2] at ei; cases ei
          | some o2 =>
            cases o2 with
            | lst ws =>
              rw [z2] at ei
              cases ei
              obtain ⟨vs, hv, av⟩ := lst_at r2 z2
              rw [e2.agree l hl] at hv
              refine ⟨fun x ex => ?_, fun ex => ?_⟩
              · obtain ⟨y, hy, rfl⟩ := numbered_get ex
                obtain ⟨v, h1, h2⟩ := av.get hy
                refine ⟨⟨vs, v, SqL.of hv, h1⟩, fun v' H' yy => ?_⟩
                obtain ⟨T, x', rfl, hT, rfl, yy⟩ := yy
                have := yy vs (SqL.of hv)
                rw [h1] at this
                cases this
                exact pair_new r2 hT h2
              · refine ⟨vs, SqL.of hv, ?_⟩
                rw [← av.length]
                exact numbered_end ex
            | _ => rw [z2] at ei; cases ei
        | _ => rw [z] at p1; exact p1.elim
    | _ => exact p1.elim⟩
end
end PL
set_option maxRecDepth 100000
set_option maxHeartbeats 2000000
/-! Lift16: dicts that are walked. -/
namespace PL
open PySem PySem.Spec PyProof.Rows L2 PA

/-! ### a dict of the module -/
def ItkK (es : Array DictEntry) : It :=
  ⟨fun i _ => i < es.size, fun i H x H' => H' = H ∧ ∃ en z t, es[i]? = some en ∧ en.key = .str z t ∧ x = .str z, fun i _ => es.size ≤ i⟩
theorem turn_keysK {P : Program} {w : World} {K : PySem.W.Frag} {tg : Expr} {d : Addr} {es : Array DictEntry} {n : Nat} (D : KDict K w d es n) (it : Addr) : Turn P w K tg (ItkK es) [it] it (fun i h => h.IsKeyIter it d i es.size n) where
  mem := by simp
  obj := fun i h st b hb => by
    have e : b = it := by simpa using hb
    subst e
    obtain ⟨oi, e, c, dd⟩ := st
    exact ⟨oi, e, fun v z => by rw [dd] at z; cases z⟩
  keep := fun i h h' st k => st.at fun oi e => k it (by simp) oi e
  item := by
    intro X hP hw hK hc i pins s σ H E I hf st hi
    subst hP hw hK
    obtain ⟨f0, f1, f2, f3, f4, f5⟩ := hf it (by simp)
    have hd := I.kIn _ _ D.at_
    have hi' : i < es.size := hi
    have hx : es[i]? = some es[i] := Array.getElem?_eq_getElem hi'
    obtain ⟨z, t, hk, _⟩ := D.lit.all es[i] (Array.mem_toList_iff.mpr (Array.getElem_mem hi'))
    refine next_key_item st hd rfl rfl hx fun h' st' sb => ?_
    have I1 : Inv X pins σ H { s with heap := h' } := I.turned (t' := s.toks) (fun b ob hb e => (sb.2 b hb).trans e) f0 f1 f3 f4 f5
    obtain ⟨oi, e, c, dd⟩ := id st'
    exact ⟨_, rfl, go_of (s := { s with heap := h' }) e c dd (by decide) ⟨.str z, H, I1, ⟨t, hk⟩, ⟨rfl, es[i], z, t, hx, hk, rfl⟩, st', fun b hb => (hf b hb).1⟩⟩
  done := by
    intro X hP hw hK hc i pins s σ H E I hf st hi
    subst hP hw hK
    obtain ⟨f0, f1, f2, f3, f4, f5⟩ := hf it (by simp)
    have hd := I.kIn _ _ D.at_
    exact next_key_end (I.ok.hd hc) st hd rfl rfl hi fun h' eb => ⟨rfl, I.turned (t' := s.toks) (fun b ob hb e => eb b ob hb e) f0 f1 f3 f4 f5⟩
  self := fun A i s Q E st h => wpAny_pyIter_keyiter st h
def iKeysK (es : Array DictEntry) (d : Addr) (td : TE) : TI := fun σ H R => td σ H fun x H1 => x = .ref d ∧ R (ItkK es) H1
theorem pi_keysK {X : Cx} {tg e : Expr} {td : TE} {d : Addr} {es : Array DictEntry} {n : Nat} (D : KDict X.K X.w d es n) (he : PE X e td) : PI X tg e (iKeysK es d td) := by
  refine ⟨fun pins s σ H R I h => ?_⟩
  refine thn (he.run pins s σ H _ I h) fun u s1 ⟨x, H1, I1, rx, ex, q⟩ => ?_
  subst ex
  obtain rfl : u = Value.ref d := rx
  have hd := I1.kIn _ _ D.at_
  exact iter_keys D.low hd ⟨rfl, rfl, rfl⟩ rfl (pi_one (tk := s1.toks) I1 _ (turn_keysK D _) ⟨_, Heap.get?_push_size _ rfl, rfl, rfl⟩ q)
/-- the keys of a dict of the module -/
structure KdK (C : Cz) (x : Str) (ks : List Str) : Prop where
  ex : ∃ d es n, C.mg x = some (.ref d) ∧ KDict C.K C.w d es n ∧ es.toList.map He.keyOf = He.keysIn C.w.params ks
section
variable {C : Cz} {X : Cx} {tg : Expr} {j k : Nat}
theorem keys_get {es : Array DictEntry} {ks : List Str} {P : Params} (h : es.toList.map He.keyOf = He.keysIn P ks) {i : Nat} {en : DictEntry} {z : Str} {t : Tok} (e : es[i]? = some en) (ek : en.key = .str z t) : ks[i]? = some z := by
  have h1 : (es.toList.map He.keyOf)[i]? = (He.keysIn P ks)[i]? := by rw [h]
  unfold He.keysIn at h1
  rw [List.getElem?_map, List.getElem?_map, Array.getElem?_toList, e] at h1
  cases q : ks[i]? with
  | none => rw [q] at h1; cases h1
  | some k =>
    rw [q] at h1
    have h2 := Option.some.inj h1
    unfold He.keyOf at h2
    rw [ek] at h2
    have h3 := Option.some.inj h2
    rw [(Prod.mk.inj h3).1]
theorem keys_size {es : Array DictEntry} {ks : List Str} {P : Params} (h : es.toList.map He.keyOf = He.keysIn P ks) : es.size = ks.length := by
  have := congrArg List.length h
  simpa [He.keysIn] using this
theorem ri_keysK {x : Str} {ks : List Str} {p : Pos} (g : Gd C X j) (K : KdK C x ks) (hg : Gl X x := by rfl) (hd : (x == ("__debug__" : Str)) = false := by decide) : RI C X tg (.Name x p) (PA.iKeysK ks) := fun W tk => by
  obtain ⟨d, es, n, hm, D, hks⟩ := K.ex
  have D' := kd_transport D g.hK g.hw
  refine PI_imp (pi_keysK D' (ev_glob g hm hg hd)) fun σ H R ⟨ι, h, ρ, r, en, p⟩ => ⟨rfl, p ι H (ItkK es) Ext.refl r (itoN fun ι h H e2 r2 i => ⟨fun x ex => ?_, fun ex => ?_⟩)⟩
  · rw [List.getElem?_map] at ex
    cases q : ks[i]? with
    | none => rw [q] at ex; cases ex
    | some z =>
      rw [q] at ex
      cases ex
      refine ⟨by show i < es.size; rw [keys_size hks]; exact (List.getElem?_eq_some_iff.mp q).1, fun v H' y => ?_⟩
      obtain ⟨rfl, en, z', t, h1, h2, rfl⟩ := y
      have := keys_get hks h1 h2
      rw [q] at this
      cases this
      exact ⟨Ext.refl, r2, .str _⟩
  · show es.size ≤ i
    rw [keys_size hks]
    have := List.getElem?_eq_none_iff.mp ex
    simpa using this

/-! ### a dict of ours, locked -/
theorem ObR.mapU {ι : Nat → Addr} {n : Nat} {H H' : Hp} {a : Addr} {o : AO} (sq : ∀ a xs, SqT C.K H a xs → SqT C.K H' a xs) (q : ObR C ι n H a o) (st : H' a = H a) (so : ∀ dx y, H dx = some (.own y) → H' dx = some (.own y)) (sx : ∀ dx, H dx = some (.xd []) → H' dx = some (.xd [])) : ObR C ι n H' a o := by
  have le := Nat.le_refl n
  have ag : ∀ l, l < n → ι l = ι l := fun _ _ => rfl
  cases o with
  | lst xs => obtain ⟨vs, e1, e2⟩ := q; exact ⟨vs, st.trans e1, e2.map sq le ag⟩
  | dct xs => obtain ⟨vs, e1, e2⟩ := q; exact ⟨vs, st.trans e1, e2.map sq le ag⟩
  | lck xs => obtain ⟨o, vs, e1, e2⟩ := q; exact ⟨o, vs, st.trans e1, e2.map sq le ag⟩
  | ins c fs =>
    rcases q with ⟨e0, dx, gs, e1, e2⟩ | ⟨names, dx, vs, e0, sl, ne, e2⟩
    · exact .inl ⟨e0, dx, gs, st.trans e1, e2.map sq le ag⟩
    · refine .inr ⟨names, dx, vs, e0, ?_, ne, fun i f x h1 h2 => ?_⟩
      · rcases sl with ⟨a1, a2, a3⟩ | ⟨a1, a2⟩
        · exact .inl ⟨st.trans a1, so _ _ a2, a3⟩
        · exact .inr ⟨st.trans a1, sx _ a2⟩
      · obtain ⟨v, h3, h4⟩ := e2 i f x h1 h2
        exact ⟨v, h3, h4.map sq le ag⟩

theorem lock_rep {ι : Nat → Addr} {h : PA.Heap} {H : Hp} {l : Nat} {kvs : List (AV × AV)} {ks : List (Key × V)} (r : Rep C ι h H) (e : h[l]? = some (.dct kvs)) (e1 : H (ι l) = some (.dK ks)) (e2 : KsR C ι h.length H kvs ks) (od : Obj) :
    Ext ι h.length H ι (h.set l (.lck kvs)).length (upd H (ι l) (.frz od (.dK ks))) ∧ Rep C ι (h.set l (.lck kvs)) (upd H (ι l) (.frz od (.dK ks))) := by
  have hl := (List.getElem?_eq_some_iff.mp e).1
  have nf : ∀ o u, H (ι l) ≠ some (.frz o u) := fun o u q => by rw [e1] at q; cases q
  have ex := Ext.chg (u := .frz od (.dK ks)) r hl nf
  exact ⟨by rw [List.length_set]; exact ex, r.chg hl nf ⟨od, ks, upd_same, r.ksr ex e2⟩⟩
theorem unlock_rep {ι ι' : Nat → Addr} {h h' : PA.Heap} {H H' : Hp} {l : Nat} {kvs : List (AV × AV)} {ks : List (Key × V)} {od : Obj} (r : Rep C ι h H) (e : h[l]? = some (.dct kvs)) (e1 : H (ι l) = some (.dK ks)) (e2 : KsR C ι h.length H kvs ks)
    (ex : Ext ι (h.set l (.lck kvs)).length (upd H (ι l) (.frz od (.dK ks))) ι' h'.length H') (r' : Rep C ι' h' H') :
    H' (ι l) = some (.frz od (.dK ks)) ∧ Ext ι h.length H ι' (h'.set l (.dct kvs)).length (upd H' (ι l) (.dK ks)) ∧ Rep C ι' (h'.set l (.dct kvs)) (upd H' (ι l) (.dK ks)) ∧ ∀ a xs, SqT C.K H' a xs → SqT C.K (upd H' (ι l) (.dK ks)) a xs := by
  have hl := (List.getElem?_eq_some_iff.mp e).1
  have hf : H' (ι l) = some (.frz od (.dK ks)) := ex.frz _ _ _ upd_same
  have hle : h.length ≤ h'.length := by have := ex.le; rwa [List.length_set] at this
  have hl' : l < h'.length := Nat.lt_of_lt_of_le hl hle
  have il : ι' l = ι l := ex.agree l (by rw [List.length_set]; exact hl)
  have sq : ∀ a xs, SqT C.K H' a xs → SqT C.K (upd H' (ι l) (.dK ks)) a xs := fun a xs t => by
    rcases t with (t | ⟨o, t⟩) | t
    · exact .inl (.inl (by rw [upd_ne (fun z => by rw [z, hf] at t; cases t)]; exact t))
    · exact .inl (.inr ⟨o, by rw [upd_ne (fun z => by rw [z, hf] at t; cases t)]; exact t⟩)
    · exact .inr t
  have exo : Ext ι h.length H ι' h'.length (upd H' (ι l) (.dK ks)) := by
    refine ⟨hle, fun k hk => ex.agree k (by rw [List.length_set]; exact hk), fun p o ep no off => ?_, fun k h1 h2 => ?_, fun p hp => ?_, fun p o u ep => ?_⟩
    · have np : p ≠ ι l := fun z => off l hl z.symm
      rw [upd_ne np]
      exact ex.frame p o (by rw [upd_ne np]; exact ep) no fun k hk => off k (by rwa [List.length_set] at hk)
    · have f := ex.fresh k (by rw [List.length_set]; exact h1) h2
      by_cases z : ι' k = ι l
      · rw [z, upd_same] at f; cases f
      · rwa [upd_ne z] at f
    · by_cases z : p = ι l
      · rw [z, upd_same]; exact fun z => nomatch z
      · rw [upd_ne z]
        exact ex.dom p (by rw [upd_ne z]; exact hp)
    · have np : p ≠ ι l := fun z => by rw [z, e1] at ep; cases ep
      rw [upd_ne np]
      exact ex.frz p o u (by rw [upd_ne np]; exact ep)
  refine ⟨hf, by rw [List.length_set]; exact exo, ⟨fun k o ek => ?_, fun k k' a b => r'.inj k k' (by simpa using a) (by simpa using b), r.scr.keep exo.frz⟩, sq⟩
  rw [List.length_set]
  by_cases q : l = k
  · subst q
    rw [List.getElem?_set_self hl'] at ek
    cases ek
    exact ⟨ks, by rw [il, upd_same], r.ksr exo e2⟩
  · rw [List.getElem?_set_ne q] at ek
    have hk := (List.getElem?_eq_some_iff.mp ek).1
    have ne : ι' k ≠ ι l := fun z => q (r'.inj k l hk hl' (z.trans il.symm)).symm
    exact (r'.at_ k o ek).mapU sq (upd_ne ne) (fun dx y w => by rw [upd_ne (fun z => by rw [z, hf] at w; cases w)]; exact w) (fun dx w => by rw [upd_ne (fun z => by rw [z, hf] at w; cases w)]; exact w)
theorem EnR.sq {ι : Nat → Addr} {n : Nat} {H H' : Hp} {ρ : PA.Env} {σ : L2.St} (sq : ∀ a xs, SqT C.K H a xs → SqT C.K H' a xs) (en : EnR C ι n H ρ σ) : EnR C ι n H' ρ σ :=
  ⟨en.1, fun i a e => let ⟨v, h1, h2⟩ := en.2 i a e; ⟨v, h1, h2.map sq (Nat.le_refl _) fun _ _ => rfl⟩⟩
theorem rs_lock {st : Stmt} {m : SS} (pick : PA.Env → PA.Heap → Option Nat) (hs : RS C X st m) : RS C X st (sLock pick m) := fun W tk =>
  PS_imp (ps_lock (hs W tk)) fun D σ H ⟨ι, h, ρ, r, en, p⟩ => by
    unfold sLock at p
    cases z : pick ρ h with
    | none => rw [z] at p; exact p.elim
    | some l =>
      rw [z] at p
      dsimp only at p
      cases z2 : h[l]? with
      | none => rw [z2] at p; exact p.elim
      | some o =>
        cases o with
        | dct kvs =>
          rw [z2] at p
          dsimp only at p
          obtain ⟨ks, e1, e2⟩ := dct_at r z2
          refine ⟨ι l, .dK ks, e1, trivial, fun od => ?_⟩
          obtain ⟨ex, r1⟩ := lock_rep r z2 e1 e2 od
          refine ⟨ι, _, ρ, r1, en.ext r ex, ?_⟩
          cases q : m ρ (h.set l (.lck kvs)) with
          | nx ρ' h' =>
            rw [q] at p
            intro ι' H' σ' e' r' en'
            obtain ⟨f1, f2, f3, f4⟩ := unlock_rep r z2 e1 e2 e' r'
            exact ⟨f1, p ι' _ σ' f2 f3 (by rw [List.length_set]; exact en'.sq f4)⟩
          | brk ρ' h' =>
            rw [q] at p
            intro ι' H' σ' e' r' en'
            obtain ⟨f1, f2, f3, f4⟩ := unlock_rep r z2 e1 e2 e' r'
            exact ⟨f1, p ι' _ σ' f2 f3 (by rw [List.length_set]; exact en'.sq f4)⟩
          | ct ρ' h' =>
            rw [q] at p
            intro ι' H' σ' e' r' en'
            obtain ⟨f1, f2, f3, f4⟩ := unlock_rep r z2 e1 e2 e' r'
            exact ⟨f1, p ι' _ σ' f2 f3 (by rw [List.length_set]; exact en'.sq f4)⟩
          | ret v' h' =>
            rw [q] at p
            intro ι' H' v e' r' x'
            obtain ⟨f1, f2, f3, f4⟩ := unlock_rep r z2 e1 e2 e' r'
            exact ⟨f1, p ι' _ v f2 f3 (by rw [List.length_set]; exact x'.map f4 (Nat.le_refl _) fun _ _ => rfl)⟩
          | exc e' ρ' h' =>
            rw [q] at p
            exact fun ι' H' σ' c d e' r' en' x' => p ι' H' σ' c d (ex.trans e') r' en' x'
          | bad => rw [q] at p; exact p.elim
        | _ => rw [z2] at p; exact p.elim
theorem re_lock {e : Expr} {m : EE} (pick : PA.Env → PA.Heap → Option Nat) (he : RE C X e m) : RE C X e (xLock pick m) := fun W tk =>
  PE_imp (pe_lock (he W tk)) fun σ H Q ⟨ι, h, ρ, r, en, p⟩ => by
    unfold xLock at p
    cases z : pick ρ h with
    | none => rw [z] at p; exact p.elim
    | some l =>
      rw [z] at p
      dsimp only at p
      cases z2 : h[l]? with
      | none => rw [z2] at p; exact p.elim
      | some o =>
        cases o with
        | dct kvs =>
          rw [z2] at p
          dsimp only at p
          obtain ⟨ks, e1, e2⟩ := dct_at r z2
          refine ⟨ι l, .dK ks, e1, trivial, fun od => ?_⟩
          obtain ⟨ex, r1⟩ := lock_rep r z2 e1 e2 od
          refine ⟨ι, _, ρ, r1, en.ext r ex, ?_⟩
          cases q : m ρ (h.set l (.lck kvs)) with
          | ok v' h' =>
            rw [q] at p
            intro ι' H' v e' r' x'
            obtain ⟨f1, f2, f3, f4⟩ := unlock_rep r z2 e1 e2 e' r'
            exact ⟨f1, p ι' _ v f2 f3 (by rw [List.length_set]; exact x'.map f4 (Nat.le_refl _) fun _ _ => rfl)⟩
          | exc e' h' =>
            rw [q] at p
            exact fun ι' H' c d e' r' x' => p ι' H' c d (ex.trans e') r' x'
          | bad => rw [q] at p; exact p.elim
        | _ => rw [z2] at p; exact p.elim
theorem rm_lock {e : Expr} {m : LL} (pick : PA.Env → PA.Heap → Option Nat) (he : RM C X e m) : RM C X e (xLock pick m) := fun W tk =>
  PE_imp (pe_lock (he W tk)) fun σ H Q ⟨ι, h, ρ, r, en, Z, hZ, p⟩ => by
    unfold xLock at p
    cases z : pick ρ h with
    | none => rw [z] at p; exact p.elim
    | some l =>
      rw [z] at p
      dsimp only at p
      cases z2 : h[l]? with
      | none => rw [z2] at p; exact p.elim
      | some o =>
        cases o with
        | dct kvs =>
          rw [z2] at p
          dsimp only at p
          obtain ⟨ks, e1, e2⟩ := dct_at r z2
          refine ⟨ι l, .dK ks, e1, trivial, fun od => ?_⟩
          obtain ⟨ex, r1⟩ := lock_rep r z2 e1 e2 od
          refine ⟨ι, _, ρ, r1, en.ext r ex, Z, fun p hp => ex.dom p (hZ p hp), ?_⟩
          cases q : m ρ (h.set l (.lck kvs)) with
          | ok v' h' =>
            rw [q] at p
            intro ι' H' v e' r' x'
            obtain ⟨f1, f2, f3, f4⟩ := unlock_rep r z2 e1 e2 e' r'
            refine ⟨f1, p ι' _ v f2 f3 ?_⟩
            obtain ⟨p', vs, rfl, hp', av, off, nz⟩ := x'
            refine ⟨p', vs, rfl, ?_, by rw [List.length_set]; exact av.map f4 (Nat.le_refl _) fun _ _ => rfl, by rw [List.length_set]; exact off, nz⟩
            rw [upd_ne (fun z => by rw [z, f1] at hp'; cases hp')]
            exact hp'
          | exc e' h' =>
            rw [q] at p
            exact fun ι' H' c d e' r' x' => p ι' H' c d (ex.trans e') r' x'
          | bad => rw [q] at p; exact p.elim
        | _ => rw [z2] at p; exact p.elim
theorem ksR_get {ι : Nat → Addr} {n : Nat} {H : Hp} {kvs : List (AV × AV)} {ks : List (Key × V)} (r : KsR C ι n H kvs ks) : ∀ (i : Nat), (∀ x, (keysOf kvs)[i]? = some x → ∃ k v, ks[i]? = some (k, v) ∧ ∀ ι n H, AvR C ι n H x (kV k)) ∧ ((keysOf kvs)[i]? = none → ks.length ≤ i) := by
  induction r with
  | nil => exact fun i => ⟨fun x e => (nomatch e), fun _ => Nat.zero_le _⟩
  | @int z x v fs gs _ _ ih =>
    intro i
    cases i with
    | zero => exact ⟨fun x e => by cases e; exact ⟨_, _, rfl, fun _ _ _ => .int _⟩, fun e => by cases e⟩
    | succ i => exact ⟨fun x e => (ih i).1 x e, fun e => Nat.succ_le_succ ((ih i).2 e)⟩
  | @str z x v fs gs _ _ ih =>
    intro i
    cases i with
    | zero => exact ⟨fun x e => by cases e; exact ⟨_, _, rfl, fun _ _ _ => .str _⟩, fun e => by cases e⟩
    | succ i => exact ⟨fun x e => (ih i).1 x e, fun e => Nat.succ_le_succ ((ih i).2 e)⟩
theorem itk_ok {ι1 : Nat → Addr} {n1 : Nat} {H1 : Hp} {d : Addr} {o : Obj} {kvs : List (AV × AV)} {ks : List (Key × V)} {ι0 : Nat → Addr} {n0 : Nat} {H0 : Hp} (e : H1 d = some (.frz o (.dK ks))) (r : KsR C ι0 n0 H0 kvs ks) : ItOk C ι1 n1 H1 (fun _ => some (keysOf kvs)) (Itk d o ks) :=
  itoN fun ι h H e2 r2 i => by
    have hd : H d = some (.frz o (.dK ks)) := e2.frz _ _ _ e
    obtain ⟨g1, g2⟩ := ksR_get r i
    refine ⟨fun x ex => ?_, fun ex => ⟨hd, g2 ex⟩⟩
    obtain ⟨k, v, hk, av⟩ := g1 x ex
    refine ⟨⟨hd, (List.getElem?_eq_some_iff.mp hk).1⟩, fun v' H' y => ?_⟩
    obtain ⟨rfl, k', w, hk', rfl⟩ := y
    rw [hk] at hk'
    cases hk'
    exact ⟨Ext.refl, r2, av _ _ _⟩
theorem ri_keysL {e : Expr} {m : EE} (he : RE C X e m) : RI C X tg e (iKeysL m) := fun W tk =>
  PI_imp (pi_keys (he W tk)) fun σ H R ⟨ι, h, ρ, r, en, p⟩ => ⟨ι, h, ρ, r, en, (GPost.bnd (R := AvR C) p).mono fun x H1 ⟨ι1, h1, a, r1, e1, x1, p1⟩ => by
    cases x1 with
    | @loc l hl =>
      dsimp only at p1
      cases z : h1[l]? with
      | none => rw [z] at p1; exact p1.elim
      | some o =>
        cases o with
        | lck kvs =>
          rw [z] at p1
          dsimp only at p1
          obtain ⟨o, ks, hv, kr⟩ := r1.at_ l _ z
          exact ⟨_, o, rfl, .inl ⟨ks, hv, p1 ι1 H1 (Itk (ι1 l) o ks) Ext.refl r1 (itk_ok hv kr)⟩⟩
        | _ => rw [z] at p1; exact p1.elim
    | _ => exact p1.elim⟩
/-- the dict is locked from now on -/
def iKeysFr (td : TE) : TI := fun σ H R => td σ H fun x H1 => ∃ d kvs, x = .ref d ∧ H1 d = some (.dK kvs) ∧ ∀ o, R (Itk d o kvs) (upd H1 d (.frz o (.dK kvs)))
theorem pi_keysF {e : Expr} {td : TE} (he : PE X e td) : PI X tg e (iKeysFr td) := by
  refine ⟨fun pins s σ H R I h => ?_⟩
  refine thn (he.run pins s σ H _ I h) fun u s1 ⟨x, H1, I1, rx, d, kvs, ex, hd, q⟩ => ?_
  subst ex
  obtain rfl : u = Value.ref d := rx
  obtain ⟨od, I2⟩ := I1.lock hd trivial
  obtain ⟨hs, hgd, hx, es, ep, vs, hdt, hsz, kv, hm⟩ := I2.frzK (o := od) (kvs := kvs) upd_same
  refine iter_keys hs hgd hx hdt (pi_one (tk := s1.toks) I2 _ (turn_keys _ hdt) ⟨_, Heap.get?_push_size _ rfl, rfl, ?_⟩ (q od))
  rw [hsz] <;> rfl
theorem ri_keysF {e : Expr} {m : EE} (he : RE C X e m) : RI C X tg e (iKeysF m) := fun W tk =>
  PI_imp (pi_keysF (he W tk)) fun σ H R ⟨ι, h, ρ, r, en, p⟩ => ⟨ι, h, ρ, r, en, (GPost.bnd (R := AvR C) p).mono fun x H1 ⟨ι1, h1, a, r1, e1, x1, p1⟩ => by
    cases x1 with
    | @loc l hl =>
      dsimp only at p1
      cases z : h1[l]? with
      | none => rw [z] at p1; exact p1.elim
      | some o =>
        cases o with
        | dct kvs =>
          rw [z] at p1
          dsimp only at p1
          obtain ⟨ks, hv, kr⟩ := dct_at r1 z
          refine ⟨_, ks, rfl, hv, fun o => ?_⟩
          obtain ⟨ex, r2⟩ := lock_rep r1 z hv kr o
          exact p1 ι1 _ (Itk (ι1 l) o ks) ex r2 (itk_ok upd_same kr)
        | _ => rw [z] at p1; exact p1.elim
    | _ => exact p1.elim⟩
end
end PL
set_option maxRecDepth 100000
set_option maxHeartbeats 2000000
/-! Lift17: dict comprehensions. -/
namespace PL
open PySem PySem.Spec PyProof.Rows L2 PA
section
variable {C : Cz} {X : Cx} {tg : Expr} {j k : Nat}
theorem wipe_idem (σ : L2.St) (ws : List Nat) : L2.wipe (L2.wipe σ ws) ws = L2.wipe σ ws := by
  apply List.ext_getElem?
  intro q
  have key : ∀ (τ : L2.St) (us : List Nat), (L2.wipe τ us)[q]? = if q ∈ us then (τ[q]?).map (fun _ => none) else τ[q]? := by
    intro τ us
    induction us with
    | nil => simp [L2.wipe]
    | cons u us ih =>
      unfold L2.wipe
      by_cases zz : u = q
      · subst zz
        rw [if_pos List.mem_cons_self]
        by_cases hq : u < τ.length
        · rw [List.getElem?_set_self (by rw [wipe_length]; exact hq)]
          simp [hq]
        · rw [List.getElem?_eq_none (by rw [List.length_set, wipe_length]; omega), List.getElem?_eq_none (by omega)]
          rfl
      · rw [List.getElem?_set_ne zz, ih]
        by_cases hm : q ∈ us
        · rw [if_pos hm, if_pos (List.mem_cons_of_mem _ hm)]
        · rw [if_neg hm, if_neg (fun hh => (List.mem_cons.mp hh).elim (fun e => zz e.symm) hm)]
  rw [key, key]
  by_cases hm : q ∈ ws
  · rw [if_pos hm, if_pos hm]; cases σ[q]? <;> rfl
  · rw [if_neg hm, if_neg hm]
/-- a dict that was made beside ours is ours from now on -/
theorem adopt_dct {ι ι' : Nat → Addr} {n : Nat} {h' : PA.Heap} {H H' : Hp} {D : Addr} {kvs : List (AV × AV)} {ks : List (Key × V)} (et : Ext ι n H ι' h'.length H') (hD : H D = none) (r : Rep C ι' h' H') (off : ∀ l, l < h'.length → ι' l ≠ D) (hv : H' D = some (.dK ks)) (kr : KsR C ι' h'.length H' kvs ks) :
    Ext ι n H (put1 ι' h'.length D) (h' ++ [AO.dct kvs]).length H' ∧ Rep C (put1 ι' h'.length D) (h' ++ [AO.dct kvs]) H' ∧ AvR C (put1 ι' h'.length D) (h' ++ [AO.dct kvs]).length H' (.loc h'.length) (.ref D) := by
  have ag : ∀ l, l < h'.length → put1 ι' h'.length D l = ι' l := fun l hl => put1_lt hl
  refine ⟨?_, adopt (ao := .dct kvs) r off ⟨ks, hv, kr.map (fun _ _ t => t) (Nat.le_succ _) ag⟩, ?_⟩
  · rw [List.length_append, List.length_singleton]
    refine ⟨Nat.le_succ_of_le et.le, fun l hl => (put1_lt (Nat.lt_of_lt_of_le hl et.le)).trans (et.agree l hl), et.frame, fun l a b => ?_, et.dom, et.frz⟩
    by_cases z : l < h'.length
    · rw [put1_lt z]; exact et.fresh l a z
    · have : l = h'.length := by omega
      subst this
      rw [put1_same]; exact hD
  · have t : AvR C (put1 ι' h'.length D) (h' ++ [AO.dct kvs]).length H' (.loc h'.length) (.ref (put1 ι' h'.length D h'.length)) := .loc (by simp)
    rw [put1_same] at t
    exact t
theorem re_dc {kx vx iter : Expr} {ifs : List Expr} {scope : Scope} {own : List (Str × Nat)} {pos : Pos} {it : II} {g : Tg} {g' : TG} {is : List Nat} {t : BB} {ek ev : EE} (gd : Gd C X j) (hi : RI C X tg iter it) (ok : BlkOk X.N X.env.scope scope own)
    (hg : ∀ (s : Shared) (H : Hp) (c : Addr) (cl : List (Str × Addr)) (fp : List Addr), RG C (X.blk s H scope (compEnvC scope cl c X.env) fp) tg g g' is)
    (ht : ∀ (s : Shared) (H : Hp) (c : Addr) (cl : List (Str × Addr)) (fp : List Addr), Gd C (X.blk s H scope (compEnvC scope cl c X.env) fp) j → RTs C (X.blk s H scope (compEnvC scope cl c X.env) fp) ifs t)
    (hk : ∀ (s : Shared) (H : Hp) (c : Addr) (cl : List (Str × Addr)) (fp : List Addr), Gd C (X.blk s H scope (compEnvC scope cl c X.env) fp) j → RE C (X.blk s H scope (compEnvC scope cl c X.env) fp) kx ek)
    (he : ∀ (s : Shared) (H : Hp) (c : Addr) (cl : List (Str × Addr)) (fp : List Addr), Gd C (X.blk s H scope (compEnvC scope cl c X.env) fp) j → RE C (X.blk s H scope (compEnvC scope cl c X.env) fp) vx ev)
    (hin : ∀ i ∈ is, i ∈ own.map (·.2) := by decide) (hs : ∀ x, foldedSetIterable iter X.env x = pure x := by intro _; rfl) :
    RE C X (.DictComp kx vx [⟨tg, iter, ifs, 0⟩] scope pos) (eDc it g t ek ev (own.map (·.2))) := fun W tk => by
  have gb : ∀ (s : Shared) (H : Hp) (c : Addr) (cl : List (Str × Addr)) (fp : List Addr), Gd C (X.blk s H scope (compEnvC scope cl c X.env) fp) j := fun _ _ _ _ _ => ⟨gd.hP, gd.hw, gd.hK, gd.hm, gd.hb, gd.calm, gd.nd, gd.room⟩
  refine PE_imp (pe_dc (tt := tT C t WF) (tk := tE C ek WF) (tv := tE C ev WF) gd.calm gd.nd (hi W tk) ok (fun s H c cl fp => (hg s H c cl fp).pg) (fun s H c cl fp => ht s H c cl fp (gb s H c cl fp) WF takes0) (fun s H c cl fp => hk s H c cl fp (gb s H c cl fp) WF takes0) (fun s H c cl fp => he s H c cl fp (gb s H c cl fp) WF takes0) hs) ?_
  intro σ H Q ⟨ι, h, ρ, r, en, p⟩
  refine ⟨ι, h, ρ, r, en, (GPost.bnd (R := ItOk C) p).mono fun J H1 ⟨ι1, h1, items, r1, e1, x1, p1⟩ => ?_⟩
  intro D hD
  have tokG : TgOk C g' g is := (hg { } H 0 [] []).ok
  refine ⟨fun i m H2 => ∃ ι2 h2 acc vs, Ext ι1 h1.length H1 ι2 h2.length H2 ∧ Rep C ι2 h2 H2 ∧ H2 D = some (.dK vs) ∧ KsR C ι2 h2.length H2 acc vs ∧ (∀ l, l < h2.length → ι2 l ≠ D) ∧ GPost C (AvR C) ι1 h1 H1 Q (fun c d H' => W c d σ H') (PA.bnd (dcIter items g t ek ev (wipeA ρ (own.map (·.2))) m i acc) (fun kvs h => .ok (.loc h.length) (h ++ [.dct kvs])) h2),
    ⟨fuel, ι1, h1, [], [], Ext.laid r1 hD, r1.laid hD, upd_same, .nil, fun l hl => r1.off hD hl, p1⟩, ?_⟩
  rintro i m H2 ⟨ι2, h2, acc, vs, e2, r2, hv, av, off, p2⟩
  cases m with
  | zero => exact p2.elim
  | succ k =>
    unfold PA.bnd dcIter at p2
    cases z : items h2 with
    | none => simp only [z] at p2; exact p2.elim
    | some ys =>
      simp only [z] at p2
      obtain ⟨w1, w2⟩ := x1 ι2 h2 H2 e2 r2 i ys z
      cases z2 : ys[i]? with
      | none =>
        simp only [z2] at p2
        obtain ⟨f1, f2, f3⟩ := adopt_dct e2 hD r2 off hv av
        exact .inl ⟨w2 z2, p2 _ H2 _ f1 f2 f3⟩
      | some x =>
        simp only [z2] at p2
        obtain ⟨go, yl⟩ := w1 x z2
        refine .inr ⟨go, fun H3 => ∃ ι2 h2 acc vs, Ext ι1 h1.length H1 ι2 h2.length H3 ∧ Rep C ι2 h2 H3 ∧ H3 D = some (.dK vs) ∧ KsR C ι2 h2.length H3 acc vs ∧ (∀ l, l < h2.length → ι2 l ≠ D) ∧ GPost C (AvR C) ι1 h1 H1 Q (fun c d H' => W c d σ H') (PA.bnd (dcIter items g t ek ev (wipeA ρ (own.map (·.2))) k (i + 1) acc) (fun kvs h => .ok (.loc h.length) (h ++ [.dct kvs])) h2), fun H3 q => ⟨k, Nat.lt_succ_self _, q⟩, fun v H3 y => ?_⟩
        obtain ⟨e3, r3, xv⟩ := yl v H3 y
        cases z3 : g x (wipeA ρ (own.map (·.2))) with
        | none => simp only [z3] at p2; exact p2.elim
        | some ρ1 =>
          simp only [z3] at p2
          have en3 : EnR C ι2 h2.length H3 (wipeA ρ (own.map (·.2))) (L2.wipe σ (own.map (·.2))) := ((en.ext r e1).ext r1 (e2.trans e3)).wipe _
          have keepD : ∀ {ι5 : Nat → Addr} {h5 : PA.Heap} {H5 : Hp}, Ext ι2 h2.length H2 ι5 h5.length H5 → H5 D = some (.dK vs) ∧ ∀ l, l < h5.length → ι5 l ≠ D := fun {ι5 h5 H5} e5 => by
            refine ⟨e5.frame _ _ hv (fun _ z => nomatch z) off, fun l hl zl => ?_⟩
            by_cases q : l < h2.length
            · exact off l q ((e5.agree l q).symm.trans zl)
            · have f := e5.fresh l (Nat.le_of_not_lt q) hl
              rw [zl, hv] at f
              cases f
          refine tokG ι2 h2 H3 _ ρ1 _ x v _ r3 en3 xv z3 fun σ' en' wp => ⟨(wp _ hin).trans (wipe_idem _ _), ι2, h2, ρ1, r3, en', ?_⟩
          cases z4 : t ρ1 h2 with
          | bad => simp only [z4] at p2; exact p2.elim
          | exc e' h' => simp only [z4] at p2; exact p2.elim
          | ok b h4 =>
            rw [z4] at p2
            intro ι4 H4 b' e4 r4 eb
            cases eb
            cases b with
            | false =>
              rw [if_neg Bool.false_ne_true]
              obtain ⟨k1, k2⟩ := keepD (e3.trans e4)
              exact ⟨ι4, h4, acc, vs, e2.trans (e3.trans e4), r4, k1, r2.ksr (e3.trans e4) av, k2, p2⟩
            | true =>
              rw [if_pos rfl]
              refine ⟨ι4, h4, ρ1, r4, en'.ext r3 e4, ?_⟩
              dsimp only at p2
              cases z5 : ek ρ1 h4 with
              | bad => simp only [z5] at p2; exact p2.elim
              | exc e' h' => simp only [z5] at p2; exact p2.elim
              | ok y h5 =>
                simp only [z5] at p2
                intro ι5 H5 w e5 r5 xw
                refine ⟨ι5, h5, ρ1, r5, (en'.ext r3 e4).ext r4 e5, ?_⟩
                cases z6 : ev ρ1 h5 with
                | bad => simp only [z6] at p2; exact p2.elim
                | exc e' h' => simp only [z6] at p2; exact p2.elim
                | ok y2 h6 =>
                  simp only [z6] at p2
                  intro ι6 H6 w2 e6 r6 xw2
                  have et := e3.trans (e4.trans (e5.trans e6))
                  obtain ⟨k1, k2⟩ := keepD et
                  have av6 := r2.ksr et av
                  by_cases zl : isKey y = true ∧ acc.length < 100000
                  · rw [if_pos zl] at p2
                    have sq : ∀ u a xs, SqT C.K H6 a xs → SqT C.K (upd H6 D u) a xs := fun u a xs => side_sqT' k1 (fun _ z => nomatch z) (fun _ _ z => nomatch z)
                    have lz : vs.length < sizeLine := by rw [← av.length]; have := zl.2; unfold sizeLine; omega
                    have fin : ∀ (kk : Key), w = kV kk → KR y kk → ∃ kvs k', w = kV k' ∧ H6 D = some (.dK kvs) ∧ kvs.length < sizeLine ∧ ∃ ι2 h2 acc vs, Ext ι1 h1.length H1 ι2 h2.length (upd H6 D (.dK (putK kvs k' w2))) ∧ Rep C ι2 h2 (upd H6 D (.dK (putK kvs k' w2))) ∧ (upd H6 D (.dK (putK kvs k' w2))) D = some (.dK vs) ∧ KsR C ι2 h2.length (upd H6 D (.dK (putK kvs k' w2))) acc vs ∧ (∀ l, l < h2.length → ι2 l ≠ D) ∧ GPost C (AvR C) ι1 h1 H1 Q (fun c d H' => W c d σ H') (PA.bnd (dcIter items g t ek ev (wipeA ρ (own.map (·.2))) k (i + 1) acc) (fun kvs h => .ok (.loc h.length) (h ++ [.dct kvs])) h2) := fun kk ew kr =>
                      ⟨vs, kk, ew, k1, lz, ι6, h6, dPut acc y y2, putK vs kk w2, (e2.trans et).side hD, r6.sideD k1 k2, upd_same, (av6.put kr xw2).map (sq _) (Nat.le_refl _) fun _ _ => rfl, k2, p2⟩
                    cases xw with
                    | int q => exact fin (.inl q) rfl (.int q)
                    | str q => exact fin (.inr q) rfl (.str q)
                    | _ => exact absurd zl.1 Bool.false_ne_true
                  · rw [if_neg zl] at p2; exact p2.elim
end
end PL
set_option maxRecDepth 100000
set_option maxHeartbeats 4000000
/-! Lift18: sorted(set(t)) of a tuple of texts (after HandS.Set, HandS.SetFor, which have it for ints). -/
namespace PL
open PySem PySem.Spec PyProof.Rows L2
def keyS (e : Int × Value) : Str := match e.2 with | .str k _ => k | _ => Str.empty
def GoodS (w : World) (e : Int × Value) : Prop := ∃ k tk, e.2 = Value.str k tk ∧ e.1 = hashStr w k
/-- the set of texts at a: S its members, n their number; its table rises and can be walked -/
def SetS (w : World) (h : Heap) (a : Addr) (S : Str → Bool) (n : Nat) : Prop :=
  ∃ o es ep t, h.get? a = some o ∧ o.ExactSet ∧ o.data = .set es ep t ∧ (∀ e ∈ es.toList, GoodS w e) ∧ (es.toList.map keyS).Nodup ∧ (∀ k, S k = true ↔ k ∈ es.toList.map keyS) ∧
    es.size < scanBound ∧ t.fits es.size = true ∧ es.size = n ∧ Ris t.place.toList ∧ (w.params.followText "set-order" = true ∨ t.led = true)
section
variable {P : Program} {w : World} {h h' : Heap} {a : Addr} {S : Str → Bool} {n : Nat}
theorem SetS.at (R : SetS w h a S n) (k : ∀ o, h.get? a = some o → h'.get? a = some o) : SetS w h' a S n := by
  obtain ⟨o, es, ep, t, ho, r⟩ := R
  exact ⟨o, es, ep, t, k o ho, r⟩
theorem SetS.lt (R : SetS w h a S n) : a < h.objs.size := by
  obtain ⟨o, es, ep, t, ho, r⟩ := R
  exact Heap.lt_size ho
theorem SetS.congr {S' : Str → Bool} (R : SetS w h a S n) (e : ∀ k, S' k = S k) : SetS w h a S' n := by
  have q : S' = S := funext e
  rw [q]; exact R
theorem goodS_elems {l : List (Int × Value)} (g : ∀ e ∈ l, GoodS w e) : ElemsOf (PySem.strKind P w) l := fun e he => by
  obtain ⟨k, tk, h1, h2⟩ := g e he
  exact ⟨⟨k, by rw [h1]; exact PySem.strKind_is P w k tk, h2⟩, by rw [h1] <;> rfl⟩
theorem goodS_is {e : Int × Value} (g : GoodS w e) (k : Str) : (PySem.strKind P w).is k e.2 = true ↔ keyS e = k := by
  obtain ⟨k0, tk, h1, _⟩ := g
  unfold keyS
  rw [h1]
  show ((k0 == k) = true) ↔ k0 = k
  exact beq_iff_eq
theorem goodS_mem {l : List (Int × Value)} (g : ∀ e ∈ l, GoodS w e) (k : Str) : k ∈ l.map keyS ↔ ∃ e ∈ l, (PySem.strKind P w).is k e.2 = true := by
  rw [List.mem_map]
  constructor
  · rintro ⟨e, he, q⟩
    exact ⟨e, he, (goodS_is (g e he) k).2 q⟩
  · rintro ⟨e, he, q⟩
    exact ⟨e, he, (goodS_is (g e he) k).1 q⟩
theorem SetS.setOf (R : SetS w h a S n) : h.SetOf (PySem.strKind P w) a S n := by
  obtain ⟨o, es, ep, t, ho, hx, hd, g, nd, hm, hb, hf, hn, _⟩ := R
  exact ⟨o, es, ep, t, ho, hx, hd, goodS_elems g, fun k => (hm k).trans (goodS_mem g k), hb, hf, hn⟩
end
section
variable {P : Program} {w : World} {A : Around} {E : Value → Shared → Prop} {s : Shared} {a : Addr} {S : Str → Bool} {n : Nat}
theorem setS_add_tail {g : Bool → Sem Unit} (hg : ∀ (b : Bool) (s₁ : Shared) (Q' : Unit → Shared → Prop), Q' () s₁ → wpAny (model P w) A (g b) Q' E s₁)
    {o : Obj} {es : Array (Int × Value)} {ep : Nat} {t : SetTable} (ho : s.heap.get? a = some o) (hex : o.ExactSet) (hd : o.data = .set es ep t)
    {es1 : Array (Int × Value)} {t2 : SetTable} {S' : Str → Bool} (g1 : ∀ e ∈ es1.toList, GoodS w e) (nd1 : (es1.toList.map keyS).Nodup) (m1 : ∀ k, S' k = true ↔ k ∈ es1.toList.map keyS)
    (hb1 : es1.size < scanBound) (hf2 : t2.fits es1.size = true) (hr : Ris t2.place.toList) (hl : w.params.followText "set-order" = true ∨ t2.led = true) {wasDummy : Bool} {R : Option Bool → Shared → Prop}
    (hR : ∀ h', Heap.SameBut a s.heap h' → SetS w h' a S' es1.size → R (some true) { s with heap := h' }) :
    wpAny (model P w) A (do
        storeSet a es1 t2
        if (!wasDummy && t2.tooFull) = true then do
            g (relayAll t2 es1 (SetTable.grown es1.size)).2.2
            storeSet a (relayAll t2 es1 (SetTable.grown es1.size)).1 (relayAll t2 es1 (SetTable.grown es1.size)).2.1
            pure (some true)
          else pure (some true)) R E s := by
  refine wpAny_bind (wpAny_storeSet_of ho hd ?_ (fits_of_scanBound hb1))
  have ho1 := store_at (es' := es1) (t' := t2) ho hd
  have sb1 := Heap.SameBut.update s.heap a (Obj.putSet es1 t2)
  split
  · have pm := relayAll_perm t2 es1 (SetTable.grown es1.size)
    have hf3 := relayAll_fits t2 es1 (SetTable.grown es1.size)
    have hr3 := relayAll_ris t2 es1 (SetTable.grown es1.size)
    have hl3 := relayAll_led t2 es1 (SetTable.grown es1.size)
    generalize relayAll t2 es1 (SetTable.grown es1.size) = Z at pm hf3 hr3 hl3 ⊢
    obtain ⟨es2, t3, gave⟩ := Z
    dsimp only at pm hf3 hr3 hl3 ⊢
    have hsz : es2.size = es1.size := by rw [← Array.length_toList, pm.length_eq, Array.length_toList]
    have hb2 : es2.size < scanBound := by rw [hsz]; exact hb1
    refine wpAny_bind (hg _ _ _ ?_)
    refine wpAny_bind (wpAny_storeSet_of ho1 rfl ?_ (fits_of_scanBound hb2))
    have ho2 := store_at (es' := es2) (t' := t3) ho1 rfl
    refine wpAny_pure (hR _ (sb1.trans (Heap.SameBut.update _ a _)) ?_)
    exact ⟨_, es2, _, t3, ho2, hex, rfl, fun e he => g1 e (pm.mem_iff.mp he), (pm.map keyS).nodup_iff.mpr nd1, fun k => (m1 k).trans (pm.map keyS).mem_iff.symm, hb2, hf3, hsz, hr3,
      hl.imp id fun z => by rw [hl3]; exact z⟩
  · exact wpAny_pure (hR _ sb1 ⟨_, es1, _, t2, ho1, hex, rfl, g1, nd1, m1, hb1, hf2, rfl, hr, hl⟩)

theorem setS_add_hashed {k : Str} {tk : Tok} {Q : Bool → Shared → Prop} (R : SetS w s.heap a S n) (room : n + 1 < scanBound)
    (hQ : ∀ h', Heap.SameBut a s.heap h' → SetS w h' a (fun j => S j || decide (j = k)) (if S k = true then n else n + 1) → Q (!S k) { s with heap := h' }) :
    wpAny (model P w) A (setAddHashed a (.str k tk) ((PySem.strKind P w).hash k)) Q E s := by
  obtain ⟨o, es, ep, t, ho, hex, hd, g, nd, hm, hb, hf, hn, hr, hl⟩ := R
  have hkey : (PySem.strKind P w).is k (.str k tk) = true := PySem.strKind_is P w k tk
  have hsc : (Value.str k tk).scannable = true := rfl
  have hel : ElemsOf (PySem.strKind P w) es.toList := goodS_elems g
  unfold setAddHashed setAddHashedIn
  refine wpAny_holding (wpAny_bind (wpAny_setState_of ho hd hf ?_))
  dsimp only
  rw [byScan_of hsc hb hel]
  simp only [↓reduceIte]
  unfold setAddByScan
  refine wpAny_bind ?_
  refine wpAny_bind (wpAny_rule ?_)
  refine wpAny_bind (wpAny_setScan_of hkey ho hd hf hel ?_)
  cases hfi : List.findIdx? (fun e => (PySem.strKind P w).is k e.2) es.toList with
  | some j =>
    dsimp only
    obtain ⟨hj, pj, _⟩ := List.findIdx?_eq_some_iff_getElem.mp hfi
    have hSk : S k = true := (hm k).2 ((goodS_mem (P := P) (w := w) g k).2 ⟨es.toList[j], List.getElem_mem hj, pj⟩)
    refine wpAny_pure (wpAny_pure ?_)
    have q := hQ s.heap (Heap.SameBut.refl a s.heap) ⟨o, es, ep, t, ho, hex, hd, g, nd, fun i => by
      rw [Bool.or_eq_true, decide_eq_true_eq, ← hm i]
      exact ⟨fun z => z.elim id (fun e => e ▸ hSk), .inl⟩, hb, hf, by rw [if_pos hSk]; exact hn, hr, hl⟩
    rw [hSk] at q
    exact q
  | none =>
    dsimp only
    have hnk : k ∉ es.toList.map keyS := fun z => by
      obtain ⟨e, he, q⟩ := (goodS_mem (P := P) (w := w) g k).1 z
      have c := List.findIdx?_eq_none_iff.mp hfi e he
      rw [q] at c
      cases c
    have hSk : S k = false := by
      cases q : S k with
      | false => rfl
      | true => exact absurd ((hm k).1 q) hnk
    have hgw : ∀ (b : Bool) {s₁ : Shared} {Q' : Unit → Shared → Prop}, Q' () s₁ → wpAny (model P w) A (match b with | true => rule "set.scan.the-table-gave-way" | false => pure ()) Q' E s₁ :=
      fun b s₁ Q' q => by cases b <;> first | exact wpAny_pure q | exact wpAny_rule q
    have pm := layNew_perm t es ((PySem.strKind P w).hash k) (.str k tk)
    have hf1 := layNew_fits t es ((PySem.strKind P w).hash k) (.str k tk)
    have hr1 := layNew_ris t es ((PySem.strKind P w).hash k) (.str k tk) hr
    have hl1 := layNew_led t es ((PySem.strKind P w).hash k) (.str k tk)
    generalize layNew t es ((PySem.strKind P w).hash k) (.str k tk) = Z at pm hf1 hr1 hl1 ⊢
    obtain ⟨es1, t1, wasDummy, gave⟩ := Z
    dsimp only at pm hf1 hr1 hl1 ⊢
    rw [Array.toList_push] at pm
    have pc : es1.toList.Perm (((PySem.strKind P w).hash k, Value.str k tk) :: es.toList) := pm.trans (List.perm_append_singleton _ _)
    have pk : (es1.toList.map keyS).Perm (k :: es.toList.map keyS) := pc.map keyS
    have g1 : ∀ e ∈ es1.toList, GoodS w e := fun e he => by
      rcases List.mem_cons.mp (pc.mem_iff.mp he) with z | z
      · rw [z]; exact ⟨k, tk, rfl, rfl⟩
      · exact g e z
    have nd1 : (es1.toList.map keyS).Nodup := pk.nodup_iff.mpr (List.nodup_cons.mpr ⟨hnk, nd⟩)
    have m1 : ∀ i, (S i || decide (i = k)) = true ↔ i ∈ es1.toList.map keyS := fun i => by
      rw [Bool.or_eq_true, decide_eq_true_eq, hm i, pk.mem_iff, List.mem_cons]
      exact Or.comm
    have hsz : es1.size = n + 1 := by rw [← Array.length_toList, pc.length_eq, List.length_cons, Array.length_toList, hn]
    have hb1 : es1.size < scanBound := by rw [hsz]; exact room
    have hled : w.params.followText "set-order" = true ∨ t1.led = true := hl.imp id fun z => by rw [hl1]; exact z
    have fin : ∀ h', Heap.SameBut a s.heap h' → SetS w h' a (fun j => S j || decide (j = k)) es1.size → Q true { s with heap := h' } := fun h' sb r => by
      have q := hQ h' sb
      rw [hSk] at q
      rw [hsz] at r
      exact q r
    refine wpAny_bind (hgw _ ?_)
    split
    · refine wpAny_bind ?_
      rw [hashByValue_scannable 8 hsc]
      refine wpAny_pure ?_
      refine setS_add_tail ?_ ho hex hd g1 nd1 m1 hb1 ?_ ?_ ?_ ?_
      · intro b s₁ Q' q; cases b <;> first | exact wpAny_pure q | exact wpAny_rule q
      · first | (split <;> first | exact hf1 | exact SetTable.fits_plain_off hf1) | exact hf1
      · first | (split <;> exact hr1) | exact hr1
      · first | (split <;> exact hled) | exact hled
      · intro h' sb r; dsimp only; exact wpAny_pure (fin h' sb r)
    · refine wpAny_bind (wpAny_pure ?_)
      simp only [↓reduceIte]
      refine setS_add_tail ?_ ho hex hd g1 nd1 m1 hb1 hf1 hr1 hled ?_
      · intro b s₁ Q' q; cases b <;> first | exact wpAny_pure q | exact wpAny_rule q
      · intro h' sb r; dsimp only; exact wpAny_pure (fin h' sb r)

end
theorem setS_new_at {w : World} {h : Heap} {a : Addr} {ns : List Str} (ho : h.get? a = some { cls := .type "set", dict := none, data := .set #[] 0 (.fresh 0 0 (!w.params.followText "set-order")) }) : SetS w h a (fun j => decide (j ∈ ns.take 0)) 0 :=
  ⟨_, #[], 0, _, ho, ⟨rfl, rfl, rfl⟩, rfl, (fun e he => by simp at he), (by simp), (fun k => by simp), (by decide), (by rfl), rfl, List.Pairwise.nil, by
    show _ ∨ (!w.params.followText "set-order") = true
    cases w.params.followText "set-order"
    · exact .inr rfl
    · exact .inl rfl⟩
section
variable {P : Program} {w : World} {A : Around} {E : Value → Shared → Prop} {s : Shared}
theorem set_update_strs {I : Addr} {fp wr : List Addr} {G : Array GenState → Array GenState → Prop} {n : Nat} {Pv : Nat → Value → Prop} {St : Nat → Shared → Prop} {R : Result → Shared → Prop}
    (W : WalksS P w A.in1 I fp wr G n Pv St) (S : Addr) (hSf : S ∉ fp) (ns : List Str) (hn : n = ns.length) (hb : ns.length + 1 < scanBound) (hval : ∀ i v, Pv i v → ∃ k t, ns[i]? = some k ∧ v = .str k t) :
    ∀ (k i : Nat) (s : Shared), n - i = k → i ≤ n → St i s → (∃ c, c ≤ i ∧ SetS w s.heap S (fun j => decide (j ∈ ns.take i)) c) →
      (∀ s' c, Moved (S :: wr) G s s' → c ≤ n → SetS w s'.heap S (fun j => decide (j ∈ ns)) c → R (.ok (.ret .none)) s') →
      codeAny (model P w) A (.builtin "set.update.loop" ⟨[.ref S, .ref I], []⟩) R s := by
  have hSw : S ∉ wr := fun h => hSf (W.sub _ h)
  have hsub : ∀ b ∈ wr, b ∈ S :: wr := fun b hb => List.mem_cons_of_mem _ hb
  intro k
  induction k with
  | zero =>
    intro i s hk' hi hst ⟨c, hc, hS⟩ hR
    have hin : i = n := by omega
    subst hin
    refine codeAny_builtin F.entry_set_update_loop ?_
    rw [Around.under_plainId F.plain_set_update_loop _]
    show wpAny _ A.in1 (pyNext (.ref I) >>= _) _ _ s
    refine wpAny_bind (W.done s _ _ hst fun s' hm => ?_)
    show wpAny _ A.in1 (ret Value.none) _ _ s'
    have e : ns.take i = ns := List.take_of_length_le (by omega)
    rw [e] at hS
    exact wpAny_pure (hR s' c (hm.mono hsub) hc (hS.at fun o e => hm.heap S o hSw e))
  | succ k ih =>
    intro i s hk' hi hst ⟨c, hc, hS⟩ hR
    have hlt : i < n := by omega
    refine codeAny_builtin F.entry_set_update_loop ?_
    rw [Around.under_plainId F.plain_set_update_loop _]
    show wpAny _ A.in1 (pyNext (.ref I) >>= _) _ _ s
    refine wpAny_bind (W.item i s _ _ hlt hst fun v s' hP hst' hm => ?_)
    obtain ⟨z, t, hz, rfl⟩ := hval i v hP
    have hS' : SetS w s'.heap S (fun j => decide (j ∈ ns.take i)) c := hS.at fun o e => hm.heap S o hSw e
    show wpAny _ A.in1 (holding [Value.str z t] (setAdd S (.str z t)) >>= _) _ _ s'
    refine wpAny_bind (wpAny_holding ?_)
    unfold setAdd
    refine wpAny_holding ?_
    refine wpAny_bind ((PySem.strKind P w).pyHash (k := z) (PySem.strKind_is _ _ _ _) ?_)
    refine setS_add_hashed (s := { s' with toks := s'.toks + 1 }) hS' (by omega) fun h' hsb hS2 => ?_
    have hS3 : SetS w h' S (fun j => decide (j ∈ ns.take (i + 1))) (if decide (z ∈ ns.take i) = true then c else c + 1) := hS2.congr fun j => by
      rw [List.take_add_one, hz]
      simp [List.mem_append]
    have hc3 : (if decide (z ∈ ns.take i) = true then c else c + 1) ≤ i + 1 := by
      split <;> omega
    refine wpAny_pure ⟨plainId_quiet F.plain_set_update_loop _, ih (i + 1) _ (by omega) hlt (W.frame _ s' _ _ hst' (Nat.le_succ _) fun b hb o e => ?_) ⟨_, hc3, hS3⟩ fun s'' c2 hm'' hc'' hS'' => ?_⟩
    · rw [hsb.2 b (fun h : b = S => hSf (by rw [← h]; exact hb))]; exact e
    · refine hR s'' c2 (Moved.trans W.gtrans ((hm.mono hsub).then_heap (Nat.le_succ _) fun b o hb e => ?_) hm'') hc'' hS''
      rw [hsb.2 b (fun h : b = S => hb (by rw [h]; exact List.mem_cons_self))]; exact e

set_option maxRecDepth 100000 in
set_option maxHeartbeats 3200000 in
theorem call_set_tupS {l : Addr} {items : Array Value} (ns : List Str) {Q : Value → Shared → Prop} (hh : A.handled = none) (hl : s.heap.IsTuple l items) (hit : StrsAre items.toList ns) (hb : ns.length + 1 < scanBound)
    (h : ∀ (h' : Heap) (tk c : Nat), SetS w h' s.heap.objs.size (fun j => decide (j ∈ ns)) c → c ≤ ns.length → (∀ b o, s.heap.get? b = some o → h'.get? b = some o) → Q (.ref s.heap.objs.size) { s with heap := h', toks := tk }) :
    wpAny (model P w) A (call (.type "set") [.ref l]) Q E s := by
  have hisz : items.size = ns.length := by
    have q := StrsAre.length hit
    rw [Array.length_toList] at q
    exact q
  obtain ⟨c, tl, hmro⟩ := F.called_set.mro
  have hmade := F.called_set.made
  have hsub := F.called_set.sub
  refine wpAny_call (codeAny_of_tree ?_)
  show wpAny _ _ (callAny (.type "set") _) _ _ _
  refine wpAny_pure ⟨Code.quiet_builtin _ (by decide +kernel), codeAny_builtin F.entry_type_call ?_⟩
  rw [Around.under_plain (weight_type_call_type "set" [.ref l] []) rfl]
  have h1 := F.called_set.notType
  have h2 := F.called_set.canCreate
  have hct := F.typeCall_set_1 (.ref l)
  repeat (any_goals (first | assumption | wp_step))

  refine codeAny_mono (code_set_led1 (.ref l) (E := E) (Q₁ := fun obj s₁ => obj = .ref s.heap.objs.size ∧ s₁ = { s with heap := s.heap.push { cls := .type "set", dict := none, data := .set #[] 0 (.fresh 0 0 (!w.params.followText "set-order")) } }) ⟨rfl, rfl⟩) fun r s₁ hr => ?_
  cases r with
  | error e => exact hr
  | ok fl =>
    cases fl with
    | ret obj =>
      obtain ⟨rfl, rfl⟩ := hr
      have hS : (s.heap.push { cls := .type "set", dict := none, data := .set #[] 0 (.fresh 0 0 (!w.params.followText "set-order")) }).get? s.heap.objs.size = some { cls := .type "set", dict := none, data := .set #[] 0 (.fresh 0 0 (!w.params.followText "set-order")) } := Heap.get?_push_size _ rfl
      have hT : Shared.TypeIs { s with heap := s.heap.push { cls := .type "set", dict := none, data := .set #[] 0 (.fresh 0 0 (!w.params.followText "set-order")) } } (.ref s.heap.objs.size) "set" := ⟨_, hS, rfl⟩
      have hli := F.called_set.init.lookup
      have hbi := F.called_set.init.bind (.ref s.heap.objs.size)
      repeat (any_goals (first | assumption | wp_step))

      refine codeAny_mono (codeAny_call_builtin (R := wants (fun r s₂ => r = .none ∧ ∃ h' tk c, s₂ = { s with heap := h', toks := tk } ∧ SetS w h' s.heap.objs.size (fun j => decide (j ∈ ns)) c ∧ c ≤ ns.length ∧
          (∀ b o, s.heap.get? b = some o → h'.get? b = some o)) E) F.called_set.init.plain F.entry_set_init (check_set_init_1 hT ?_)) fun r₂ s₂ hr₂ => ?_
      · obtain ⟨ol, hol, hcl, nl, hdl⟩ := hl
        obtain ⟨ocls, odict, odata, oslots⟩ := ol
        simp only at hcl hdl
        subst hcl; subst hdl
        have hol' : (s.heap.push { cls := .type "set", dict := none, data := .set #[] 0 (.fresh 0 0 (!w.params.followText "set-order")) }).get? l = some { cls := .type "tuple", dict := odict, data := .seq items nl, slots := oslots } := Heap.get?_push_of_some _ hol
        have hsls := F.sub_tuple_set
        have hslf := F.sub_tuple_frozenset
        have hne : (Value.type "tuple" == Value.type "dict") = false := by decide
        have hl1 : (s.heap.push { cls := .type "set", dict := none, data := .set #[] 0 (.fresh 0 0 (!w.params.followText "set-order")) }).IsTuple l items := ⟨_, hol', rfl, nl, rfl⟩
        unfold Builtin.«set.__init__» noKeywords Builtin.Frozenset.updateFrom
        generalize hPI : pyIter = PI
        wp_walk
        subst hPI

        refine wpAny_pyIter_tuple hl1 ?_
        refine wpAny_bind (wpAny_runValue ?_)
        have hlS : l < s.heap.objs.size := Heap.lt_size hol
        have hh3 : A.in1.in1.in1.handled = none := by simp [hh]
        have hz1 : (s.heap.push { cls := .type "set", dict := none, data := .set #[] 0 (.fresh 0 0 (!w.params.followText "set-order")) }).objs.size = s.heap.objs.size + 1 := Heap.size_push ..
        have hneI : l ≠ (s.heap.push { cls := .type "set", dict := none, data := .set #[] 0 (.fresh 0 0 (!w.params.followText "set-order")) }).objs.size := by
          rw [Heap.size_push]; exact Nat.ne_of_lt (Nat.lt_succ_of_lt hlS)
        have hSf : s.heap.objs.size ∉ [(s.heap.push { cls := .type "set", dict := none, data := .set #[] 0 (.fresh 0 0 (!w.params.followText "set-order")) }).objs.size, l] := by
          rw [Heap.size_push]; simp only [List.mem_cons, List.mem_singleton, List.not_mem_nil, or_false, not_or]
          exact ⟨Nat.ne_of_lt (Nat.lt_succ_self _), Nat.ne_of_gt hlS⟩
        have hval : ∀ (i : Nat) (v : Value), items[i]? = some v → ∃ k t, ns[i]? = some k ∧ v = .str k t := fun i v hv => by
          have hi : i < ns.length := by rw [← hisz]; exact (Array.getElem?_eq_some_iff.mp hv).1
          obtain ⟨t, e⟩ := SS.strs_at hit i v (by rw [Array.getElem?_toList]; exact hv)
          refine ⟨ns[i], t, List.getElem?_eq_getElem hi, ?_⟩
          rw [e, List.getD_eq_getElem?_getD, List.getElem?_eq_getElem hi] <;> rfl
        refine set_update_strs ((Walks.tuple hh3 _ l hneI items).toS) s.heap.objs.size
          hSf ns hisz hb hval (items.size - 0) 0 _ (by omega) (Nat.zero_le _)
          ⟨⟨_, Heap.get?_push_size _ rfl, rfl, rfl⟩, (hl1.push _)⟩ ?hS0 ?hR
        case hS0 =>
          have hget : ((s.heap.push { cls := .type "set", dict := none, data := .set #[] 0 (.fresh 0 0 (!w.params.followText "set-order")) }).push { cls := .type "tuple_iterator", data := .fields #[.ref l, .int 0 0] }).get? s.heap.objs.size
              = some { cls := .type "set", dict := none, data := .set #[] 0 (.fresh 0 0 (!w.params.followText "set-order")) } := Heap.get?_push_of_some _ hS
          exact ⟨0, Nat.le_refl 0, setS_new_at hget⟩
        case hR =>
          intro s' c' hm hc' hS'
          obtain ⟨h', g2, d', tk', os'⟩ := s'
          have eg : g2 = s.gens := hm.gens
          have ed : d' = s.drawn := hm.drawn
          have eo : os' = s.os := hm.os
          subst eg; subst ed; subst eo
          show wpAny _ _ _ _ _ _
          refine wpAny_pure ?_
          show wpAny _ _ (ret Value.none) _ _ _
          rw [hisz] at hc'
          refine wpAny_pure ⟨rfl, h', tk', c', rfl, hS', hc', fun b o e => ?_⟩
          have hb0 : b < s.heap.objs.size := Heap.lt_size e
          have hb1 : b ≠ s.heap.objs.size := Nat.ne_of_lt hb0
          have hb2 : b ≠ (s.heap.push { cls := .type "set", dict := none, data := .set #[] 0 (.fresh 0 0 (!w.params.followText "set-order")) }).objs.size := by
            rw [Heap.size_push]; exact Nat.ne_of_lt (Nat.lt_succ_of_lt hb0)
          exact hm.heap b o (by simp only [List.mem_cons, List.mem_singleton, List.not_mem_nil, or_false, not_or]; exact ⟨hb1, hb2⟩) (Heap.get?_push_of_some _ (Heap.get?_push_of_some _ e))

      · cases r₂ with
        | error e => exact hr₂
        | ok fl₂ =>
          cases fl₂ with
          | ret r =>
            obtain ⟨rfl, h', tk, c', rfl, hS', hc', hk'⟩ := hr₂
            repeat (any_goals (first | assumption | wp_step))
            exact h _ _ _ hS' hc' hk'
          | _ => exact hr₂.elim
    | _ => exact hr.elim

def rawS (v : Value) : Str := match v with | .str k _ => k | _ => Str.empty
theorem strsA_of : ∀ (l : List Value), (∀ v ∈ l, ∃ k tk, v = Value.str k tk) → StrsAre l (l.map rawS)
  | [], _ => .nil
  | v :: l, h => by
    obtain ⟨k, tk, rfl⟩ := h v List.mem_cons_self
    exact .cons k tk (strsA_of l fun u hu => h u (List.mem_cons_of_mem _ hu))
theorem sorted_setS {S : Str → Bool} {n : Nat} {Q : Value → Shared → Prop} {a : Addr} (R : SetS w s.heap a S n) (hh : A.handled = none) (h64 : n < 64)
    (hQ : ∀ s' p (out : Array Value) (c : Nat) (ns : List Str), (∀ b o, s.heap.get? b = some o → s'.heap.get? b = some o) → s'.gens = s.gens → s'.os = s.os → s.heap.objs.size ≤ p →
      s'.heap.get? p = some (seqObj "list" out c) → StrsAre out.toList ns → sortedS ns = true → ns.Nodup → (∀ k, k ∈ ns ↔ S k = true) → ns.length = n → Q (.ref p) s') :
    wpAny (model P w) A (call (.builtin "sorted") [.ref a]) Q E s := by
  obtain ⟨o, es, ep, t, ho, hex, hd, g, nd, hm, hb, hf, hn, hr, hl⟩ := R
  refine Calls.call_function_entry kind_sorted plain_sorted entry_sorted (args_sorted1 _) ?_
  unfold Builtin.«sorted»
  refine wpAny_bind (m := checkCount "sorted" 1 1 _) (wpAny_pure ?_)
  refine wpAny_bind (collect_set (A := A.in1) hh ⟨o, ho, hex.1, hd⟩ hf hb hr hl fun s1 vs k1 hz g1 o1 pm => ?_)
  have hvl : vs.length = n := by rw [pm.length_eq, List.length_map, Array.length_toList]; exact hn
  have hI : StrsAre vs (vs.map rawS) := strsA_of vs fun v hv => by
    obtain ⟨e, he, q⟩ := List.mem_map.mp (pm.mem_iff.mp hv)
    obtain ⟨k, tk, h1, _⟩ := g e he
    exact ⟨k, tk, by rw [← q]; exact h1⟩
  have pk : (vs.map rawS).Perm (es.toList.map keyS) := by
    have q := pm.map rawS
    rw [List.map_map] at q
    exact q
  refine wpAny_bind (wpAny_newList ?_ (by rw [hvl, sizeLine_eq]; omega))
  have hoL : (s1.heap.push (seqObj "list" vs.toArray 0)).get? s1.heap.objs.size = some (seqObj "list" vs.toArray 0) := Heap.get?_push_size _ rfl
  refine wpAny_bind (wpAny_holding (wpAny_call_entry slot_list_sort ⟨_, hoL, rfl⟩ entry_list_sort (list_sort_treeK PyProof.Rows.strKind_oneLt hoL hI.keysOf (fun v₁ v₂ rest e => keyKind_strs (by rw [← e]; exact hI)) (by rw [hvl]; exact h64) fun st' hp hs => ⟨_, rfl, ?_⟩) (args_list_sort _)))
  obtain ⟨ns', a1, a2, a3⟩ := sorted_out_str hI hp hs
  obtain ⟨c, hc⟩ := sortedHeap_at (vs := vs) (out := (arrOf st').map (·.2)) hoL
  have pn : ns'.Perm (es.toList.map keyS) := a2.trans pk
  refine wpAny_pure ⟨_, rfl, hQ _ s1.heap.objs.size ((arrOf st').map (·.2)) c ns' (fun b u e => ?_) g1 o1 hz hc a1 a3 (pn.nodup_iff.mpr nd) (fun k => by rw [pn.mem_iff, ← hm k]) ?_⟩
  · have q := k1 b u e
    have hlt := Heap.lt_size q
    show (sortedHeap (s1.heap.push (seqObj "list" vs.toArray 0)) s1.heap.objs.size vs ((arrOf st').map (·.2))).get? b = some u
    rw [sortedHeap_old (Nat.ne_of_lt hlt) (by rw [size_push']; exact Nat.lt_succ_of_lt hlt)]
    exact Heap.get?_push_of_some _ q
  · rw [pn.length_eq, List.length_map, Array.length_toList]; exact hn
end
end PL
set_option maxRecDepth 100000
set_option maxHeartbeats 4000000
/-! Lift19: sorted(set(..)), len of a module's dict, isinstance of own classes, == of dicts, *, update, dict(d). -/
namespace PL
open PySem PySem.Spec PyProof.Rows L2 PA
section
variable {C : Cz} {X : Cx} {j k : Nat}
theorem ltc (a b : List Nat) : ltCps a b = true ↔ a < b := by rw [PyProof.Rows.ltCps_eq]; exact decide_eq_true_iff
theorem str_cps_inj {a b : Str} (h : a.cps.toList = b.cps.toList) : a = b := by
  cases a; cases b
  simp only at h
  have : ∀ x y : Array Nat, x.toList = y.toList → x = y := fun x y e => Array.ext' e
  rw [this _ _ h]
/-- strictly rising -/
def UpS (l : List Str) : Prop := l.Pairwise fun a b => a.cps.toList < b.cps.toList
theorem insS_mem (x y : Str) : ∀ l : List Str, y ∈ insS x l ↔ y = x ∨ y ∈ l
  | [] => by simp [insS]
  | z :: r => by
    unfold insS
    by_cases e : x = z
    · rw [if_pos e, e]; simp
    · rw [if_neg e]
      by_cases q : x.cps.toList < z.cps.toList
      · rw [if_pos q]; simp
      · rw [if_neg q, List.mem_cons, insS_mem x y r, List.mem_cons]
        constructor
        · rintro (h | h | h)
          · exact .inr (.inl h)
          · exact .inl h
          · exact .inr (.inr h)
        · rintro (h | h | h)
          · exact .inr (.inl h)
          · exact .inl h
          · exact .inr (.inr h)
theorem insS_up (x : Str) : ∀ l : List Str, UpS l → UpS (insS x l)
  | [], _ => List.pairwise_singleton _ _
  | z :: r, h => by
    obtain ⟨h1, h2⟩ := List.pairwise_cons.mp h
    unfold insS
    by_cases e : x = z
    · rw [if_pos e]; exact h
    · rw [if_neg e]
      by_cases q : x.cps.toList < z.cps.toList
      · rw [if_pos q]
        refine List.pairwise_cons.mpr ⟨fun y hy => ?_, h⟩
        rcases List.mem_cons.mp hy with w | w
        · rw [w]; exact q
        · exact List.lt_trans q (h1 y w)
      · rw [if_neg q]
        refine List.pairwise_cons.mpr ⟨fun y hy => ?_, insS_up x r h2⟩
        rcases (insS_mem x y r).mp hy with w | w
        · rw [w]
          rcases Decidable.em (z.cps.toList < x.cps.toList) with u | u
          · exact u
          · exact absurd (str_cps_inj (List.le_antisymm (List.not_lt.mp u) (List.not_lt.mp q))) e
        · exact h1 y w
theorem sortD_up (xs : List Str) : UpS (sortD xs) := by
  induction xs with
  | nil => exact List.Pairwise.nil
  | cons x r ih => exact insS_up x _ ih
theorem sortD_mem (xs : List Str) (y : Str) : y ∈ sortD xs ↔ y ∈ xs := by
  induction xs with
  | nil => exact Iff.rfl
  | cons x r ih => show y ∈ insS x (sortD r) ↔ _; rw [insS_mem, ih, List.mem_cons]
theorem up_ext : ∀ {a b : List Str}, UpS a → UpS b → (∀ x, x ∈ a ↔ x ∈ b) → a = b
  | [], [], _, _, _ => rfl
  | [], y :: b, _, _, h => absurd ((h y).mpr List.mem_cons_self) (fun z => nomatch z)
  | x :: a, [], _, _, h => absurd ((h x).mp List.mem_cons_self) (fun z => nomatch z)
  | x :: a, y :: b, ha, hb, h => by
    obtain ⟨a1, a2⟩ := List.pairwise_cons.mp ha
    obtain ⟨b1, b2⟩ := List.pairwise_cons.mp hb
    have exy : x = y := by
      rcases List.mem_cons.mp ((h x).mp List.mem_cons_self) with q | q
      · exact q
      · rcases List.mem_cons.mp ((h y).mpr List.mem_cons_self) with w | w
        · exact w.symm
        · exact absurd (List.lt_trans (a1 y w) (b1 x q)) (List.lt_irrefl _)
    subst exy
    rw [up_ext a2 b2 fun z => ?_]
    have hz := h z
    constructor
    · intro q
      rcases List.mem_cons.mp (hz.mp (List.mem_cons_of_mem _ q)) with w | w
      · subst w; exact absurd (a1 _ q) (List.lt_irrefl _)
      · exact w
    · intro q
      rcases List.mem_cons.mp (hz.mpr (List.mem_cons_of_mem _ q)) with w | w
      · subst w; exact absurd (b1 _ q) (List.lt_irrefl _)
      · exact w
theorem risingS_le : ∀ (l : List Str) (p : Str), risingS p l = true → ∀ y ∈ l, ¬ y.cps.toList < p.cps.toList
  | [], _, _ => fun y h => nomatch h
  | x :: r, p, h => by
    unfold risingS at h
    rw [Bool.and_eq_true] at h
    have h1 : ¬ x.cps.toList < p.cps.toList := fun q => by
      have := (ltc _ _).mpr q
      rw [this] at h
      exact absurd h.1 (by decide)
    intro y hy
    rcases List.mem_cons.mp hy with w | w
    · rw [w]; exact h1
    · have h2 := risingS_le r x h.2 y w
      intro q
      by_cases u : p.cps.toList < x.cps.toList
      · exact h2 (List.lt_trans q u)
      · have e := List.le_antisymm (List.not_lt.mp h1) (List.not_lt.mp u)
        rw [e] at q
        exact h2 q
theorem sortedS_up : ∀ (l : List Str), sortedS l = true → l.Nodup → UpS l
  | [], _, _ => List.Pairwise.nil
  | x :: r, h, d => by
    obtain ⟨d1, d2⟩ := List.nodup_cons.mp d
    have h' : risingS x r = true := h
    have hr : sortedS r = true := by
      cases r with
      | nil => rfl
      | cons y r => unfold risingS at h'; rw [Bool.and_eq_true] at h'; exact h'.2
    refine List.pairwise_cons.mpr ⟨fun y hy => ?_, sortedS_up r hr d2⟩
    have a := risingS_le r x h' y hy
    rcases Decidable.em (x.cps.toList < y.cps.toList) with q | q
    · exact q
    · exact absurd (str_cps_inj (List.le_antisymm (List.not_lt.mp a) (List.not_lt.mp q)) ▸ hy) d1
theorem strsAll : ∀ {ys : List Str} {us : List Value}, Vals (ys.map V.str) us → StrsAre us ys := L2.strsAre_of
/-- sorted(set(e)), e a tuple of texts -/
def tSortSet (K : PySem.W.Frag) (ta : TE) : TE := fun σ H Q => ta σ H fun x H1 => ∃ l, ∃ xs : List Str, x = .ref l ∧ SqT K H1 l (xs.map V.str) ∧ xs.length < 64 ∧ ∀ p, H1 p = none → Q (.ref p) (upd H1 p (.lst ((sortD xs).map V.str)))
theorem pe_sortSet {a : Expr} {ta : TE} {p p2 q pos : Pos} (hc : X.calm = true) (hg : Gl X "sorted") (hm : X.mg "sorted" = none) (hg2 : Gl X "set") (hm2 : X.mg "set" = none) (ha : PE X a ta)
    (na : starEach [a] X.env = (false, eval a X.env) :: starEach [] X.env := by rfl) : PE X (.Call (.Name "sorted" p) [.Call (.Name "set" p2) [a] [] q] [] pos) (tSortSet X.K ta) := by
  refine ⟨fun pins s σ H Q I h => ?_⟩
  refine Call_ (ld_blt I hg hm (show bootBuiltins (Str.ofString "sorted") = some (.builtin "sorted") by decide +kernel) ?_)
  refine PyProof.Rows.callWith_builtin1 (PyProof.Rows.args_cons ?_ rfl) rfl rfl
  refine Call_ (ld_blt I hg2 hm2 boot_set ?_)
  refine PyProof.Rows.callWith_type1 (PyProof.Rows.args_cons (thn (ha.run pins s σ H _ I h) fun v s1 ⟨x, H1, I1, r1, q1⟩ => PyProof.Rows.args_nil ?_) na) na rfl
  obtain ⟨l, xs, rfl, hq, h1, q1⟩ := q1
  cases r1
  obtain ⟨its, r, pl, hz⟩ := I1.tuple hq
  have hl : its.toArray.size = xs.length := by rw [List.size_toArray, ← r.length, List.length_map]
  refine call_set_tupS xs (I1.ok.hd hc) pl (by simpa using strsAll r) (by unfold scanBound; omega) fun h' tk c hS hcn hk => ?_
  refine PyProof.Rows.args_nil ?_
  have I2 : Inv X pins σ H1 { s1 with heap := h', toks := tk } := I1.kept hk
  generalize hs2 : ({ s1 with heap := h', toks := tk } : Shared) = s2 at I2 ⊢
  have hS2 : SetS X.w s2.heap s1.heap.objs.size (fun j => decide (j ∈ xs)) c := by rw [← hs2]; exact hS
  refine sorted_setS (s := s2) hS2 (I1.ok.hd hc) (by omega) fun s' p out c' ns k g o hp hg' hi hs nd hmem hln => ?_
  have hns : ns = sortD xs := up_ext (sortedS_up ns hs nd) (sortD_up xs) fun y => by rw [hmem y, sortD_mem]; simp
  have hlen : (ns.map V.str).length ≤ sizeLine := by rw [List.length_map, hln, sizeLine_eq]; omega
  have hn : H1 p = none := I2.hok.fresh hp
  have J : Inv X pins σ (upd H1 p (.lst (ns.map V.str))) { s2 with heap := s'.heap, gens := s'.gens, drawn := s'.drawn, toks := s'.toks } :=
    I2.call (ch := []) (Un.laid k hp hn) (I2.hok.laid k hp ⟨hlen, out.toList, c', vals_of_strs hi, hg'⟩) (by rw [g]; exact I2.bare) (fun _ z => nomatch z)
  have e : s' = { s2 with heap := s'.heap, gens := s'.gens, drawn := s'.drawn, toks := s'.toks } := by
    cases s'
    cases s2
    cases o
    rfl
  rw [e]
  refine ⟨.ref p, _, J, rfl, ?_⟩
  rw [hns]
  exact q1 p hn
theorem laid_lst {ι : Nat → Addr} {h : PA.Heap} {H : Hp} {W : XK} {Q : VK} {xs : List AV} {vs : List V} (r : Rep C ι h H) (av : AvRs C ι h.length H xs vs) (p : GPost C (AvR C) ι h H Q W (.ok (.loc h.length) (h ++ [.lst xs]))) (q : Addr) (hq : H q = none) : Q (.ref q) (upd H q (.lst vs)) := by
  have e2 := Ext.grow (o := .lst vs) r hq
  refine p (put1 ι h.length q) _ (.ref q) (by rw [List.length_append]; exact e2) (r.grow (ao := .lst xs) hq ⟨vs, upd_same, r.avs e2 av⟩) ?_
  have t : AvR C (put1 ι h.length q) (h ++ [AO.lst xs]).length (upd H q (.lst vs)) (.loc h.length) (.ref (put1 ι h.length q h.length)) := .loc (by simp)
  rw [put1_same] at t
  exact t
theorem laid_dct {ι : Nat → Addr} {h : PA.Heap} {H : Hp} {W : XK} {Q : VK} {xs : List (AV × AV)} {vs : List (Key × V)} (r : Rep C ι h H) (av : KsR C ι h.length H xs vs) (p : GPost C (AvR C) ι h H Q W (.ok (.loc h.length) (h ++ [.dct xs]))) (q : Addr) (hq : H q = none) : Q (.ref q) (upd H q (.dK vs)) := by
  have e2 := Ext.grow (o := .dK vs) r hq
  refine p (put1 ι h.length q) _ (.ref q) (by rw [List.length_append]; exact e2) (r.grow (ao := .dct xs) hq ⟨vs, upd_same, r.ksr e2 av⟩) ?_
  have t : AvR C (put1 ι h.length q) (h ++ [AO.dct xs]).length (upd H q (.dK vs)) (.loc h.length) (.ref (put1 ι h.length q h.length)) := .loc (by simp)
  rw [put1_same] at t
  exact t
theorem AvRs.ofStrs {ι : Nat → Addr} {n : Nat} {H : Hp} : ∀ ys : List Str, AvRs C ι n H (ys.map .str) (ys.map V.str)
  | [] => .nil
  | y :: ys => .cons (.str y) (AvRs.ofStrs ys)
theorem re_sortSet {e : Expr} {m : EE} {p p2 q pos : Pos} (g : Gd C X j) (hm : C.mg "sorted" = none) (hm2 : C.mg "set" = none) (he : RE C X e m) (hg : Gl X "sorted" := by rfl) (hg2 : Gl X "set" := by rfl)
    (na : starEach [e] X.env = (false, eval e X.env) :: starEach [] X.env := by rfl) : RE C X (.Call (.Name "sorted" p) [.Call (.Name "set" p2) [e] [] q] [] pos) (eSortSet m) := fun W tk =>
  PE_imp (pe_sortSet g.calm hg (by rw [g.hm]; exact hm) hg2 (by rw [g.hm]; exact hm2) (he W tk) na) fun σ H Q ⟨ι, h, ρ, r, en, p⟩ => ⟨ι, h, ρ, r, en, (GPost.bnd (R := AvR C) p).mono fun x H1 ⟨ι1, h1, a, r1, e1, x1, p1⟩ => by
    cases x1 with
    | @tup q xs vs t av =>
      dsimp only at p1
      cases z : strsOf xs with
      | none => rw [z] at p1; exact p1.elim
      | some ys =>
        rw [z] at p1
        dsimp only at p1
        have ev : vs = ys.map V.str := PL.strs_of av z
        subst ev
        by_cases zl : ys.length < 64
        · rw [if_pos zl] at p1
          exact ⟨q, ys, rfl, by rw [g.hK]; exact t, zl, fun p hp => laid_lst r1 (AvRs.ofStrs _) p1 p hp⟩
        · rw [if_neg zl] at p1; exact p1.elim
    | _ => exact p1.elim⟩

/-! ### len of a dict of the module -/
theorem kd_dictOf {P : Program} {K : PySem.W.Frag} {w : World} {d : Addr} {es : Array DictEntry} {n : Nat} {ks : List Str} {h : PySem.Heap} (D : KDict K w d es n) (hin : K.In h) (hks : es.toList.map He.keyOf = He.keysIn w.params ks) (nd : ks.Nodup) : h.DictOf (PySem.strKind P w) d (es.toList.map fun e => (rawS e.key, e.val)) := by
  have ek : ∀ e ∈ es.toList, ∃ x t, e.key = .str x t ∧ e.hash = PyData.keyHash w.params x := D.lit.all
  have keys : es.toList.map (fun e => rawS e.key) = ks := by
    have gen : ∀ (l : List DictEntry) (ks : List Str), (∀ e ∈ l, ∃ x t, e.key = .str x t ∧ e.hash = PyData.keyHash w.params x) → l.map He.keyOf = He.keysIn w.params ks → l.map (fun e => rawS e.key) = ks := by
      intro l
      induction l with
      | nil => intro ks _ e; cases ks with
        | nil => rfl
        | cons k r => cases e
      | cons a l ih =>
        intro ks hl e
        cases ks with
        | nil => cases e
        | cons k r =>
          obtain ⟨x, t, hx, _⟩ := hl a List.mem_cons_self
          have e' : He.keyOf a :: l.map He.keyOf = some (k, PyData.keyHash w.params k) :: He.keysIn w.params r := e
          injection e' with e1 e2
          unfold He.keyOf at e1
          rw [hx] at e1
          have e3 := (Prod.mk.inj (Option.some.inj e1)).1
          rw [List.map_cons, ih r (fun b hb => hl b (List.mem_cons_of_mem _ hb)) e2, hx, ← e3]
          rfl
    exact gen _ _ ek hks
  refine ⟨_, es, n, hin _ _ D.at_, ⟨rfl, rfl, rfl⟩, rfl, fun e he => ?_, ?_, ?_⟩
  · obtain ⟨x, t, e1, e2⟩ := ek e (Array.mem_toList_iff.mpr he)
    exact ⟨x, by rw [e1]; exact PySem.strKind_is P w x t, e2⟩
  · have gen : ∀ (l : List DictEntry), (∀ e ∈ l, ∃ x t, e.key = .str x t ∧ e.hash = PyData.keyHash w.params x) → Pairs (PySem.strKind P w) l (l.map fun e => (rawS e.key, e.val)) := by
      intro l
      induction l with
      | nil => intro _; exact .nil
      | cons a l ih =>
        intro hl
        obtain ⟨x, t, hx, _⟩ := hl a List.mem_cons_self
        exact .cons (by show (PySem.strKind P w).is (rawS a.key) a.key = true; rw [hx]; exact PySem.strKind_is P w x t) rfl (ih fun b hb => hl b (List.mem_cons_of_mem _ hb))
    exact gen _ ek
  · rw [List.map_map]
    have : (es.toList.map ((fun x => x.1) ∘ fun e => (rawS e.key, e.val))) = ks := keys
    rw [this]
    exact nd
theorem re_lenK {x : Str} {ks : List Str} {n : Nat} {p p2 pos : Pos} (g : Gd C X j) (K : KdK C x ks) (nd : ks.Nodup) (hn : ks.length = n) (hn2 : n ≤ 1000) (hml : C.mg "len" = none) (hg : Gl X "len" := by rfl) (hgx : Gl X x := by rfl) (hdx : (x == ("__debug__" : Str)) = false := by decide)
    (na : starEach [.Name x p2] X.env = (false, eval (.Name x p2) X.env) :: starEach [] X.env := by rfl) : RE C X (.Call (.Name "len" p) [.Name x p2] [] pos) (eLenK n) := by
  obtain ⟨d, es, n0, hm, D, hks⟩ := K.ex
  have D' := kd_transport D g.hK g.hw
  have hks' : es.toList.map He.keyOf = He.keysIn X.w.params ks := by rw [g.hw]; exact hks
  have cr : CallR X (.builtin "len") (fun vs H Q => vs = [.ref d] ∧ Q (.int n) H) := by
    intro pins s σ H xs us Q I rv ⟨ev, q⟩
    subst ev
    rw [Vals.ref1 rv]
    have dd := kd_dictOf (P := X.prog) D' I.kIn hks' nd
    have hsz : (es.toList.map fun e => (rawS e.key, e.val)).length = n := by rw [List.length_map, Array.length_toList, keys_size hks, hn]
    refine call_len_dict D'.low dd (by rw [hsz]; omega) ?_
    rw [hsz]
    exact ⟨.int n, H, I.tok _, ⟨_, rfl⟩, q⟩
  intro W tk
  refine PE_imp (pe_callB cr hg (by rw [g.hm]; exact hml) boot_len (pa_cons (ev_glob g hm hgx hdx) pa_nil na) (by decide) (by decide) na rfl) fun σ H Q ⟨ι, h, ρ, r, en, p⟩ => ⟨rfl, p ι H _ Ext.refl r (.int _)⟩
end
end PL
set_option maxRecDepth 100000
set_option maxHeartbeats 4000000
/-! Lift20: isinstance of own classes, == of dicts, *, update, dict(d). -/
namespace PL
open PySem PySem.Spec PyProof.Rows L2 PA
section
variable {C : Cz} {X : Cx} {j k : Nat}
/-- isinstance(x, c), c a slotted class of the module -/
structure IsiA (C : Cz) (c : String) : Prop where
  us : ∃ names, C.sl c = some names
  sc : SlX.SCls C.K (C.ad c)
  si : SlX.SIsi C.K (C.ad c)
  no : ∀ t ∈ ["NoneType", "bool", "int", "str", "tuple", "list", "dict"], PySem.W.kitOne C.K (.type t) (.ref (C.ad c)) = some false
theorem cr_isC {c : String} (g : Gd C X j) (S : IsiA C c) : CrA C X (.builtin "isinstance") (bIsC c) := by
  intro pins s σ H xs us Q I rv ⟨ι, h, as, W, r, x, p⟩
  cases x with
  | nil => exact p.elim
  | cons a b =>
    cases b with
    | nil => exact p.elim
    | cons a2 b =>
      cases b with
      | cons _ _ => exact (by cases a2 <;> exact p.elim)
      | nil =>
        cases a2 with
        | gl c' =>
          rename_i a0 v0
          unfold bIsC at p
          dsimp only at p
          by_cases e : c' = c
          · rw [if_pos e] at p
            subst e
            by_cases z : isIns c' h a0 = true
            · rw [if_pos z] at p
              obtain ⟨names, hn⟩ := S.us
              obtain ⟨q, dx, vs, rfl, st⟩ := isIns_sl hn r a z
              have sc := S.sc; have si := S.si
              rw [← g.hK] at sc si
              exact SlX.call_isiSl (.ref (C.ad c')) pins s σ H _ us Q I rv ⟨q, C.ad c', dx, vs, .ref (C.ad c'), true, rfl, rfl, fun w hw => hw, st, sc, si, by unfold PySem.W.kitOne; rw [if_pos (by simp)], p ι H _ Ext.refl r (.bl _)⟩
            · rw [if_neg z] at p
              cases e2 : tyOf h a0 with
              | none => rw [e2] at p; exact p.elim
              | some t =>
                rw [e2] at p
                dsimp only at p
                exact call_isi pins s σ H _ us Q I rv ⟨_, _, _, _, _, rfl, .own (C.ad c'), tyx_of g r a e2, by rw [g.hK]; exact S.no t (List.contains_iff_mem.mp (tyOf_in e2)), p ι H _ Ext.refl r (.bl _)⟩
          · rw [if_neg e] at p; exact p.elim
        | _ => exact p.elim

/-! ### == of dicts -/
theorem ksR_len {ι : Nat → Addr} {n : Nat} {H : Hp} {kvs : List (AV × AV)} {ks : List (Key × V)} (r : KsR C ι n H kvs ks) : kvs.length = ks.length := r.length
/-- a list of pairs, each key found -/
theorem ksR_all {ι : Nat → Addr} {n : Nat} {H : Hp} {xs : List (AV × AV)} {ks : List (Key × V)} (r : KsR C ι n H xs ks) {P : AV → AV → Prop} (h : ∀ p ∈ xs, P p.1 p.2) : ∀ p ∈ ks, ∃ a x, KR a p.1 ∧ AvR C ι n H x p.2 ∧ P a x := by
  induction r with
  | nil => exact fun p hp => nomatch hp
  | @int i x v fs gs xv _ ih =>
    intro p hp
    rcases List.mem_cons.mp hp with e | e
    · subst e; exact ⟨_, x, .int i, xv, h _ List.mem_cons_self⟩
    · exact ih (fun q hq => h q (List.mem_cons_of_mem _ hq)) p e
  | @str i x v fs gs xv _ ih =>
    intro p hp
    rcases List.mem_cons.mp hp with e | e
    · subst e; exact ⟨_, x, .str i, xv, h _ List.mem_cons_self⟩
    · exact ih (fun q hq => h q (List.mem_cons_of_mem _ hq)) p e
theorem op_eqD (g : Gd C X j) : OpA C X (compareOp .Eq) oEqD := by
  intro pins s σ H x y v u Q I rx ry ⟨ι, h, a, b, W, r, xa, xb, p⟩
  unfold oEqD at p
  cases e1 : dctU h a with
  | none => rw [e1] at p; exact p.elim
  | some xs =>
    rw [e1] at p
    cases e2 : dctU h b with
    | none => rw [e2] at p; exact p.elim
    | some ys =>
      rw [e2] at p
      dsimp only at p
      by_cases z : sameKvs xs ys = true
      · rw [if_pos z] at p
        obtain ⟨la, rfl, ea⟩ : ∃ l, a = .loc l ∧ h[l]? = some (.dct xs) := by
          unfold dctU at e1
          cases a with
          | loc l =>
            dsimp only at e1
            cases q : h[l]? with
            | none => rw [q] at e1; cases e1
            | some o => rw [q] at e1; cases o <;> first | (cases e1; done) | (cases e1; exact ⟨l, rfl, q⟩)
          | _ => cases e1
        obtain ⟨lb, rfl, eb⟩ : ∃ l, b = .loc l ∧ h[l]? = some (.dct ys) := by
          unfold dctU at e2
          cases b with
          | loc l =>
            dsimp only at e2
            cases q : h[l]? with
            | none => rw [q] at e2; cases e2
            | some o => rw [q] at e2; cases o <;> first | (cases e2; done) | (cases e2; exact ⟨l, rfl, q⟩)
          | _ => cases e2
        obtain ⟨rfl, _⟩ := loc_of xa
        obtain ⟨rfl, _⟩ := loc_of xb
        obtain ⟨ks, hk, kr⟩ := dct_at r ea
        obtain ⟨ls, hl, lr⟩ := dct_at r eb
        unfold sameKvs at z
        rw [Bool.and_eq_true, decide_eq_true_eq, List.all_eq_true] at z
        obtain ⟨zl, za⟩ := z
        refine op_eq_dictA g.room.units0 pins s σ H _ _ v u Q I rx ry ⟨_, _, ks, ls, rfl, rfl, hk, hl, by rw [← kr.length, ← lr.length]; exact zl, fun q hq => ?_, p ι H _ Ext.refl r (.bl _)⟩
        obtain ⟨a, x, ka, xv, pa⟩ := ksR_all kr (P := fun a x => (match dGet ys a with
          | some v => eqF v x && (match v, x with
            | .str _, .str _ => true
            | .int _, .int _ => true
            | _, _ => false)
          | none => false) = true) za q hq
        rcases lr.get ka with ⟨g1, g2⟩ | ⟨y, w, g1, g2, g3⟩
        · rw [g1] at pa; cases pa
        · rw [g1] at pa
          dsimp only at pa
          rw [Bool.and_eq_true] at pa
          obtain ⟨p1, p2⟩ := pa
          rw [g2]
          cases g3 with
          | str s1 =>
            generalize hq2 : q.2 = q2 at xv
            cases xv with
            | str s2 =>
              have : s1 = s2 := eq_of_beq p1
              subst this
              exact ⟨rfl, rfl⟩
            | _ => cases p2
          | int s1 =>
            generalize hq2 : q.2 = q2 at xv
            cases xv with
            | int s2 =>
              have : s1 = s2 := eq_of_beq p1
              subst this
              exact ⟨rfl, rfl⟩
            | _ => cases p2
          | _ => generalize q.2 = q2 at xv; cases xv <;> cases p2
      · rw [if_neg z] at p; exact p.elim

/-! ### * -/
theorem mulOk_small {x : Str} {n : Int} (h0 : 0 ≤ n) (h1 : n ≤ 1000) (h2 : x.length ≤ 1000) : MulOk x n := by
  refine ⟨by simp; omega, fun hn _ h => ?_, fun _ _ => ?_⟩
  · have hp : 0 < n := by omega
    have a1 : (x.length : Int) * n ≤ 1000 * 1000 := Int.mul_le_mul (by omega) h1 h0 (by omega)
    have a2 : (x.length : Int) ≤ (2 ^ 63 - 1) / n := (Int.le_ediv_iff_mul_le hp).mpr (by omega)
    omega
  · have : x.length * n.toNat ≤ 1000 * 1000 := Nat.mul_le_mul h2 (by omega)
    show decide (_ > _) = false
    exact decide_eq_false (by rw [sizeLine_eq]; omega)
theorem op_mulA (g : Gd C X j) : OpA C X (binaryOp .Mult) oMul := by
  intro pins s σ H x y v u Q I rx ry ⟨ι, h, a, b, W, r, xa, xb, p⟩
  unfold oMul at p
  cases xb with
  | int n =>
    cases xa with
    | int i =>
      dsimp only at p
      by_cases z : (-(2 ^ 64) < i ∧ i < 2 ^ 64) ∨ (-(2 ^ 64) < n ∧ n < 2 ^ 64)
      · rw [if_pos z] at p
        exact op_mul pins s σ H _ _ v u Q I rx ry ⟨_, _, rfl, rfl, z, p ι H _ Ext.refl r (.int _)⟩
      · rw [if_neg z] at p; exact p.elim
    | str i =>
      dsimp only at p
      by_cases z : 0 ≤ n ∧ n ≤ 1000 ∧ i.length ≤ 1000
      · rw [if_pos z] at p
        obtain ⟨t, rfl⟩ := rx
        obtain ⟨t', rfl⟩ := ry
        exact SB.mul (mulOk_small z.1 z.2.1 z.2.2) fun t'' k => ⟨.str (Txt.mul i n), H, I.tok _, ⟨_, rfl⟩, p ι H _ Ext.refl r (.str _)⟩
      · rw [if_neg z] at p; exact p.elim
    | @tup q xs vs t av =>
      dsimp only at p
      by_cases z : 2 ≤ n ∧ n ≤ 1000 ∧ xs.length ≤ 1000 ∧ xs.length ≠ 0
      · rw [if_pos z] at p
        obtain ⟨z1, z2, z3, z4⟩ := z
        refine op_repT pins s σ H _ _ v u Q I rx ry ⟨q, n, vs, rfl, rfl, by rw [g.hK]; exact t, fun e => z4 (by rw [av.length, e]; rfl), z1, z2, by rw [← av.length]; exact z3, fun p' hp => ?_⟩
        have rep : ∀ m : Nat, AvRs C ι h.length H (List.replicate m xs).flatten (List.replicate m vs).flatten := by
          intro m
          induction m with
          | zero => exact .nil
          | succ m ih => rw [List.replicate_succ, List.replicate_succ, List.flatten_cons, List.flatten_cons]; exact av.append ih
        exact laid_tup r (rep n.toNat) p hp
      · rw [if_neg z] at p; exact p.elim
    | _ => exact p.elim
  | _ => cases xa <;> exact p.elim

/-! ### d.update(d2), dict(d) -/
theorem ksR_merge {ι : Nat → Addr} {n : Nat} {H : Hp} {ys : List (AV × AV)} {ls : List (Key × V)} (r : KsR C ι n H ys ls) : ∀ {xs : List (AV × AV)} {ks : List (Key × V)}, KsR C ι n H xs ks → KsR C ι n H (ys.foldl (fun acc p => dPut acc p.1 p.2) xs) (mergeK ks ls) := by
  induction r with
  | nil => exact fun q => q
  | @int i x v fs gs xv _ ih => exact fun q => ih (q.put (.int i) xv)
  | @str i x v fs gs xv _ ih => exact fun q => ih (q.put (.str i) xv)
theorem mm_upd : MtR X "dict.update" (fun x vs H Q => ∃ ι h a as W, Rep C ι h H ∧ AvR C ι h.length H a x ∧ AvRs C ι h.length H as vs ∧ GPost C (AvR C) ι h H Q W (mUpd a as h)) := by
  intro pins s σ H x xs v us Q I rx rxs ⟨ι, h, a, as, W, r, xa, x2, p⟩
  unfold mUpd at p
  cases xa with
  | @loc l hl =>
    cases x2 with
    | nil => exact p.elim
    | cons a2 b2 =>
      cases b2 with
      | cons _ _ => cases a2 <;> exact p.elim
      | nil =>
        cases a2 with
        | @loc m hm =>
          dsimp only at p
          by_cases z : l = m
          · rw [if_pos z] at p; exact p.elim
          · rw [if_neg z] at p
            cases e1 : h[l]? with
            | none => rw [e1] at p; exact p.elim
            | some o1 =>
              cases e2 : h[m]? with
              | none => rw [e1, e2] at p; cases o1 <;> exact p.elim
              | some o2 =>
                rw [e1, e2] at p
                cases o1 with
                | dct ks =>
                  cases o2 with
                  | dct ls =>
                    dsimp only at p
                    by_cases zz : ks.length + ls.length ≤ 100000
                    · rw [if_pos zz] at p
                      obtain ⟨ka, hka, ra⟩ := dct_at r e1
                      obtain ⟨kb, hkb, rb⟩ := dct_at r e2
                      obtain rfl : v = Value.ref (ι l) := rx
                      obtain ⟨u, rfl, ru⟩ := rxs.one
                      obtain rfl : u = Value.ref (ι m) := ru
                      obtain ⟨z1, hd1, v1, rel1, dd1⟩ := dk_of I.hok hka
                      obtain ⟨z2, hd2, v2, rel2, dd2⟩ := dk_of I.hok hkb
                      have ne : ι l ≠ ι m := fun q => z (r.inj l m hl hm q)
                      have la := ra.length
                      have lb := rb.length
                      have l1 : ka.length = v1.length := rel1.length
                      have l2 : kb.length = v2.length := rel2.length
                      refine call_meetsIn PySem.F.slot_dict_update dd1.typeIs PySem.F.entry_dict_update (PySem.F.args_dict_update_2 _ _) (meets_dict_update (mixKind X.prog X.w) (ι l) (ι m) ne hd2) ⟨v1, v2, dd1, dd2, by rw [sizeLine_eq]; omega, fun h' dd' _ hs => ?_⟩
                      have he : ∃ q, h'.get? (ι l) = some q := let ⟨q, _, _, hq, _⟩ := dd'; ⟨q, hq⟩
                      obtain ⟨ex, r2⟩ := chg_dct r e1 (ksR_merge rb ra)
                      refine ⟨.non, _, d_write (t' := s.toks) I (by rw [hka]; exact True.intro) hs he (dk_new ?_ hd1 (KV.merge rel2 rel1) dd'), rfl, p ι _ .non ex r2 .non⟩
                      have := length_mergeK kb ka
                      rw [sizeLine_eq]
                      omega
                    · rw [if_neg zz] at p; exact p.elim
                  | _ => exact p.elim
                | _ => exact p.elim
        | _ => exact p.elim
  | _ => cases x2 with
    | nil => exact p.elim
    | cons a2 b2 => exact p.elim
theorem tyd_of {ι : Nat → Addr} {h : PA.Heap} {H : Hp} {a : AV} {x : V} (r : Rep C ι h H) (xa : AvR C ι h.length H a x) (z : isDct h a = true) : tyV X.K "dict" x H := by
  cases xa with
  | @loc l hl =>
    unfold isDct at z
    dsimp only at z
    cases e : h[l]? with
    | none => rw [e] at z; cases z
    | some o =>
      rw [e] at z
      cases o with
      | dct xs => obtain ⟨vs, hv, _⟩ := dct_at r e; exact .inr (.inr (.inl ⟨rfl, .inl ⟨vs, hv⟩⟩))
      | _ => cases z
  | _ => cases z
theorem re_upd {o e : Expr} {mo : EE} {l : LL} {apos cpos : Pos}
    (ho : RE C X o mo) (hl : RL C X [e] l) (hbase : attributeBase o "update" X.env (eval o X.env) = eval o X.env := by rfl)
    (hfew : ((backTo cpos (starEach [e] X.env)).all (fun x => !x.1) && (backToKw cpos (keywordEach [] X.env)).all (fun x => x.1.isSome)
      && decide ([e].length + ([] : List Keyword).length + (if ([] : List Keyword).isEmpty then 0 else 1) < 30)) = true := by rfl)
    (hline : (apos.endLine == cpos.line) = true := by rfl) (hs : starEach [e] X.env = (false, eval e X.env) :: starEach [] X.env := by rfl) (hplain : (backTo cpos (starEach [] X.env)).any (·.1) = false := by rfl) :
    RE C X (.Call (.Attribute o "update" apos) [e] [] cpos) (eDm mUpd mo l) := fun W tk =>
  PE_imp (pe_bm PySem.F.plainAttrs_dict PySem.F.slot_dict_update PySem.F.type_dict_update mm_upd (ho W tk) (hl W tk) hbase hfew hline hs hplain) fun σ H Q ⟨ι, h, ρ, r, en, p⟩ => ⟨ι, h, ρ, r, en, (GPost.bnd (R := AvR C) p).mono fun x H1 ⟨ι1, h1, a, r1, e1, x1, p1⟩ => by
    by_cases z : isDct h1 a = true
    · rw [if_pos z] at p1
      exact ⟨tyd_of r1 x1 z, ι1, h1, ρ, r1, en.ext r e1, (GPost.bnd (R := AvRs C) p1).mono fun xs H2 ⟨ι2, h2, as, r2, e2, x2, p2⟩ => ⟨ι2, h2, a, as, _, r2, r1.av e2 x1, x2, p2⟩⟩
    · rw [if_neg z] at p1; exact p1.elim⟩
theorem cr_dict : CrA C X (.type "dict") bDict := by
  intro pins s σ H xs us Q I rv ⟨ι, h, as, W, r, x, p⟩
  cases x with
  | nil => exact p.elim
  | cons a b =>
    cases b with
    | cons _ _ => exact p.elim
    | nil =>
      rename_i a0 v0
      unfold bDict at p
      dsimp only at p
      cases e : dctOf h a0 with
      | none => rw [e] at p; exact p.elim
      | some kvs =>
        rw [e] at p
        obtain ⟨q, ks, rfl, rd, kr⟩ := dct_of r a e
        exact call_dictD pins s σ H _ us Q I rv ⟨q, ks, rfl, rd, fun p' hp => laid_dct r kr p p' hp⟩
end
end PL
set_option maxRecDepth 100000
set_option maxHeartbeats 4000000
/-! Lift21: a name that is set to a comprehension. -/
namespace PL
open PySem PySem.Spec PyProof.Rows L2 PA
section
variable {C : Cz} {X : Cx} {tg : Expr} {j k : Nat}
theorem lc_imp {it : II} {g : Tg} {g' : TG} {is : List Nat} {t : BB} {e : EE} {W : WX} {vs0 : List Nat} (tokG : TgOk C g' g is) (hin : ∀ i ∈ is, i ∈ vs0) : ∀ σ H Q, tM C (lComp it g t e vs0) W σ H Q → tLc (tI C it W) g' (tT C t WF) (tE C e WF) vs0 σ H Q := by
  intro σ H Q ⟨ι, h, ρ, r, en, Z, hZ, p⟩
  refine ⟨ι, h, ρ, r, en, (GPost.bnd (R := ItOk C) p).mono fun J H1 ⟨ι1, h1, items, r1, e1, x1, p1⟩ => ?_⟩
  intro D hD
  have nZ : ¬ Z D := fun z => e1.dom D (hZ D z) hD
  refine ⟨fun i m H2 => ∃ ι2 h2 acc vs, Ext ι1 h1.length H1 ι2 h2.length H2 ∧ Rep C ι2 h2 H2 ∧ H2 D = some (.lst vs) ∧ AvRs C ι2 h2.length H2 acc vs ∧ (∀ l, l < h2.length → ι2 l ≠ D) ∧ GPost C (rTmp C Z) ι1 h1 H1 Q (fun c d H' => W c d σ H') (lcIter items g t e (wipeA ρ (vs0)) m i acc h2),
    ⟨fuel, ι1, h1, [], [], Ext.laid r1 hD, r1.laid hD, upd_same, .nil, fun l hl => r1.off hD hl, p1⟩, ?_⟩
  rintro i m H2 ⟨ι2, h2, acc, vs, e2, r2, hv, av, off, p2⟩
  cases m with
  | zero => exact p2.elim
  | succ k =>
    unfold lcIter at p2
    cases z : items h2 with
    | none => simp only [z] at p2; exact p2.elim
    | some ys =>
      simp only [z] at p2
      obtain ⟨w1, w2⟩ := x1 ι2 h2 H2 e2 r2 i ys z
      cases z2 : ys[i]? with
      | none =>
        simp only [z2] at p2
        exact .inl ⟨w2 z2, p2 ι2 H2 _ e2 r2 ⟨D, vs, rfl, hv, av, off, nZ⟩⟩
      | some x =>
        simp only [z2] at p2
        obtain ⟨go, yl⟩ := w1 x z2
        refine .inr ⟨go, fun H3 => ∃ ι2 h2 acc vs, Ext ι1 h1.length H1 ι2 h2.length H3 ∧ Rep C ι2 h2 H3 ∧ H3 D = some (.lst vs) ∧ AvRs C ι2 h2.length H3 acc vs ∧ (∀ l, l < h2.length → ι2 l ≠ D) ∧ GPost C (rTmp C Z) ι1 h1 H1 Q (fun c d H' => W c d σ H') (lcIter items g t e (wipeA ρ (vs0)) k (i + 1) acc h2), fun H3 q => ⟨k, Nat.lt_succ_self _, q⟩, fun v H3 y => ?_⟩
        obtain ⟨e3, r3, xv⟩ := yl v H3 y
        cases z3 : g x (wipeA ρ (vs0)) with
        | none => simp only [z3] at p2; exact p2.elim
        | some ρ1 =>
          simp only [z3] at p2
          have en3 : EnR C ι2 h2.length H3 (wipeA ρ (vs0)) (L2.wipe σ (vs0)) := ((en.ext r e1).ext r1 (e2.trans e3)).wipe _
          have keepD : ∀ {ι5 : Nat → Addr} {h5 : PA.Heap} {H5 : Hp}, Ext ι2 h2.length H2 ι5 h5.length H5 → H5 D = some (.lst vs) ∧ ∀ l, l < h5.length → ι5 l ≠ D := fun {ι5 h5 H5} e5 => by
            refine ⟨e5.frame _ _ hv (fun _ z => nomatch z) off, fun l hl zl => ?_⟩
            by_cases q : l < h2.length
            · exact off l q ((e5.agree l q).symm.trans zl)
            · have f := e5.fresh l (Nat.le_of_not_lt q) hl
              rw [zl, hv] at f
              cases f
          refine tokG ι2 h2 H3 _ ρ1 _ x v _ r3 en3 xv z3 fun σ' en' wp => ⟨?_, ι2, h2, ρ1, r3, en', ?_⟩
          · have idem : ∀ ws : List Nat, L2.wipe (L2.wipe σ ws) ws = L2.wipe σ ws := by
              intro ws
              apply List.ext_getElem?
              intro q
              have key : ∀ (τ : L2.St) (us : List Nat), (L2.wipe τ us)[q]? = if q ∈ us then (τ[q]?).map (fun _ => none) else τ[q]? := by
                intro τ us
                induction us with
                | nil => simp [L2.wipe]
                | cons u us ih =>
                  unfold L2.wipe
                  by_cases zz : u = q
                  · subst zz
                    rw [if_pos List.mem_cons_self]
                    by_cases hq : u < τ.length
                    · rw [List.getElem?_set_self (by rw [wipe_length]; exact hq)]
                      simp [hq]
                    · rw [List.getElem?_eq_none (by rw [List.length_set, wipe_length]; omega), List.getElem?_eq_none (by omega)]
                      rfl
                  · rw [List.getElem?_set_ne zz, ih]
                    by_cases hm : q ∈ us
                    · rw [if_pos hm, if_pos (List.mem_cons_of_mem _ hm)]
                    · rw [if_neg hm, if_neg (fun hh => (List.mem_cons.mp hh).elim (fun e => zz e.symm) hm)]
              rw [key, key]
              by_cases hm : q ∈ ws
              · rw [if_pos hm, if_pos hm]; cases σ[q]? <;> rfl
              · rw [if_neg hm, if_neg hm]
            exact (wp _ hin).trans (idem _)
          cases z4 : t ρ1 h2 with
          | bad => simp only [z4] at p2; exact p2.elim
          | exc e' h' => simp only [z4] at p2; exact p2.elim
          | ok b h4 =>
            rw [z4] at p2
            intro ι4 H4 b' e4 r4 eb
            cases eb
            cases b with
            | false =>
              rw [if_neg Bool.false_ne_true]
              obtain ⟨k1, k2⟩ := keepD (e3.trans e4)
              exact ⟨ι4, h4, acc, vs, e2.trans (e3.trans e4), r4, k1, r2.avs (e3.trans e4) av, k2, p2⟩
            | true =>
              rw [if_pos rfl]
              refine ⟨ι4, h4, ρ1, r4, en'.ext r3 e4, ?_⟩
              dsimp only at p2
              cases z5 : e ρ1 h4 with
              | bad => simp only [z5] at p2; exact p2.elim
              | exc e' h' => simp only [z5] at p2; exact p2.elim
              | ok y h5 =>
                simp only [z5] at p2
                intro ι5 H5 w e5 r5 xw
                obtain ⟨k1, k2⟩ := keepD (e3.trans (e4.trans e5))
                have av5 := r2.avs (e3.trans (e4.trans e5)) av
                by_cases zl : acc.length < szl
                · rw [if_pos zl] at p2
                  refine ⟨vs, k1, by rw [← av.length]; exact zl, ι5, h5, acc ++ [y], vs ++ [w], (e2.trans (e3.trans (e4.trans e5))).side hD, r5.side k1 k2, upd_same, ?_, k2, p2⟩
                  exact (av5.append (.cons xw .nil)).map (fun _ _ => side_sqT k1) (Nat.le_refl _) fun _ _ => rfl
                · rw [if_neg zl] at p2; exact p2.elim
theorem dc_imp {it : II} {g : Tg} {g' : TG} {is : List Nat} {t : BB} {ek ev : EE} {W : WX} {vs0 : List Nat} (tokG : TgOk C g' g is) (hin : ∀ i ∈ is, i ∈ vs0) : ∀ σ H Q, tE C (eDc it g t ek ev vs0) W σ H Q → tDc (tI C it W) g' (tT C t WF) (tE C ek WF) (tE C ev WF) vs0 σ H Q := by
  intro σ H Q ⟨ι, h, ρ, r, en, p⟩
  refine ⟨ι, h, ρ, r, en, (GPost.bnd (R := ItOk C) p).mono fun J H1 ⟨ι1, h1, items, r1, e1, x1, p1⟩ => ?_⟩
  intro D hD
  refine ⟨fun i m H2 => ∃ ι2 h2 acc vs, Ext ι1 h1.length H1 ι2 h2.length H2 ∧ Rep C ι2 h2 H2 ∧ H2 D = some (.dK vs) ∧ KsR C ι2 h2.length H2 acc vs ∧ (∀ l, l < h2.length → ι2 l ≠ D) ∧ GPost C (AvR C) ι1 h1 H1 Q (fun c d H' => W c d σ H') (PA.bnd (dcIter items g t ek ev (wipeA ρ (vs0)) m i acc) (fun kvs h => .ok (.loc h.length) (h ++ [.dct kvs])) h2),
    ⟨fuel, ι1, h1, [], [], Ext.laid r1 hD, r1.laid hD, upd_same, .nil, fun l hl => r1.off hD hl, p1⟩, ?_⟩
  rintro i m H2 ⟨ι2, h2, acc, vs, e2, r2, hv, av, off, p2⟩
  cases m with
  | zero => exact p2.elim
  | succ k =>
    unfold PA.bnd dcIter at p2
    cases z : items h2 with
    | none => simp only [z] at p2; exact p2.elim
    | some ys =>
      simp only [z] at p2
      obtain ⟨w1, w2⟩ := x1 ι2 h2 H2 e2 r2 i ys z
      cases z2 : ys[i]? with
      | none =>
        simp only [z2] at p2
        obtain ⟨f1, f2, f3⟩ := adopt_dct e2 hD r2 off hv av
        exact .inl ⟨w2 z2, p2 _ H2 _ f1 f2 f3⟩
      | some x =>
        simp only [z2] at p2
        obtain ⟨go, yl⟩ := w1 x z2
        refine .inr ⟨go, fun H3 => ∃ ι2 h2 acc vs, Ext ι1 h1.length H1 ι2 h2.length H3 ∧ Rep C ι2 h2 H3 ∧ H3 D = some (.dK vs) ∧ KsR C ι2 h2.length H3 acc vs ∧ (∀ l, l < h2.length → ι2 l ≠ D) ∧ GPost C (AvR C) ι1 h1 H1 Q (fun c d H' => W c d σ H') (PA.bnd (dcIter items g t ek ev (wipeA ρ (vs0)) k (i + 1) acc) (fun kvs h => .ok (.loc h.length) (h ++ [.dct kvs])) h2), fun H3 q => ⟨k, Nat.lt_succ_self _, q⟩, fun v H3 y => ?_⟩
        obtain ⟨e3, r3, xv⟩ := yl v H3 y
        cases z3 : g x (wipeA ρ (vs0)) with
        | none => simp only [z3] at p2; exact p2.elim
        | some ρ1 =>
          simp only [z3] at p2
          have en3 : EnR C ι2 h2.length H3 (wipeA ρ (vs0)) (L2.wipe σ (vs0)) := ((en.ext r e1).ext r1 (e2.trans e3)).wipe _
          have keepD : ∀ {ι5 : Nat → Addr} {h5 : PA.Heap} {H5 : Hp}, Ext ι2 h2.length H2 ι5 h5.length H5 → H5 D = some (.dK vs) ∧ ∀ l, l < h5.length → ι5 l ≠ D := fun {ι5 h5 H5} e5 => by
            refine ⟨e5.frame _ _ hv (fun _ z => nomatch z) off, fun l hl zl => ?_⟩
            by_cases q : l < h2.length
            · exact off l q ((e5.agree l q).symm.trans zl)
            · have f := e5.fresh l (Nat.le_of_not_lt q) hl
              rw [zl, hv] at f
              cases f
          refine tokG ι2 h2 H3 _ ρ1 _ x v _ r3 en3 xv z3 fun σ' en' wp => ⟨(wp _ hin).trans (wipe_idem _ _), ι2, h2, ρ1, r3, en', ?_⟩
          cases z4 : t ρ1 h2 with
          | bad => simp only [z4] at p2; exact p2.elim
          | exc e' h' => simp only [z4] at p2; exact p2.elim
          | ok b h4 =>
            rw [z4] at p2
            intro ι4 H4 b' e4 r4 eb
            cases eb
            cases b with
            | false =>
              rw [if_neg Bool.false_ne_true]
              obtain ⟨k1, k2⟩ := keepD (e3.trans e4)
              exact ⟨ι4, h4, acc, vs, e2.trans (e3.trans e4), r4, k1, r2.ksr (e3.trans e4) av, k2, p2⟩
            | true =>
              rw [if_pos rfl]
              refine ⟨ι4, h4, ρ1, r4, en'.ext r3 e4, ?_⟩
              dsimp only at p2
              cases z5 : ek ρ1 h4 with
              | bad => simp only [z5] at p2; exact p2.elim
              | exc e' h' => simp only [z5] at p2; exact p2.elim
              | ok y h5 =>
                simp only [z5] at p2
                intro ι5 H5 w e5 r5 xw
                refine ⟨ι5, h5, ρ1, r5, (en'.ext r3 e4).ext r4 e5, ?_⟩
                cases z6 : ev ρ1 h5 with
                | bad => simp only [z6] at p2; exact p2.elim
                | exc e' h' => simp only [z6] at p2; exact p2.elim
                | ok y2 h6 =>
                  simp only [z6] at p2
                  intro ι6 H6 w2 e6 r6 xw2
                  have et := e3.trans (e4.trans (e5.trans e6))
                  obtain ⟨k1, k2⟩ := keepD et
                  have av6 := r2.ksr et av
                  by_cases zl : isKey y = true ∧ acc.length < 100000
                  · rw [if_pos zl] at p2
                    have sq : ∀ u a xs, SqT C.K H6 a xs → SqT C.K (upd H6 D u) a xs := fun u a xs => side_sqT' k1 (fun _ z => nomatch z) (fun _ _ z => nomatch z)
                    have lz : vs.length < sizeLine := by rw [← av.length]; have := zl.2; unfold sizeLine; omega
                    have fin : ∀ (kk : Key), w = kV kk → KR y kk → ∃ kvs k', w = kV k' ∧ H6 D = some (.dK kvs) ∧ kvs.length < sizeLine ∧ ∃ ι2 h2 acc vs, Ext ι1 h1.length H1 ι2 h2.length (upd H6 D (.dK (putK kvs k' w2))) ∧ Rep C ι2 h2 (upd H6 D (.dK (putK kvs k' w2))) ∧ (upd H6 D (.dK (putK kvs k' w2))) D = some (.dK vs) ∧ KsR C ι2 h2.length (upd H6 D (.dK (putK kvs k' w2))) acc vs ∧ (∀ l, l < h2.length → ι2 l ≠ D) ∧ GPost C (AvR C) ι1 h1 H1 Q (fun c d H' => W c d σ H') (PA.bnd (dcIter items g t ek ev (wipeA ρ (vs0)) k (i + 1) acc) (fun kvs h => .ok (.loc h.length) (h ++ [.dct kvs])) h2) := fun kk ew kr =>
                      ⟨vs, kk, ew, k1, lz, ι6, h6, dPut acc y y2, putK vs kk w2, (e2.trans et).side hD, r6.sideD k1 k2, upd_same, (av6.put kr xw2).map (sq _) (Nat.le_refl _) fun _ _ => rfl, k2, p2⟩
                    cases xw with
                    | int q => exact fin (.inl q) rfl (.int q)
                    | str q => exact fin (.inr q) rfl (.str q)
                    | _ => exact absurd zl.1 Bool.false_ne_true
                  · rw [if_neg zl] at p2; exact p2.elim
theorem keep_imp {m : LL} {W : WX} : ∀ σ H Q, tE C (eKeep m) W σ H Q → tM C m W σ H Q :=
  fun σ H Q ⟨ι, h, ρ, r, en, p⟩ => ⟨ι, h, ρ, r, en, (fun p => H p ≠ none), fun _ z => z, by
    unfold eKeep PA.bnd at p
    cases e : m ρ h with
    | bad => rw [e] at p; exact p.elim
    | exc e' h' => rw [e] at p; exact p
    | ok xs h' =>
      rw [e] at p
      intro ι1 H1 v e1 r1 ⟨q, vs, ev, hq, av, off, nz⟩
      subst ev
      have hn : H q = none := Classical.byContradiction nz
      have e2 : Ext ι h.length H (put1 ι1 h'.length q) (h' ++ [AO.lst xs]).length H1 := by
        rw [List.length_append, List.length_singleton]
        refine ⟨Nat.le_succ_of_le e1.le, fun l hl => (put1_lt (Nat.lt_of_lt_of_le hl e1.le)).trans (e1.agree l hl), e1.frame, fun l a b => ?_, e1.dom, e1.frz⟩
        by_cases z : l < h'.length
        · rw [put1_lt z]; exact e1.fresh l a z
        · have : l = h'.length := by omega
          subst this
          rw [put1_same]; exact hn
      have ag : ∀ l, l < h'.length → put1 ι1 h'.length q l = ι1 l := fun l hl => put1_lt hl
      have r2 : Rep C (put1 ι1 h'.length q) (h' ++ [AO.lst xs]) H1 := by
        refine ⟨fun l o eo => ?_, fun l l' a b eq => ?_, r1.scr⟩
        · rw [List.length_append, List.length_singleton]
          by_cases z : l < h'.length
          · rw [List.getElem?_append_left z] at eo
            rw [put1_lt z]
            have := r1.at_ l o eo
            have step : Ext ι1 h'.length H1 (put1 ι1 h'.length q) (h'.length + 1) H1 ∨ True := .inr trivial
            cases o with
            | lst ys => obtain ⟨ws, w1, w2⟩ := this; exact ⟨ws, w1, w2.map (fun _ _ t => t) (Nat.le_succ _) ag⟩
            | dct ys => obtain ⟨ws, w1, w2⟩ := this; exact ⟨ws, w1, w2.map (fun _ _ t => t) (Nat.le_succ _) ag⟩
            | lck ys => obtain ⟨o, ws, w1, w2⟩ := this; exact ⟨o, ws, w1, w2.map (fun _ _ t => t) (Nat.le_succ _) ag⟩
            | ins c fs =>
              rcases this with ⟨e0, dx, gs, w1, w2⟩ | ⟨names, dx, us, e0, sl, ne, w2⟩
              · exact .inl ⟨e0, dx, gs, w1, w2.map (fun _ _ t => t) (Nat.le_succ _) ag⟩
              · exact .inr ⟨names, dx, us, e0, sl, ne, fun i f x h1 h2 => let ⟨v, e3, e4⟩ := w2 i f x h1 h2; ⟨v, e3, e4.map (fun _ _ t => t) (Nat.le_succ _) ag⟩⟩
          · have hl : l < h'.length + 1 := by have := (List.getElem?_eq_some_iff.mp eo).1; simpa using this
            have : l = h'.length := by omega
            subst this
            rw [List.getElem?_append_right (Nat.le_refl _), Nat.sub_self] at eo
            simp at eo
            subst eo
            rw [put1_same]
            exact ⟨vs, hq, av.map (fun _ _ t => t) (Nat.le_succ _) ag⟩
        · rw [List.length_append, List.length_singleton] at a b
          by_cases z : l < h'.length
          · by_cases z' : l' < h'.length
            · rw [put1_lt z, put1_lt z'] at eq; exact r1.inj l l' z z' eq
            · have : l' = h'.length := by omega
              subst this
              rw [put1_lt z, put1_same] at eq
              exact absurd eq (off l z)
          · have : l = h'.length := by omega
            subst this
            by_cases z' : l' < h'.length
            · rw [put1_lt z', put1_same] at eq
              exact absurd eq.symm (off l' z')
            · omega
      refine p _ H1 (.ref q) e2 r2 ?_
      have t : AvR C (put1 ι1 h'.length q) (h' ++ [AO.lst xs]).length H1 (.loc h'.length) (.ref (put1 ι1 h'.length q h'.length)) := .loc (by simp)
      rw [put1_same] at t
      exact t⟩
theorem rs_setLc (i : Nat) {y : Str} {py : Pos} {elt tg iter : Expr} {ifs : List Expr} {scope : Scope} {own : List (Str × Nat)} {pos spos : Pos} {it : II} {g : Tg} {g' : TG} {is : List Nat} {t : BB} {e : EE} (gd : Gd C X j) (hi : RI C X tg iter it) (ok : BlkOk X.N X.env.scope scope own)
    (hg : ∀ (s : Shared) (H : Hp) (c : Addr) (cl : List (Str × Addr)) (fp : List Addr), RG C (X.blk s H scope (compEnvC scope cl c X.env) fp) tg g g' is)
    (ht : ∀ (s : Shared) (H : Hp) (c : Addr) (cl : List (Str × Addr)) (fp : List Addr), Gd C (X.blk s H scope (compEnvC scope cl c X.env) fp) j → RTs C (X.blk s H scope (compEnvC scope cl c X.env) fp) ifs t)
    (he : ∀ (s : Shared) (H : Hp) (c : Addr) (cl : List (Str × Addr)) (fp : List Addr), Gd C (X.blk s H scope (compEnvC scope cl c X.env) fp) j → RE C (X.blk s H scope (compEnvC scope cl c X.env) fp) elt e)
    (hy : X.N[i]? = some y := by rfl) (hyl : X.env.scope.names.lookup y = some .local := by rfl) (hk : X.env.scope.kind = .function := by rfl) (hl : (py.line == pos.line) = true := by rfl)
    (ha : (scope.names.any fun (n, k) => n == y && (k == .local || k == .cell)) = false := by rfl) (hin : ∀ i ∈ is, i ∈ own.map (·.2) := by decide) (hs : ∀ x, foldedSetIterable iter X.env x = pure x := by intro _; rfl) :
    RS C X (.Assign [.Name y py] (.ListComp elt [⟨tg, iter, ifs, 0⟩] scope pos) spos) (sSet i (eKeep (lComp it g t e (own.map (·.2))))) := fun W tk => by
  have gb : ∀ (s : Shared) (H : Hp) (c : Addr) (cl : List (Str × Addr)) (fp : List Addr), Gd C (X.blk s H scope (compEnvC scope cl c X.env) fp) j := fun _ _ _ _ _ => ⟨gd.hP, gd.hw, gd.hK, gd.hm, gd.hb, gd.calm, gd.nd, gd.room⟩
  refine PS_imp (ps_setLc (tt := tT C t WF) (te := tE C e WF) gd.calm gd.nd hy hyl (sw_true hk hyl hl ha) (hi W tk) ok (fun s H c cl fp => (hg s H c cl fp).pg) (fun s H c cl fp => ht s H c cl fp (gb s H c cl fp) WF takes0) (fun s H c cl fp => he s H c cl fp (gb s H c cl fp) WF takes0) hs) ?_
  intro D σ H ⟨ι, h, ρ, r, en, p⟩
  refine lc_imp (hg { } H 0 [] []).ok hin _ _ _ (keep_imp _ _ _ ⟨ι, h, ρ, r, en, (SPost.bnd (R := AvR C) r en p).mono fun x H1 ⟨ι1, h1, a, r1, e1, x1, p1⟩ => ?_⟩)
  exact p1 ι1 H1 _ Ext.refl r1 ((en.ext r e1).set x1 i)
/-- name = {..: .. for ..} on one line, the name a local -/
theorem ps_setDc {i : Nat} {y : Str} {py : Pos} {kx vx tg iter : Expr} {ifs : List Expr} {scope : Scope} {own : List (Str × Nat)} {pos spos : Pos} {wi : TI} {g : TG} {tt : TT} {tk tv : TE} (hc : X.calm = true) (hN : X.N.Nodup) (hy : X.N[i]? = some y) (hyl : X.env.scope.names.lookup y = some .local)
    (hsw : swapsWith (.DictComp kx vx [⟨tg, iter, ifs, 0⟩] scope pos) (some (.Name y py)) spos.line X.env = pure true) (hi : PI X tg iter wi) (ok : BlkOk X.N X.env.scope scope own)
    (hg : ∀ (s : Shared) (H : Hp) (C : Addr) (cl : List (Str × Addr)) (fp : List Addr), PG (X.blk s H scope (compEnvC scope cl C X.env) fp) tg g) (ht : ∀ (s : Shared) (H : Hp) (C : Addr) (cl : List (Str × Addr)) (fp : List Addr), PTs (X.blk s H scope (compEnvC scope cl C X.env) fp) ifs tt)
    (hk : ∀ (s : Shared) (H : Hp) (C : Addr) (cl : List (Str × Addr)) (fp : List Addr), PE (X.blk s H scope (compEnvC scope cl C X.env) fp) kx tk)
    (he : ∀ (s : Shared) (H : Hp) (C : Addr) (cl : List (Str × Addr)) (fp : List Addr), PE (X.blk s H scope (compEnvC scope cl C X.env) fp) vx tv) (hs : ∀ x, foldedSetIterable iter X.env x = pure x := by intro _; rfl) :
    PS X (.Assign [.Name y py] (.DictComp kx vx [⟨tg, iter, ifs, 0⟩] scope pos) spos) (tAsg (tDc wi g tt tk tv (own.map (·.2))) (L2.gName i)) := by
  refine ⟨fun pins s σ H D I h => ?_⟩
  rw [exec_Assign_Name_used _ _ _ _ hsw]
  refine wpAny_bind (wpAny_standAt (wpAny_bind ?_))
  show wpAny _ X.A (do let _ ← comprehension (.DictComp kx vx [⟨tg, iter, ifs, 0⟩] scope pos) scope X.env (firstIterPos [⟨tg, iter, ifs, 0⟩] pos) newDict false (eval iter X.env) (some (assign (.Name y py) X.env))) _ _ s
  have h : tDc wi g tt tk tv (own.map (·.2)) σ H (fun x H1 => L2.gName i x σ H1 D.nx) := h
  refine wpAny_bind (thn (dc_core (Qf := fun _ s' => SP X pins D .next s') hc hN I hi ok hg ht hk he hs h fun L C s' m H' I' q hn f => ?_) fun _ s' hq => wpAny_pure (wpAny_pure hq))
  show wpAny _ _ (assign (.Name y py) X.env (.ref L)) _ _ _
  refine wpAny_assign_Name (store_ok2 (v := V.ref L) I' hN hy (.inl hyl) rfl (fun s2 I2 ⟨a, sb, ha⟩ => ?_) (.inr hyl))
  obtain ⟨f0, f1, f2, f3, f4, f5⟩ := f
  have haC : C ≠ a := by
    rcases ha with z | z
    · rw [z]; exact f1
    · exact fun e => f4 y a z e.symm
  refine ⟨m, hn.sameBut sb haC, fun h3 sb3 => ?_⟩
  exact ⟨_, H', I2.turned (t' := s2.toks) (fun b o hb e => (sb3.2 b hb).trans e) f0 f1 f3 f4 f5, q⟩
theorem swd_true {kx vx : Expr} {gs : List Comprehension} {scope : Scope} {pos py : Pos} {y : Str} {l : Nat} {env : PySem.Env} (hk : env.scope.kind = .function) (hy : env.scope.names.lookup y = some .local) (hl : (py.line == pos.line) = true)
    (ha : (scope.names.any fun (n, k) => n == y && (k == .local || k == .cell)) = false) : swapsWith (.DictComp kx vx gs scope pos) (some (.Name y py)) l env = pure true := by
  have ky : env.kindOf y = some .local := hy
  have hb : env.blockKind = .function := by unfold PySem.Env.blockKind; rw [hk]; rfl
  unfold swapsWith
  simp only [hb, ky, ha, Expr.pos, hl]
  rfl
theorem rs_setDc (i : Nat) {y : Str} {py : Pos} {kx vx tg iter : Expr} {ifs : List Expr} {scope : Scope} {own : List (Str × Nat)} {pos spos : Pos} {it : II} {g : Tg} {g' : TG} {is : List Nat} {t : BB} {ek ev : EE} (gd : Gd C X j) (hi : RI C X tg iter it) (ok : BlkOk X.N X.env.scope scope own)
    (hg : ∀ (s : Shared) (H : Hp) (c : Addr) (cl : List (Str × Addr)) (fp : List Addr), RG C (X.blk s H scope (compEnvC scope cl c X.env) fp) tg g g' is)
    (ht : ∀ (s : Shared) (H : Hp) (c : Addr) (cl : List (Str × Addr)) (fp : List Addr), Gd C (X.blk s H scope (compEnvC scope cl c X.env) fp) j → RTs C (X.blk s H scope (compEnvC scope cl c X.env) fp) ifs t)
    (hk' : ∀ (s : Shared) (H : Hp) (c : Addr) (cl : List (Str × Addr)) (fp : List Addr), Gd C (X.blk s H scope (compEnvC scope cl c X.env) fp) j → RE C (X.blk s H scope (compEnvC scope cl c X.env) fp) kx ek)
    (he : ∀ (s : Shared) (H : Hp) (c : Addr) (cl : List (Str × Addr)) (fp : List Addr), Gd C (X.blk s H scope (compEnvC scope cl c X.env) fp) j → RE C (X.blk s H scope (compEnvC scope cl c X.env) fp) vx ev)
    (hy : X.N[i]? = some y := by rfl) (hyl : X.env.scope.names.lookup y = some .local := by rfl) (hk : X.env.scope.kind = .function := by rfl) (hl : (py.line == pos.line) = true := by rfl)
    (ha : (scope.names.any fun (n, k) => n == y && (k == .local || k == .cell)) = false := by rfl) (hin : ∀ i ∈ is, i ∈ own.map (·.2) := by decide) (hs : ∀ x, foldedSetIterable iter X.env x = pure x := by intro _; rfl) :
    RS C X (.Assign [.Name y py] (.DictComp kx vx [⟨tg, iter, ifs, 0⟩] scope pos) spos) (sSet i (eDc it g t ek ev (own.map (·.2)))) := fun W tk => by
  have gb : ∀ (s : Shared) (H : Hp) (c : Addr) (cl : List (Str × Addr)) (fp : List Addr), Gd C (X.blk s H scope (compEnvC scope cl c X.env) fp) j := fun _ _ _ _ _ => ⟨gd.hP, gd.hw, gd.hK, gd.hm, gd.hb, gd.calm, gd.nd, gd.room⟩
  refine PS_imp (ps_setDc (tt := tT C t WF) (tk := tE C ek WF) (tv := tE C ev WF) gd.calm gd.nd hy hyl (swd_true hk hyl hl ha) (hi W tk) ok (fun s H c cl fp => (hg s H c cl fp).pg) (fun s H c cl fp => ht s H c cl fp (gb s H c cl fp) WF takes0) (fun s H c cl fp => hk' s H c cl fp (gb s H c cl fp) WF takes0) (fun s H c cl fp => he s H c cl fp (gb s H c cl fp) WF takes0) hs) ?_
  intro D σ H ⟨ι, h, ρ, r, en, p⟩
  refine dc_imp (hg { } H 0 [] []).ok hin _ _ _ ⟨ι, h, ρ, r, en, (SPost.bnd (R := AvR C) r en p).mono fun x H1 ⟨ι1, h1, a, r1, e1, x1, p1⟩ => ?_⟩
  exact p1 ι1 H1 _ Ext.refl r1 ((en.ext r e1).set x1 i)
end
end PL
set_option maxRecDepth 100000
set_option maxHeartbeats 4000000
/-! Lift22: the law's script. -/
namespace PL
open PySem PySem.Spec PyProof.Rows L2 PA
section
variable {C : Cz} {X : Cx} {tg : Expr} {j k : Nat}
theorem ScR.seq {H : Hp} (s : ScR C H) : SqL C.K H (C.ad "#s") (C.scr.map V.int) := by
  rcases s with ⟨o, e⟩ | e
  · exact .inl (.inr ⟨o, e⟩)
  · exact .inr e
theorem ints_get {xs : List Int} {i : Nat} {x : AV} (e : (xs.map AV.int)[i]? = some x) : ∃ k, x = .int k ∧ (xs.map V.int)[i]? = some (.int k) := by
  rw [List.getElem?_map] at e ⊢
  cases z : xs[i]? with
  | none => rw [z] at e; cases e
  | some k => rw [z] at e; cases e; exact ⟨k, rfl, rfl⟩
theorem ri_scr {e : Expr} {m : EE} (g : Gd C X j) (he : RE C X e m) : RI C X tg e (iScr C.scr m) := fun W tk =>
  PI_imp (pi_list (he W tk)) fun σ H R ⟨ι, h, ρ, r, en, p⟩ => ⟨ι, h, ρ, r, en, (GPost.bnd (R := AvR C) p).mono fun x H1 ⟨ι1, h1, a, r1, e1, x1, p1⟩ => by
    cases x1 with
    | gl g0 =>
      dsimp only at p1
      by_cases z : g0 = "#s"
      · rw [if_pos z] at p1
        subst z
        refine ⟨_, rfl, ⟨_, by rw [g.hK]; exact r1.scr.seq⟩, p1 ι1 H1 (Itl X.K (C.ad "#s")) Ext.refl r1 (itoN fun ι h H e2 r2 i => ?_)⟩
        have t2 : SqL X.K H (C.ad "#s") (C.scr.map V.int) := by rw [g.hK]; exact r2.scr.seq
        refine ⟨fun x ex => ?_, fun ex => ?_⟩
        · obtain ⟨k, rfl, h1⟩ := ints_get ex
          refine ⟨⟨_, _, t2, h1⟩, fun v' H' y => ?_⟩
          obtain ⟨rfl, y⟩ := y
          have := y _ t2
          rw [h1] at this
          cases this
          exact ⟨Ext.refl, r2, .int k⟩
        · refine ⟨_, t2, ?_⟩
          have := List.getElem?_eq_none_iff.mp ex
          simpa using this
      · rw [if_neg z] at p1; exact p1.elim
    | _ => exact p1.elim⟩
theorem AvRs.ofInts {ι : Nat → Addr} {n : Nat} {H : Hp} : ∀ ys : List Int, AvRs C ι n H (ys.map .int) (ys.map V.int)
  | [] => .nil
  | y :: ys => .cons (.int y) (AvRs.ofInts ys)
theorem cr_listS (g : Gd C X j) : CrA C X (.type "list") (bListS C.scr) := by
  intro pins s σ H xs us Q I rv ⟨ι, h, as, W, r, x, p⟩
  cases x with
  | nil => exact p.elim
  | cons a b =>
    cases b with
    | cons _ _ => cases a <;> exact p.elim
    | nil =>
      cases a with
      | gl g0 =>
        unfold bListS at p
        dsimp only at p
        by_cases z : g0 = "#s"
        · rw [if_pos z] at p
          subst z
          refine call_list_of pins s σ H _ us Q I rv ⟨_, _, rfl, .inl (by rw [g.hK]; exact r.scr.seq), fun l hl => laid_lst r (AvRs.ofInts _) p l hl⟩
        · rw [if_neg z] at p; exact p.elim
      | _ => exact p.elim
end
end PL
set_option maxRecDepth 100000
set_option maxHeartbeats 4000000
/-! Lift23: the law's promise, the end. -/
namespace PL
open PySem PySem.Spec PyProof.Rows L2 PA
inductive KvW (C : Cz) : List DictEntry → List (Str × AV) → Prop
  | nil : KvW C [] []
  | cons {hh : Int} {k : Str} {t : Tok} {u : Value} {v : V} {a : AV} {es : List DictEntry} {kvs : List (Str × AV)} (r : RelV v u) (av : ∀ ι n H, AvR C ι n H a v) (p : KvW C es kvs) : KvW C (⟨hh, .str k t, u⟩ :: es) ((k, a) :: kvs)
theorem kvw_find {C : Cz} {es : List DictEntry} {kvs : List (Str × AV)} (p : KvW C es kvs) (z : Str) : (kvs.lookup z = none ∧ es.find? (fun d => d.key.isStr z) = none) ∨
    ∃ a u v e, kvs.lookup z = some a ∧ es.find? (fun d => d.key.isStr z) = some e ∧ e.val = u ∧ RelV v u ∧ ∀ ι n H, AvR C ι n H a v := by
  induction p with
  | nil => exact .inl ⟨rfl, rfl⟩
  | @cons hh k t u v a es kvs r av p ih =>
    by_cases e : z = k
    · subst e
      refine .inr ⟨a, u, v, ⟨hh, .str z t, u⟩, ?_, ?_, rfl, r, av⟩
      · rw [List.lookup_cons]; simp
      · rw [List.find?_cons]
        have : (Value.str z t).isStr z = true := by unfold Value.isStr; simp
        rw [this]
    · have e1 : (z == k) = false := beq_eq_false_iff_ne.mpr e
      have e2 : (Value.str k t).isStr z = false := by unfold Value.isStr; exact beq_eq_false_iff_ne.mpr (fun q => e q.symm)
      rw [List.lookup_cons, e1, List.find?_cons]
      dsimp only
      rw [e2]
      exact ih
theorem kvw_plain {C : Cz} {es : List DictEntry} {kvs : List (Str × AV)} (p : KvW C es kvs) : es.any (·.refKey) = false := by
  induction p with
  | nil => rfl
  | cons r av p ih => rw [List.any_cons, ih]; rfl
theorem kd_look {C : Cz} {d : Addr} {es : Array DictEntry} {n : Nat} {kvs : List (Str × AV)} (hd : C.K.lookup d = some ⟨.type "dict", none, .dict es n, #[]⟩) (p : KvW C es.toList kvs) : ∀ z, (kvs.lookup z = none ∧ PySem.W.nsIn C.K d z = some none) ∨
    ∃ a u v, kvs.lookup z = some a ∧ PySem.W.nsIn C.K d z = some (some u) ∧ RelV v u ∧ ∀ ι n H, AvR C ι n H a v := by
  intro z
  obtain ⟨l⟩ := es
  have key : PySem.W.nsIn C.K d z = some ((l.find? fun d => d.key.isStr z).map (·.val)) := by
    unfold PySem.W.nsIn
    rw [hd]
    dsimp only
    have np : l.any (·.refKey) = false := kvw_plain p
    cases l.find? fun d => d.key.isStr z with
    | some e => rfl
    | none => dsimp only; rw [np]; rfl
  rw [key]
  rcases kvw_find p z with ⟨h1, h2⟩ | ⟨a, u, v, e, h1, h2, h3, h4, h5⟩
  · exact .inl ⟨h1, by rw [h2]; rfl⟩
  · exact .inr ⟨a, u, v, h1, by rw [h2, ← h3]; rfl, h4, h5⟩
/-- the law's promise -/
def spLaw (mk : Addr → List Int → Cz) (F : List Int → FF) : Sp := fun vs H Q E => ∃ (a : Addr) (ns : List Int), vs = [.ref a] ∧ Only H ∧ SqL (mk a ns).K H a (ns.map V.int) ∧ (∃ h', F ns [.gl "#s"] [] = .ok (.bl true) h') ∧ ∀ H', Q (.bl true) H'
theorem fn_law {P : Program} {w : World} {K : PySem.W.Frag} {mg : Str → Option Value} {base : PySem.Heap} {k : Nat} {f : Addr} {fd : FuncData} {x : Str} {mk : Addr → List Int → Cz} {F : List Int → FF} (had : ∀ a ns, (mk a ns).ad "#s" = a)
    (hmk : ∀ a ns, (mk a ns).P = P ∧ (mk a ns).w = w ∧ (mk a ns).K = K ∧ (mk a ns).mg = mg ∧ (mk a ns).base = base ∧ (mk a ns).scr = ns) (ok : ∀ a ns, FnA (mk a ns) k f fd [x] (F (mk a ns).scr)) : FnOk P w K mg base (L2.CX P w) k f fd [x] (spLaw mk F) := by
  have imp : ∀ vs H Q E, spLaw mk F vs H Q E → ∃ a ns, spA (mk a ns) (F (mk a ns).scr) vs H Q E := by
    intro vs H Q E ⟨a, ns, ev, hO, hS, ⟨h', hF⟩, q⟩
    subst ev
    obtain ⟨_, _, _, _, _, hsc⟩ := hmk a ns
    refine ⟨a, ns, fun _ => 0, [], [.gl "#s"], ⟨fun l o e => by simp at e, fun l l' z => by simp at z, ?_⟩, .cons ?_ .nil, ?_⟩
    · unfold ScR
      rw [had, hsc]
      rcases hS with (e | ⟨o, e⟩) | e
      · rcases hO a with z | ⟨o, xs, z⟩
        · rw [z] at e; cases e
        · rw [z] at e; cases e
      · exact .inl ⟨o, e⟩
      · exact .inr e
    · have t : AvR (mk a ns) (fun _ => 0) ([] : PA.Heap).length H (.gl "#s") (.ref ((mk a ns).ad "#s")) := .gl "#s"
      rw [had] at t
      exact t
    · rw [hsc, hF]
      intro ι' H' b e' r' xb
      cases xb
      exact q H'
  refine ⟨fun vs H Q E h => ?_, fun A outer s H args us vs Q E hr e0 hb hv h => ?_⟩
  · obtain ⟨a, ns, h⟩ := imp vs H Q E h
    exact (ok a ns).len vs H Q E h
  · obtain ⟨a, ns, h⟩ := imp vs H Q E h
    have o := ok a ns
    obtain ⟨h1, h2, h3, h4, h5, _⟩ := hmk a ns
    unfold FnA at o
    rw [h1, h2, h3, h4, h5] at o
    exact o.run A outer s H args us vs Q E hr e0 hb hv h
theorem walk_law {l : PySem.W.OpenLaw} {k : Nat} {q : Program} {loose : List Str} {XP : (Str → Option Value) → PySem.Heap → Prop} {YP : World → PySem.Heap → Prop} {d : DefRec} {K : Params → PySem.W.Frag} {x : Str} {F : List Int → FF}
    (hn : l.most = some 63) (hdf : d.params.defaults = []) (hr : Room k callerA)
    (hY : ∀ (w : World) (h : PySem.Heap), YP w h → (K w.params).In h)
    (G : ∀ (w : World) (mg : Str → Option Value) (fa : Addr) (h : PySem.Heap), (K w.params).In h → h.Ns mainGlobals mg → mg d.name = some (.ref fa) →
      ∃ (ad : Addr → String → Addr) (sl : String → Option (List Str)) (fd : FuncData), (∀ (s : Shared) (u : Value), BindsTo s fd ⟨[u], []⟩ [(x, u)]) ∧
        ∀ base : PySem.Heap, (K w.params).In base → base.Ns mainGlobals mg → FnOk l.prog w (K w.params) mg base (L2.CX l.prog w) k fa fd [x] (spLaw (fun a ns => ⟨l.prog, w, K w.params, mg, base, ad a, sl, ns⟩) F))
    (T : ∀ ns : List Int, ns.length ≤ 63 → ∃ h', F ns [.gl "#s"] [] = .ok (.bl true) h') :
    PySem.W.WalkO q loose XP YP l.row.toRowW d [] (fun f vs => PySem.call f vs) := by
  refine L2.walk_of (n := 63) (k := k) (x := x) (CX := fun w => L2.CX l.prog w) (K := K) (sp := fun w => fun vs H Q E => ∃ (a : Addr) (ns : List Int), vs = [.ref a] ∧ Only H ∧ SqL (K w.params) H a (ns.map V.int) ∧ (∃ h', F ns [.gl "#s"] [] = .ok (.bl true) h') ∧ ∀ H', Q (.bl true) H') hn (by decide) hdf hr hY (fun w mg fa h KX Gn hmg => ?_) (fun w H a ns hl hO hS => ⟨a, ns, rfl, hO, hS, T ns hl, fun _ => rfl⟩) ?_
  · obtain ⟨ad, sl, fd, hb, hF⟩ := G w mg fa h KX Gn hmg
    exact ⟨fd, hb, fun base h1 h2 => hF base h1 h2⟩
  · intro w H s e s' z
    obtain ⟨_, _, _, _, _, _, _, _, _, _, _, _, z⟩ := z
    exact z
end PL
set_option maxRecDepth 100000
set_option maxHeartbeats 2000000
/-! Lift24: several except clauses, with a name or without one. -/
namespace PL
open PySem PySem.Spec PyProof.Rows L2 PA
/-- a clause: whether it names a tuple of classes, the classes, the slot of its name, what its suite wishes -/
structure Cl where
  t : Bool
  cs : List Value
  i : Option Nat
  ts : Addr → Value → Option Addr → TS
def clEnds (D : Ends) : Option Nat → Ends
  | none => D
  | some i => { nx := fun σ H => D.nx (σ.set i none) H, rt := D.rt, bk := fun σ H => D.bk (σ.set i none) H, ct := fun σ H => D.ct (σ.set i none) H }
def clSt (σ : L2.St) (a : Addr) : Option Nat → L2.St
  | none => σ
  | some i => σ.set i (some (.ref a))
/-- does the clause take an exception of this class? -/
def clM (K : PySem.W.Frag) (k : Cl) (cls : Value) : Option Bool := match k.t, k.cs with
  | false, [c] => PySem.W.exmOne K cls c
  | true, cs => PySem.W.exmAny K cls cs
  | _, _ => none
/-- what the clauses wish of an exception of the body -/
def wMix (K : PySem.W.Frag) (Wo : WX) (D : Ends) : List Cl → WX
  | [] => Wo
  | k :: r => fun cls d σ H => ∃ b, clM K k cls = some b ∧
      (b = true → ∀ a, H a = none → k.ts a cls d (clEnds D k.i) (clSt σ a k.i) H) ∧ (b = false → wMix K Wo D r cls d σ H)
/-- a clause's name is a local -/
inductive ClName (X : Cx) : Option Str → Option Nat → Prop
  | none : ClName X none none
  | some {n : Str} {i : Nat} : X.N[i]? = some n → X.env.kindOf n = some .local → ClName X (some n) (some i)
/-- what a clause names -/
inductive ClTest (X : Cx) : Expr → Bool → List Value → Prop
  | one {x : Str} {p : Pos} {c : Value} : Names X x c → ClTest X (.Name x p) false [c]
  | two {x y : Str} {p q r : Pos} {i : Nat} {c d : Value} : Names X x c → Names X y d → starEach [.Name x p, .Name y q] X.env = (false, eval (.Name x p) X.env) :: starEach [.Name y q] X.env → starEach [.Name y q] X.env = (false, eval (.Name y q) X.env) :: starEach [] X.env →
      ClTest X (.Tuple [.Name x p, .Name y q] i r) true [c, d]
inductive ClsOk (X : Cx) : List ExceptHandler → List Cl → Prop
  | nil : ClsOk X [] []
  | cons {te : Expr} {nm : Option Str} {k : Cl} {st : Stmt} {sts : List Stmt} {q : Pos} {hs : List ExceptHandler} {ks : List Cl} (hc : ClTest X te k.t k.cs) (hn : ClName X nm k.i)
      (hsu : ∀ (a : Addr) (o : Obj) (cls : Value) (d : Option Addr) (pn : List (Addr × Obj)), Zc cls d o → (∃ vs, o.data = .fields vs) → PSs (X.suite a ((a, o) :: pn)) (st :: sts) (k.ts a cls d))
      (r : ClsOk X hs ks) : ClsOk X (.ExceptHandler (some te) nm (st :: sts) q :: hs) (k :: ks)
section
variable {X : Cx} {body : List Stmt} {hd0 : ExceptHandler} {hds : List ExceptHandler} {ks : List Cl} {pos : Pos} {tb : WX → TS} {Wo : WX}
theorem ps_try_mix (nd : X.N.Nodup) (hst : X.stack = X.env :: X.outer) (hfl : X.env.frame = some X.env.locals) (tk : Takes X Wo)
    (hb : ∀ (W : WX) (pn : List (Addr × Obj)) (xe : Value → Shared → Prop), Takes (X.tr pn xe) W → PSs (X.tr pn xe) body (tb W))
    (hh : ClsOk X (hd0 :: hds) ks) : PS X (.Try body (hd0 :: hds) [] [] pos) (fun D σ H => tb (wMix X.K Wo D ks) D σ H) := by
  refine ⟨fun pins s σ H D I w0 => ?_⟩
  have okX := I.ok
  have frX : X.A.frames = some (X.env :: X.outer) := okX.frames.trans (by rw [hst])
  refine wpAny_Try_except ?_
  let M := model X.prog X.w
  let catch_ : Value → Shared → Prop := fun e s₁ => wpAny M X.A (noteFrame e X.env) (fun _ s₂ =>
    wpAny M X.A (setFlight e none) (fun _ s₃ =>
      wpAny M X.A (handleBy e X.env (hd0 :: hds)) (SP X pins D) X.xe s₃) X.xe s₂) X.xe s₁
  refine wpAny_mono ((hb (wMix X.K Wo D ks) (X.pn ++ pins) catch_ (fun u s' air => ?_)).run [] s σ H D (I.toTry _) w0) (fun f s1 dn => ?_) (fun _ _ z => z)
  · obtain ⟨a, B, sI, pins', σ', H', cls, d, rfl, Ja, nb, up, sky, na, os, ag, w⟩ := air
    have Jb : Inv X pins σ' H' sI := Ja.ofTry okX
    have skyX : Sky B (X.env :: X.outer) a (Zc cls d) X.env.locals s'.heap := by
      rw [← hst]; exact sky
    show wpAny M X.A (noteFrame (.ref a) X.env) _ _ _
    refine Sky.land Zc.steady frX hfl skyX fun g3 fl up3 => ?_
    have walk : ∀ {hs' : List ExceptHandler} {ks' : List Cl}, ClsOk X hs' ks' → wMix X.K Wo D ks' cls d σ' H' → ∀ g3, HandSPX.FlyingZ B (X.env :: X.outer) a (Zc cls d) g3 → s'.heap.UpToSlots g3 →
        wpAny M X.A (handleBy (.ref a) X.env hs') (SP X pins D) X.xe { s' with heap := g3 } := by
      intro hs' ks' ok
      induction ok with
      | nil =>
        intro w g3 fl up3
        refine wpAny_handleBy_nil ?_
        obtain ⟨k1, k2, k3, o, vs, T, oT, ts', ho, hz, hdt, h1, hr⟩ := id fl
        unfold PySem.passOn
        refine wpAny_bind (wpAny_field ho hdt h1 ?_)
        rw [if_neg (show ¬ ((Value.ref T == Value.none) = true) from by simp)]
        have out : wpAny M X.A (setFlight (.ref a) X.env.frame) (fun _ s4 =>
            wpAny M X.A (throw (.ref a) : Sem Flow) (SP X pins D) X.xe s4) X.xe { s' with heap := g3 } := by
          rw [hfl]
          refine HandSPX.setFlight_upZ fl fun g4 hd4 up4 => wpAny_throw (tk _ _ ?_)
          have hld : HandSPX.HeldZ B X.stack a (Zc cls d) X.env.locals g4 := by
            rw [hst]; exact hd4
          exact ⟨a, B, sI, pins, σ', H', cls, d, rfl, Jb, nb, (up.trans up3).trans up4, .inr (.inr hld), na, os, ag, w⟩
        first
          | exact wpAny_bind (wpAny_pure (wpAny_bind out))
          | exact wpAny_bind out
      | @cons te nm k st sts q hs2 ks2 hc hn hsu r ih =>
        intro w g3 fl up3
        obtain ⟨b, hb1, hyes, hno⟩ := w
        refine wpAny_handleBy_cons (codeAny_handlers_test ?_) (by intro z; cases z)
        have Jc : Inv X pins σ' H' { s' with heap := g3 } := Jb.landed nb fl.1 (up.trans up3) os ag
        obtain ⟨o3, v3, ea3, z3, ed3⟩ := fl.there
        have nofr : a ∉ frs (X.env :: X.outer) := fun hm => by
          obtain ⟨_, o', e', hnf⟩ := fl.2.2.1.mem hm
          rw [ea3] at e'
          cases e'
          exact hnf _ ed3
        have nloc : a ≠ X.env.locals := fun z =>
          nofr (List.mem_filterMap.mpr ⟨X.env, List.mem_cons_self, by rw [hfl, z]⟩)
        have nout : a ∉ X.fs := fun hm => by
          obtain ⟨e, he, q⟩ := List.mem_filterMap.mp hm
          exact nofr (List.mem_filterMap.mpr ⟨e, List.mem_cons_of_mem _ he, q⟩)
        have Sc := Jc.suite ea3 ed3 na nloc nout
        have lt : PySem.W.Looks M g3 (typeOf (.ref a)) cls := fun A Q E s kk q =>
          wpAny_typeOf_ref (kk _ _ ea3) (by rw [z3.1]; exact q)
        have nameOk : ∀ {x : Str} {p : Pos} {c : Value} {Q : Value → Shared → Prop} {E : Value → Shared → Prop}, Names X x c → Q c { s' with heap := g3 } →
            wpAny M (X.A.mark (some (.ref a))) (eval (.Name x p) X.env) Q E { s' with heap := g3 } := fun {x p c Q E} hc q => by
          obtain ⟨hg, hdb, hm | ⟨hm, hv, hne⟩⟩ := hc
          · exact ld_glob (X := X.suite a ((a, o3) :: (X.pn ++ pins))) Sc hg hm q hdb
          · exact ld_blt (X := X.suite a ((a, o3) :: (X.pn ++ pins))) Sc hg hm hv q hne hdb
        have test : ∀ {Q : Bool → Shared → Prop} {E : Value → Shared → Prop}, (∀ g4, HandSPX.FlyingZ B (X.env :: X.outer) a (Zc cls d) g4 → s'.heap.UpToSlots g4 → Q b { s' with heap := g4 }) →
            wpAny M (X.A.mark (some (.ref a))) (eval te X.env) (fun c s1 => wpAny M (X.A.mark (some (.ref a))) (excMatches (.ref a) c) Q E s1) E { s' with heap := g3 } := fun {Q E} hq => by
          obtain ⟨kt, kcs, ki, kts⟩ := k
          cases hc with
          | one hc =>
            exact nameOk hc ((PySem.W.exm_one (M := M) Jc.kIn lt hb1).here (hq g3 fl up3))
          | @two x1 x2 p1 p2 p3 i0 c1 c2 h1 h2 hs1 hs2 =>
            refine wpAny_Tuple ?_
            rw [hs1]
            refine Calls.spliced_cons (nameOk h1 ?_)
            rw [hs2]
            refine Calls.spliced_cons (nameOk h2 (Calls.spliced_nil ⟨by show 2 ≤ sizeLine; rw [sizeLine_eq]; decide, ?_⟩))
            have keep : ∀ (b : Addr) (o : Obj), g3.get? b = some o → (g3.push { cls := .type "tuple", data := .seq [c1, c2].toArray }).get? b = some o := fun b o z => Heap.get?_push_of_some _ z
            have flp : HandSPX.FlyingZ B (X.env :: X.outer) a (Zc cls d) (g3.push { cls := .type "tuple", data := .seq [c1, c2].toArray }) := by
              obtain ⟨k1, k2, k3, o, vs, T, oT, ts', ho, hz, hdt, h1, h2, h3, h4, h5⟩ := fl
              exact ⟨fun b o z => keep b o (k1 b o z), k2, k3.of_keeps fun b o z _ => ⟨o, keep b o z, rfl⟩, o, vs, T, oT, ts', keep _ _ ho, hz, hdt, h1, h2, h3, keep _ _ h4, h5⟩
            have upp : s'.heap.UpToSlots (g3.push { cls := .type "tuple", data := .seq [c1, c2].toArray }) := up3.trans fun b o z _ => ⟨o.slots, keep b o z⟩
            have ktp : X.K.In (g3.push { cls := .type "tuple", data := .seq [c1, c2].toArray }) := Jc.kIn.keeps keep
            have ltp := lt.keeps keep
            exact (PySem.W.exm_tup2 (M := M) ktp ltp (Heap.get?_push_size g3 rfl) hb1).here (hq _ flp upp)
        refine test fun g5 fl5 up5 => ?_
        cases b with
        | false =>
          show wpAny _ X.A (handleBy (.ref a) X.env hs2) _ _ _
          exact ih (hno rfl) g5 fl5 up5
        | true =>
          have wy := hyes rfl a na
          obtain ⟨kc, ki, kts⟩ := k
          dsimp only at hn hsu wy
          cases hn with
          | none =>
            refine codeAny_handlers_suite ?_
            refine HandSPX.lands_againZ fl5 fun g4 fl4 up4 => ?_
            have Jd : Inv X pins σ' H' { s' with heap := g4 } := Jb.landed nb fl4.1 ((up.trans up5).trans up4) os ag
            obtain ⟨o4, v4, ea4, z4, ed4⟩ := fl4.there
            have Sd := Jd.suite ea4 ed4 na nloc nout
            refine wpAny_mono ((hsu a o4 cls d (X.pn ++ pins) z4 ⟨_, ed4⟩).run [] _ _ H' _ Sd wy) (fun f s6 dn => ?_) (fun _ _ z => False.elim z)
            cases f with
            | ret u =>
              obtain ⟨v6, σ6, H6, S6, r6, q6⟩ := dn
              exact ⟨_, _, _, S6.unsuite okX, r6, q6⟩
            | next =>
              obtain ⟨σ6, H6, S6, q6⟩ := dn
              exact ⟨_, _, S6.unsuite okX, q6⟩
            | brk =>
              obtain ⟨σ6, H6, S6, q6⟩ := dn
              exact ⟨_, _, S6.unsuite okX, q6⟩
            | cont =>
              obtain ⟨σ6, H6, S6, q6⟩ := dn
              exact ⟨_, _, S6.unsuite okX, q6⟩
          | @some n i hi hln =>
            have hlo : Loc X.env.scope n := .inl hln
            refine codeAny_handlers_suite_as ?_
            refine HandSPX.lands_againZ fl5 fun g4 fl4 up4 => ?_
            have Jd : Inv X pins σ' H' { s' with heap := g4 } := Jb.landed nb fl4.1 ((up.trans up5).trans up4) os ag
            obtain ⟨o4, v4, ea4, z4, ed4⟩ := fl4.there
            have Sd := Jd.suite ea4 ed4 na nloc nout
            refine store_ok (X := X.suite a ((a, o4) :: (X.pn ++ pins))) (v := .ref a) Sd nd hi hlo rfl (fun s5 S5 => ?_) (.inr hln)
            refine wpAny_mono ((hsu a o4 cls d (X.pn ++ pins) z4 ⟨_, ed4⟩).run [] s5 _ H' _ S5 wy) (fun f s6 dn => ?_) (fun _ _ z => False.elim z)
            have fin : ∀ {σ6 : L2.St} {H6 : Hp} {Q : Shared → Prop}, Inv (X.suite a ((a, o4) :: (X.pn ++ pins))) [] σ6 H6 s6 → (∀ s7, Inv X pins (σ6.set i none) H6 s7 → Q s7) →
                wpAny M X.A (do bindName X.env n .none; unbindBehindTheSuite X.env n q) (fun _ s7 => Q s7) X.xe s6 :=
              fun {σ6 H6 Q} S6 hq => gone_ok (S6.unsuite okX) nd hi hln hq
            cases f with
            | ret u =>
              obtain ⟨v6, σ6, H6, S6, r6, q6⟩ := dn
              exact fin S6 fun s7 J7 => ⟨_, _, _, J7, r6, q6⟩
            | next =>
              obtain ⟨σ6, H6, S6, q6⟩ := dn
              exact fin S6 fun s7 J7 => ⟨_, _, J7, q6⟩
            | brk =>
              obtain ⟨σ6, H6, S6, q6⟩ := dn
              exact fin S6 fun s7 J7 => ⟨_, _, J7, q6⟩
            | cont =>
              obtain ⟨σ6, H6, S6, q6⟩ := dn
              exact fin S6 fun s7 J7 => ⟨_, _, J7, q6⟩
    exact walk hh w g3 fl up3
  · cases f with
    | ret u =>
      obtain ⟨v, σ', H', Ja, r, q⟩ := dn
      exact ⟨v, σ', H', Ja.ofTry okX, r, q⟩
    | next =>
      obtain ⟨σ', H', Ja, q⟩ := dn
      exact wpAny_execs_nil ⟨σ', H', Ja.ofTry okX, q⟩
    | brk =>
      obtain ⟨σ', H', Ja, q⟩ := dn
      exact ⟨σ', H', Ja.ofTry okX, q⟩
    | cont =>
      obtain ⟨σ', H', Ja, q⟩ := dn
      exact ⟨σ', H', Ja.ofTry okX, q⟩
end
end PL
set_option maxRecDepth 100000
set_option maxHeartbeats 2000000
/-! Lift25: raise, try. -/
namespace PL
open PySem PySem.Spec PyProof.Rows L2 PA
section
variable {C : Cz} {X : Cx} {j : Nat}
theorem Rep.noxd {ι : Nat → Addr} {h : PA.Heap} {H : Hp} (r : Rep C ι h H) {dd : Addr} {gs : List (Str × V)} (e : H dd = some (.xd gs)) : ∀ l, l < h.length → ι l ≠ dd := fun l hl z => by
  obtain ⟨o, _, ob⟩ := r.there hl
  exact ob.noxd (by rw [z]; exact e)
theorem ExR.ext {ι ι' : Nat → Addr} {h : PA.Heap} {n' : Nat} {H H' : Hp} {e : Exc} {cls : Value} {d : Option Addr} (q : ExR C ι h.length H e cls d) (r : Rep C ι h H) (x : Ext ι h.length H ι' n' H') : ExR C ι' n' H' e cls d := by
  obtain ⟨q1, q2⟩ := q
  refine ⟨q1, ?_⟩
  rcases q2 with q2 | ⟨dd, gs, e1, e2, e3⟩
  · exact .inl q2
  · exact .inr ⟨dd, gs, e1, x.frame dd _ e2 (fun y z => nomatch z) (r.noxd e2), r.fsr x e3⟩

/-! ### raise -/
theorem pmk_own0 {c : Addr} {bmB : List Value} {B newId initId : String} {x : Str} {p pos : Pos} (F : ExcBaseFacts B newId initId bmB) (q : PySem.W.excIn X.K c bmB newId = true) (gC : X.mg x = some (.ref c)) (kC : PySem.W.keepIn X.K (.ref c) = true) (r : Raises X (.ref c)) (hg : Gl X x)
    (hdb : (x == ("__debug__" : Str)) = false := by decide) : PMk X (.Call (.Name x p) [] [] pos) (fun _ H Q => Q (.ref c) none H) := by
  intro pins s σ H Q I h
  refine wpAny_Call_Name_kw (ld_glob I hg gC ?_ hdb)
  refine PySem.W.callWith_K0 I.kIn kC ?_
  show wpAny _ _ (call (.ref c) []) _ _ _
  obtain ⟨bm, N, nm, qn, bs, hdct, sn, sub, ab, col, dd, k0, k1, k2, k3, k5, mN, hC, hN, hni, T⟩ := exc_obj I.kIn q
  refine wpAny_call_exc_subT F T hC hN hni (fun h' e hm => ?_) (by show 0 ≤ sizeLine; exact Nat.zero_le _)
  exact mk_of I hm r h (I.hok.gone hm.new)
/-- an own exception class without __init__ -/
structure ExcA0 (C : Cz) (c : String) : Prop where
  q : ∃ B newId initId bmB, ExcBaseFacts B newId initId bmB ∧ PySem.W.excIn C.K (C.ad c) bmB newId = true
  g : C.mg c = some (.ref (C.ad c))
  k : PySem.W.keepIn C.K (.ref (C.ad c)) = true
  s1 : PySem.W.subIn C.K (.ref (C.ad c)) (.type "BaseException") = some true
  s2 : PySem.W.typeIn C.K (.ref (C.ad c)) = some (.type "type")
theorem rs_raise0 {c : String} {p pos pos' : Pos} (g : Gd C X j) (T : ExcA0 C c) (hg : Gl X c := by rfl) (hdb : ((c : Str) == ("__debug__" : Str)) = false := by decide) : RS C X (.Raise (some (.Call (.Name c p) [] [] pos)) none pos') (sRaise0 c) := fun W tk => by
  obtain ⟨B, newId, initId, bmB, F, q⟩ := T.q
  have T1 := T.g
  have T2 := T.k
  have T3 := T.s1
  have T4 := T.s2
  rw [← g.hK] at q T2 T3 T4
  rw [← g.hm] at T1
  exact PS_imp (ps_raise g.calm tk (pmk_own0 F q T1 T2 (raises_own T3 T4) hg hdb)) fun D σ H ⟨ι, h, ρ, r, en, w⟩ => w ι H σ _ _ Ext.refl r en ⟨rfl, .inl ⟨rfl, rfl⟩⟩
/-- what an exception's __init__ does: its arguments are kept in these fields -/
def spI (C : Cz) (c : String) (names : List Str) : Sp := fun vs H Q _ => ∃ (a : Addr) (ws : List V), vs = .ref a :: ws ∧ ws.length = names.length ∧ H a = some (exo a (C.ad c) none) ∧
  ∀ (H2 : Hp) (d : Addr), H d = none → d ≠ a → H2 a = some (exo a (C.ad c) (some d)) → H2 d = some (exd d (names.zip ws).reverse) → (∀ b, b ≠ a → b ≠ d → H2 b = H b) → Q .non H2
theorem fn_init1 {c : String} {x n s0 : Str} {qual : Str} {st : Stmt} {f : Addr} {fd : FuncData} {p1 p2 p3 p4 : Pos} (F : L2.Fun C.K "__init__" qual st f fd) (S : FnScope [s0, x] [s0, x] (defScope st)) (T : OexC C.K (C.ad c)) (hno : PySem.W.findIn C.K (.ref (C.ad c)) n = some none)
    (hb : defBody st = [.Assign [.Attribute (.Name s0 p1) n p2] (.Name x p3) p4]) (hd0 : (s0 == ("__debug__" : Str)) = false := by decide) (hd1 : (x == ("__debug__" : Str)) = false := by decide) (hc0 : (s0 == ("__classdict__" : Str)) = false := by decide) (hc1 : (x == ("__classdict__" : Str)) = false := by decide)
    (v0 : (defScope st).names.lookup s0 = some .local := by rfl) (v1 : (defScope st).names.lookup x = some .local := by rfl)
    (hs : ∀ env : PySem.Env, swapsWith (.Name x p3) (some (.Attribute (.Name s0 p1) n p2)) p4.line env = pure false := by intro _; rfl) : FnOk C.P C.w C.K C.mg C.base (L2.CX C.P C.w) 1 f fd [s0, x] (spI C c [n]) := by
  refine F.okX (k := 0) S (fun vs H Q E h => ?_) (fun cdv A outer s H vs Q E hr h => ?_)
  · obtain ⟨a, ws, rfl, hl, _⟩ := h
    show ws.length + 1 = 2
    rw [hl]; rfl
  · obtain ⟨a, ws, rfl, hl, ea, k⟩ := h
    rw [hb]
    refine ⟨_, pss_one (ps_ost (pv 0 rfl (.inl v0) hd0 hc0) (pv 1 rfl (.inl v1) hd1 hc1) (hs _)), ?_⟩
    match ws, hl with
    | [w], _ =>
      refine ⟨w, rfl, .ref a, rfl, a, C.ad c, rfl, T, hno, .inl ⟨ea, fun dx e1 e2 => ?_⟩⟩
      refine k _ dx e1 e2 upd_same (by rw [upd_ne e2, upd_same]; rfl) fun b h1 h2 => by rw [upd_ne h1, upd_ne h2]
theorem fn_init2 {c : String} {x y n m s0 : Str} {qual : Str} {st : Stmt} {f : Addr} {fd : FuncData} {p1 p2 p3 p4 q1 q2 q3 q4 : Pos} (F : L2.Fun C.K "__init__" qual st f fd) (S : FnScope [s0, x, y] [s0, x, y] (defScope st)) (T : OexC C.K (C.ad c)) (hno : PySem.W.findIn C.K (.ref (C.ad c)) n = some none)
    (hno2 : PySem.W.findIn C.K (.ref (C.ad c)) m = some none) (hb : defBody st = [.Assign [.Attribute (.Name s0 p1) n p2] (.Name x p3) p4, .Assign [.Attribute (.Name s0 q1) m q2] (.Name y q3) q4]) (hd0 : (s0 == ("__debug__" : Str)) = false := by decide) (hd1 : (x == ("__debug__" : Str)) = false := by decide) (hd2 : (y == ("__debug__" : Str)) = false := by decide)
    (hc0 : (s0 == ("__classdict__" : Str)) = false := by decide) (hc1 : (x == ("__classdict__" : Str)) = false := by decide) (hc2 : (y == ("__classdict__" : Str)) = false := by decide)
    (v0 : (defScope st).names.lookup s0 = some .local := by rfl) (v1 : (defScope st).names.lookup x = some .local := by rfl) (v2 : (defScope st).names.lookup y = some .local := by rfl)
    (hs : ∀ env : PySem.Env, swapsWith (.Name x p3) (some (.Attribute (.Name s0 p1) n p2)) p4.line env = pure false := by intro _; rfl) (hs2 : ∀ env : PySem.Env, swapsWith (.Name y q3) (some (.Attribute (.Name s0 q1) m q2)) q4.line env = pure false := by intro _; rfl) : FnOk C.P C.w C.K C.mg C.base (L2.CX C.P C.w) 1 f fd [s0, x, y] (spI C c [n, m]) := by
  refine F.okX (k := 0) S (fun vs H Q E h => ?_) (fun cdv A outer s H vs Q E hr h => ?_)
  · obtain ⟨a, ws, rfl, hl, _⟩ := h
    show ws.length + 1 = 3
    rw [hl]; rfl
  · obtain ⟨a, ws, rfl, hl, ea, k⟩ := h
    rw [hb]
    refine ⟨_, pss_cons (ps_ost (pv 0 rfl (.inl v0) hd0 hc0) (pv 1 rfl (.inl v1) hd1 hc1) (hs _)) (pss_one (ps_ost (pv 0 rfl (.inl v0) hd0 hc0) (pv 2 rfl (.inl v2) hd2 hc2) (hs2 _))), ?_⟩
    match ws, hl with
    | [w, w2], _ =>
      refine ⟨w, rfl, .ref a, rfl, a, C.ad c, rfl, T, hno, .inl ⟨ea, fun dx e1 e2 => ?_⟩⟩
      refine ⟨w2, rfl, .ref a, rfl, a, C.ad c, rfl, T, hno2, .inr ⟨dx, [(n, w)], upd_same, by rw [upd_ne e2, upd_same], (by show 1 ≤ 900; decide), ?_⟩⟩
      refine k _ dx e1 e2 (by rw [upd_ne (Ne.symm e2), upd_same]) (by rw [upd_same]; rfl) fun b h1 h2 => by rw [upd_ne h2, upd_ne h1, upd_ne h2]
/-- an own exception class whose __init__ keeps its arguments -/
structure ExcAN (C : Cz) (c : String) (names : List Str) : Prop where
  g : C.mg c = some (.ref (C.ad c))
  T : OexC C.K (C.ad c)
  i : ∃ f fd ps, PySem.W.findIn C.K (.ref (C.ad c)) "__init__" = some (some (.ref f)) ∧ PySem.W.typeIn C.K (.ref f) = some (.type "function") ∧ FnOk C.P C.w C.K C.mg C.base (L2.CX C.P C.w) 1 f fd ps (spI C c names) ∧ Binds C.K fd ps []
theorem zip_fs {ι : Nat → Addr} {n : Nat} {H : Hp} : ∀ {names : List Str} {as : List AV} {vs : List V}, AvRs C ι n H as vs → FsR C ι n H (names.zip as) (names.zip vs)
  | [], _, _, _ => .nil
  | _ :: _, _, _, .nil => .nil
  | _ :: _, _, _, .cons a b => .cons a (zip_fs b)
theorem FsR.append {ι : Nat → Addr} {n : Nat} {H : Hp} : ∀ {xs ys : List (Str × AV)} {us ws : List (Str × V)}, FsR C ι n H xs us → FsR C ι n H ys ws → FsR C ι n H (xs ++ ys) (us ++ ws)
  | _, _, _, _, .nil, q => q
  | _, _, _, _, .cons a b, q => .cons a (FsR.append b q)
theorem FsR.reverse {ι : Nat → Addr} {n : Nat} {H : Hp} : ∀ {xs : List (Str × AV)} {us : List (Str × V)}, FsR C ι n H xs us → FsR C ι n H xs.reverse us.reverse
  | _, _, .nil => .nil
  | _, _, .cons a b => by
    rw [List.reverse_cons, List.reverse_cons]
    exact FsR.append (FsR.reverse b) (.cons a .nil)
theorem rs_raiseN {c : String} {names : List Str} {e : Expr} {es : List Expr} {l : LL} {p pos pos' : Pos} (g : Gd C X j) (T : ExcAN C c names) (hl : RL C X (e :: es) l) (hj : 2 ≤ j := by decide) (hn : names.length ≤ 1000 := by decide) (hg : Gl X c := by rfl) (hdb : ((c : Str) == ("__debug__" : Str)) = false := by decide)
    (he : starEach (e :: es) X.env = (false, eval e X.env) :: starEach es X.env := by rfl) (hpl : (backTo pos (starEach es X.env)).any (·.1) = false := by rfl) :
    RS C X (.Raise (some (.Call (.Name c p) (e :: es) [] pos)) none pos') (sRaiseN c names l) := fun W tk => by
  obtain ⟨f, fd, ps, i1, i2, fn, hb⟩ := T.i
  have T1 := T.g
  have TT := T.T
  rw [← g.hP, ← g.hw, ← g.hK, ← g.hm, ← g.hb] at fn
  rw [← g.hK] at i1 i2 hb TT
  rw [← g.hm] at T1
  refine PS_imp (ps_raise g.calm tk (pmk_oex TT i1 i2 fn (g.room.mono hj) hb .nil (passes_call tk fun _ _ _ _ z => z.elim) hg T1 (hl W tk) hdb he hpl)) fun D σ H ⟨ι, h, ρ, r, en, w⟩ => ⟨ι, h, ρ, r, en, (SPost.bnd (R := AvRs C) r en w).mono fun vs H1 ⟨ι1, h1, as, r1, e1, x1, w1⟩ => ?_⟩
  by_cases z : as.length = names.length
  · rw [if_pos z] at w1
    have hvl : vs.length = names.length := by rw [← x1.length]; exact z
    refine ⟨by rw [hvl]; exact hn, fun a na => ⟨a, vs, by rw [List.append_nil], hvl, upd_same, fun H2 d hd nda q1 q2 q3 => ⟨rfl, d, _, q1, q2, ?_, ?_⟩⟩⟩
    · rw [upd_ne nda] at hd; exact hd
    · rw [upd_ne nda] at hd
      have eH : upd (del H2 a) d (.xd (names.zip vs).reverse) = upd H1 d (.xd (names.zip vs).reverse) := by
        funext b
        by_cases zb : b = d
        · subst zb; rw [upd_same, upd_same]
        · rw [upd_ne zb, upd_ne zb]
          by_cases za : b = a
          · subst za; rw [del_same, na]
          · rw [del_ne za, q3 b za zb, upd_ne za]
      rw [eH]
      have ex : Ext ι1 h1.length H1 ι1 h1.length (upd H1 d (.xd (names.zip vs).reverse)) := Ext.laid r1 hd
      refine w1 ι1 _ σ _ _ ex (r1.laid hd) ((en.ext r e1).ext r1 ex) ⟨rfl, .inr ⟨d, _, rfl, upd_same, ?_⟩⟩
      exact FsR.reverse (zip_fs (AvRs.map (fun p ys t => r1.sqT ex t) (Nat.le_refl _) (fun _ _ => rfl) x1))
  · rw [if_neg z] at w1; exact w1.elim

/-! ### an except suite -/
def tX (C : Cz) (cls : Value) (d : Option Addr) (P : L2.St → Prop) (m : Exc → EE) (W : WX) : TE := fun σ H Q =>
  ∃ ι h ρ E, Rep C ι h H ∧ EnR C ι h.length H ρ σ ∧ ExR C ι h.length H E cls d ∧ P σ ∧ GPost C (AvR C) ι h H Q (fun c d H' => W c d σ H') (m E ρ h)
def RX (C : Cz) (X : Cx) (cls : Value) (d : Option Addr) (P : L2.St → Prop) (e : Expr) (m : Exc → EE) : Prop := ∀ W, Takes X W → PE X e (tX C cls d P m W)
def tXS (C : Cz) (cls : Value) (d : Option Addr) (P : L2.St → Prop) (m : Exc → SS) (W : WX) : TS := fun D σ H =>
  ∃ ι h ρ E, Rep C ι h H ∧ EnR C ι h.length H ρ σ ∧ ExR C ι h.length H E cls d ∧ P σ ∧ SPost C ι h H D W (m E ρ h)
def RXS (C : Cz) (X : Cx) (cls : Value) (d : Option Addr) (P : L2.St → Prop) (st : List Stmt) (m : Exc → SS) : Prop := ∀ W, Takes X W → PSs X st (tXS C cls d P m W)
variable {cls : Value} {d : Option Addr} {P : L2.St → Prop}
theorem rx_re {e : Expr} {m : EE} (h : RE C X e m) : RX C X cls d P e (fun _ => m) := fun W tk => PE_imp (h W tk) fun σ H Q ⟨ι, h, ρ, E, r, en, _, _, p⟩ => ⟨ι, h, ρ, r, en, p⟩
/-- what is needed of a class whose field is read off a caught exception -/
structure XfA (C : Cz) (c : String) (f : Str) : Prop where
  t : XfC C.K (C.ad c)
  n : PySem.W.findIn C.K (.ref (C.ad c)) f = some none
theorem rx_fld {i : Nat} {c : String} {n f : Str} {a : Addr} {oe : Obj} {pn : List (Addr × Obj)} {p pos : Pos} (T : XfA C c f) (hK : X.K = C.K) (hz : Zc cls d oe) (hf : ∃ vs, oe.data = .fields vs) (hP : ∀ σ, P σ → σ[i]? = some (some (.ref a))) (inj : ∀ e, C.ad e = C.ad c → e = c → True := by intros; trivial)
    (hN : X.N[i]? = some n := by rfl) (hv : Vis X.env.scope n := by first | exact Or.inl rfl | exact Or.inr (Or.inl rfl) | exact Or.inr (Or.inr rfl)) (hd : (n == ("__debug__" : Str)) = false := by decide) (hcd : (n == ("__classdict__" : Str)) = false := by decide)
    (hb : attributeBase (.Name n p) f X.env (eval (.Name n p) X.env) = eval (.Name n p) X.env := by rfl) : RX C (X.suite a ((a, oe) :: pn)) cls d P (.Attribute (.Name n p) f pos) (xFld c f) := fun W tk => by
  have t1 := T.t
  have t2 := T.n
  rw [← hK] at t1 t2
  refine PE_imp (pe_xf t1 t2 hz hf (pv i hN hv hd hcd) hb) fun σ H Q ⟨ι, h, ρ, E, r, en, x, hp, p⟩ => ?_
  unfold xFld at p
  by_cases z : E.cls = c
  · rw [if_pos z] at p
    cases e : E.fs.lookup f with
    | none => rw [e] at p; exact p.elim
    | some v =>
      rw [e] at p
      obtain ⟨x1, x2⟩ := x
      rcases x2 with ⟨x2, _⟩ | ⟨dd, gs, e1, e2, e3⟩
      · rw [x2] at e; cases e
      · rcases e3.lookup f with ⟨y, u, l1, l2, yu⟩ | ⟨l1, _⟩
        · rw [e] at l1; cases l1
          exact ⟨.ref a, hP σ hp, rfl, by rw [x1, z], dd, gs, u, e1, e2, l2, p ι H u Ext.refl r yu⟩
        · rw [e] at l1; cases l1
  · rw [if_neg z] at p; exact p.elim
theorem xbnd {α β : Type} {R : RR α β} {ι : Nat → Addr} {h : PA.Heap} {H : Hp} {Q : V → Hp → Prop} {W : XK} {m : PA.Heap → Res α} {k : α → PA.Heap → Res AV} (p : GPost C (AvR C) ι h H Q W (PA.bnd m k h)) :
    GPost C R ι h H (fun b H1 => ∃ ι1 h1 a, Rep C ι1 h1 H1 ∧ Ext ι h.length H ι1 h1.length H1 ∧ R ι1 h1.length H1 a b ∧ GPost C (AvR C) ι1 h1 H1 Q W (k a h1)) W (m h) := GPost.bnd p
theorem rx_tup2 {e1 e2 : Expr} {m1 m2 : Exc → EE} {c pos} (h1 : RX C X cls d P e1 m1) (h2 : RX C X cls d P e2 m2) (hs1 : starEach [e1, e2] X.env = (false, eval e1 X.env) :: starEach [e2] X.env := by rfl) (hs2 : starEach [e2] X.env = (false, eval e2 X.env) :: starEach [] X.env := by rfl) : RX C X cls d P (.Tuple [e1, e2] c pos) (xTup2 m1 m2) := fun W tk =>
  PE_imp (pe_tup (pa_cons (h1 W tk) (pa_cons (h2 W tk) pa_nil hs2) hs1)) fun σ H Q ⟨ι, h, ρ, E, r, en, x, hp, p⟩ => by
    unfold xTup2 at p
    refine ⟨ι, h, ρ, E, r, en, x, hp, (xbnd (R := AvR C) p).mono fun v H1 ⟨ι1, h1, a, r1, e1, x1, p1⟩ => ?_⟩
    refine ⟨ι1, h1, ρ, E, r1, en.ext r e1, x.ext r e1, hp, (xbnd (R := AvR C) p1).mono fun w H2 ⟨ι2, h2, b, r2, e2, x2, p2⟩ => ?_⟩
    have x12 := r1.av e2 x1
    refine ⟨by show 2 ≤ sizeLine; rw [sizeLine_eq]; decide, fun q hq => ?_⟩
    exact laid_tup r2 (.cons x12 (.cons x2 .nil)) p2 hq
theorem rxs_set (i : Nat) {x : Str} {e : Expr} {m : Exc → EE} {pos pos' : Pos} (hN : X.N.Nodup) (he : RX C X cls d P e m) (hi : X.N[i]? = some x := by rfl) (hx : Loc X.env.scope x := by first | exact Or.inl rfl | exact Or.inr rfl) (hs : swapsWith e (some (.Name x pos')) pos.line X.env = pure false := by rfl)
    (hf : X.fn x = true ∨ X.env.scope.names.lookup x = some .local := by first | exact .inl rfl | exact .inr rfl | assumption) : RXS C X cls d P [.Assign [.Name x pos'] e pos] (fun E => sSet i (m E)) := fun W tk =>
  pss_one (PS_imp (ps_set hN hi hx (he W tk) hs hf) fun D σ H ⟨ι, h, ρ, E, r, en, x, hp, p⟩ => ⟨ι, h, ρ, E, r, en, x, hp, (SPost.bnd (R := AvR C) r en p).mono fun v H1 ⟨ι1, h1, a, r1, e1, x1, p1⟩ =>
    p1 ι1 H1 _ Ext.refl r1 ((en.ext r e1).set x1 i)⟩)
/-! ### try -/
/-- what a clause names: one class of the module, or two -/
inductive TestA (C : Cz) (X : Cx) : Expr → Bool → List Value → Prop
  | one {c : String} {p : Pos} (hg : C.mg c = some (.ref (C.ad c))) (hgl : Gl X c) (hdb : ((c : Str) == ("__debug__" : Str)) = false) : TestA C X (.Name c p) false [.ref (C.ad c)]
  | two {c c' : String} {p q r : Pos} {i : Nat} (hg : C.mg c = some (.ref (C.ad c))) (hgl : Gl X c) (hdb : ((c : Str) == ("__debug__" : Str)) = false) (hg' : C.mg c' = some (.ref (C.ad c'))) (hgl' : Gl X c') (hdb' : ((c' : Str) == ("__debug__" : Str)) = false)
      (h1 : starEach [.Name c p, .Name c' q] X.env = (false, eval (.Name c p) X.env) :: starEach [.Name c' q] X.env) (h2 : starEach [.Name c' q] X.env = (false, eval (.Name c' q) X.env) :: starEach [] X.env) : TestA C X (.Tuple [.Name c p, .Name c' q] i r) true [.ref (C.ad c), .ref (C.ad c')]
theorem TestA.test {te : Expr} {t : Bool} {cs : List Value} (h : TestA C X te t cs) (hm : X.mg = C.mg) : ClTest X te t cs := by
  cases h with
  | one hg hgl hdb => exact .one ⟨hgl, hdb, .inl (by rw [hm]; exact hg)⟩
  | two hg hgl hdb hg' hgl' hdb' h1 h2 => exact .two ⟨hgl, hdb, .inl (by rw [hm]; exact hg)⟩ ⟨hgl', hdb', .inl (by rw [hm]; exact hg')⟩ h1 h2
def clK (K : PySem.W.Frag) (t : Bool) (cs : List Value) (cls : Value) : Option Bool := clM K ⟨t, cs, none, fun _ _ _ _ _ _ => True⟩ cls
theorem hf_of {K : PySem.W.Frag} {t : Bool} {cs : List Value} {l : List (String × Bool)} {ad : String → Addr} (h : ∀ p ∈ l, clK K t cs (.ref (ad p.1)) = some p.2) : ∀ n b, clF l n = some b → clK K t cs (.ref (ad n)) = some b := by
  intro n b e
  unfold clF at e
  induction l with
  | nil => cases e
  | cons p r ih =>
    obtain ⟨x, y⟩ := p
    rw [List.lookup_cons] at e
    cases z : n == x with
    | true =>
      rw [z] at e
      cases e
      have := eq_of_beq z
      subst this
      exact h _ List.mem_cons_self
    | false => rw [z] at e; exact ih (fun p hp => h p (List.mem_cons_of_mem _ hp)) e
theorem exm2 {K : PySem.W.Frag} {cls c1 c2 : Value} {b1 b2 : Bool} (h1 : PySem.W.exmOne K cls c1 = some b1) (h2 : PySem.W.exmOne K cls c2 = some b2) : clK K true [c1, c2] cls = some (b1 || (b2 || false)) := by
  show PySem.W.exmAny K cls [c1, c2] = _
  unfold PySem.W.exmAny PySem.W.exmAny PySem.W.exmAny
  rw [h1, h2]
/-- the clauses -/
inductive RC (C : Cz) (X : Cx) : List ExceptHandler → List ClA → Prop
  | nil : RC C X [] []
  | cons {te : Expr} {t : Bool} {cs : List Value} {nm : Option Str} {k : ClA} {st : Stmt} {sts : List Stmt} {q : Pos} {hs : List ExceptHandler} {ks : List ClA} (ht : TestA C X te t cs)
      (hf : ∀ n b, k.f n = some b → clK C.K t cs (.ref (C.ad n)) = some b) (hn : ClName X nm k.i)
      (hsu : ∀ (a : Addr) (o : Obj) (cls : Value) (d : Option Addr) (pn : List (Addr × Obj)), Zc cls d o → (∃ vs, o.data = .fields vs) → RXS C (X.suite a ((a, o) :: pn)) cls d (fun σ => ∀ i, k.i = some i → σ[i]? = some (some (.ref a))) (st :: sts) k.s)
      (r : RC C X hs ks) : RC C X (.ExceptHandler (some te) nm (st :: sts) q :: hs) (k :: ks)
def clOf (C : Cz) (t : Bool) (cs : List Value) (k : ClA) : Cl := ⟨t, cs, k.i, fun a cls d => tXS C cls d (fun σ => ∀ i, k.i = some i → σ[i]? = some (some (.ref a))) k.s (fun _ _ _ _ => False)⟩
theorem offE_en {ι : Nat → Addr} {n : Nat} {H : Hp} {ρ : PA.Env} {σ : L2.St} (en : EnR C ι n H ρ σ) (o : Option V) (i : Nat) : EnR C ι n H (ρ.set i none) (σ.set i o) := by
  refine ⟨by simp [en.1], fun j b hj => ?_⟩
  by_cases z : i = j
  · subst z
    have hl : i < ρ.length := by
      have := (List.getElem?_eq_some_iff.mp hj).1
      simpa using this
    rw [List.getElem?_set_self hl] at hj
    cases hj
  · rw [List.getElem?_set_ne z] at hj
    rw [List.getElem?_set_ne z]
    exact en.2 j b hj
theorem catch_imp {hds : List ExceptHandler} {ks : List ClA} (R : RC C X hds ks) (hK : X.K = C.K) (hm : X.mg = C.mg) : ∃ cs, ClsOk X hds cs ∧ ∀ {W : WX} {D : Ends} {ι : Nat → Addr} {h : PA.Heap} {H : Hp} {ρ : PA.Env} {σ : L2.St} {E : Exc} {cls : Value} {d : Option Addr}, Rep C ι h H → EnR C ι h.length H ρ σ → ExR C ι h.length H E cls d →
    SPost C ι h H D W (catchA ks E ρ h) → wMix X.K W D cs cls d σ H := by
  induction R with
  | nil => exact ⟨[], .nil, fun {W D ι h H ρ σ E cls d} r en x p => p ι H σ cls d Ext.refl r en x⟩
  | @cons te t cls0 nm k st sts q hs ks ht hf hn hsu r ih =>
    obtain ⟨cs, i1, i2⟩ := ih
    refine ⟨clOf C t cls0 k :: cs, .cons (ht.test hm) hn (fun a o cls d pn z1 z2 => hsu a o cls d pn z1 z2 _ (fun _ _ ⟨_, _, _, _, _, _, _, _, _, _, _, _, _, _, _, _, w⟩ => w.elim)) i1, ?_⟩
    intro W D ι h H ρ σ E cls d rp en x w
    unfold catchA at w
    cases e : k.f E.cls with
    | none => rw [e] at w; exact w.elim
    | some b =>
      rw [e] at w
      refine ⟨b, by rw [hK, x.1]; exact hf _ _ e, fun hb a na => ?_, fun hb => ?_⟩
      · subst hb
        dsimp only at w
        by_cases hlt : (k.i.all fun i => decide (i < ρ.length)) = true
        · rw [if_pos hlt] at w
          show tXS C cls d (fun σ => ∀ i, k.i = some i → σ[i]? = some (some (.ref a))) k.s (fun _ _ _ _ => False) (clEnds D k.i) (clSt σ a k.i) H
          cases hi : k.i with
          | none =>
            rw [hi] at w
            refine ⟨ι, h, ρ, E, rp, en, x, fun i z => (nomatch z), ?_⟩
            show SPost C ι h H D _ (k.s E ρ h)
            have w : SPost C ι h H D W (offS none (k.s E ρ h)) := w
            cases es : k.s E ρ h with
            | exc e' ρ' h' => rw [es] at w; exact w.elim
            | bad => rw [es] at w; exact w.elim
            | ret v h' => rw [es] at w; exact w
            | nx ρ' h' => rw [es] at w; exact w
            | brk ρ' h' => rw [es] at w; exact w
            | ct ρ' h' => rw [es] at w; exact w
          | some i =>
            rw [hi] at w hlt
            have hil : i < σ.length := by rw [← en.1]; exact of_decide_eq_true hlt
            refine ⟨ι, h, ρ.set i none, E, rp, offE_en en _ i, x, fun i' z => by cases z; exact List.getElem?_set_self hil, ?_⟩
            have w : SPost C ι h H D W (offS (some i) (k.s E (ρ.set i none) h)) := w
            cases es : k.s E (ρ.set i none) h with
            | exc e' ρ' h' => rw [es] at w; exact w.elim
            | bad => rw [es] at w; exact w.elim
            | ret v h' => rw [es] at w; exact w
            | nx ρ' h' => rw [es] at w; exact fun ι' H' σ' e1 r1 en1 => w ι' H' _ e1 r1 (offE_en en1 none i)
            | brk ρ' h' => rw [es] at w; exact fun ι' H' σ' e1 r1 en1 => w ι' H' _ e1 r1 (offE_en en1 none i)
            | ct ρ' h' => rw [es] at w; exact fun ι' H' σ' e1 r1 en1 => w ι' H' _ e1 r1 (offE_en en1 none i)
        · rw [if_neg hlt] at w; exact w.elim
      · subst hb
        exact i2 rp en x w
theorem rs_try {body : List Stmt} {hd0 : ExceptHandler} {hds : List ExceptHandler} {m : SS} {ks : List ClA} {pos : Pos} (g : Gd C X j) (hst : X.stack = X.env :: X.outer) (hfl : X.env.frame = some X.env.locals)
    (hb : ∀ (pn : List (Addr × Obj)) (xe : Value → Shared → Prop), Gd C (X.tr pn xe) j → RSs C (X.tr pn xe) body m) (R : RC C X (hd0 :: hds) ks) : RS C X (.Try body (hd0 :: hds) [] [] pos) (sTryA m ks) := fun W tk => by
  obtain ⟨cs, c1, c2⟩ := catch_imp R g.hK g.hm
  refine PS_imp (ps_try_mix (tb := fun W => tS C m W) g.nd hst hfl tk (fun W pn xe tk' => hb pn xe ⟨g.hP, g.hw, g.hK, g.hm, g.hb, g.calm, g.nd, g.room⟩ W tk') c1) fun D σ H ⟨ι, h, ρ, r, en, w⟩ => ⟨ι, h, ρ, r, en, ?_⟩
  unfold sTryA at w
  cases e : m ρ h with
  | exc x ρ' h' =>
    rw [e] at w
    exact fun ι' H' σ' cls d e1 r1 en1 x1 => c2 r1 en1 x1 (SPost.shift (h := h) (h' := h') w e1)
  | ret v h' => rw [e] at w; exact w
  | nx ρ' h' => rw [e] at w; exact w
  | brk ρ' h' => rw [e] at w; exact w
  | ct ρ' h' => rw [e] at w; exact w
  | bad => rw [e] at w; exact w
end
end PL
set_option maxRecDepth 100000
set_option maxHeartbeats 2000000
/-! Lift26: slices of lists, d.get(k, x), displays with ints as keys. -/
namespace PL
open PySem PySem.Spec PyProof.Rows L2 PA
section
variable {C : Cz} {X : Cx} {j : Nat}
/-! ### displays of dicts with ints as keys -/
inductive RDI (C : Cz) (X : Cx) : List (Option Expr) → List Expr → List (Int × EE) → Prop
  | nil : RDI C X [] [] []
  | cons {s : Int} {k : Nat} {p : Pos} {v : Expr} {ks : List (Option Expr)} {vs : List Expr} {m : EE} {ms : List (Int × EE)} (h : RE C X v m) (r : RDI C X ks vs ms) : RDI C X (some (.Constant (.int s) k p) :: ks) (v :: vs) ((s, m) :: ms)
theorem RDI.pps {pos : Pos} {ks : List (Option Expr)} {vs : List Expr} {ms : List (Int × EE)} {W : WX} (tk : Takes X W) (h : RDI C X ks vs ms) : PPs X pos ks vs (ms.map fun m => (tC (.int m.1), tE C m.2 W)) := by
  induction h with
  | nil => exact pps_nil
  | cons h r ih => exact pps_cons pe_int (h W tk) ih
/-- the pairs' values, from the left -/
inductive PsI (C : Cz) (ι : Nat → Addr) (n : Nat) (H : Hp) : List (Int × AV) → List (V × V) → Prop
  | nil : PsI C ι n H [] []
  | cons {s : Int} {a : AV} {v : V} {ps : List (Int × AV)} {qs : List (V × V)} : AvR C ι n H a v → PsI C ι n H ps qs → PsI C ι n H ((s, a) :: ps) ((.int s, v) :: qs)
theorem tpairsI_imp {W : WX} {σ : L2.St} : ∀ (ms : List (Int × EE)) {ι : Nat → Addr} {h : PA.Heap} {ρ : PA.Env} {H : Hp} {Q : List (V × V) → Hp → Prop}, Rep C ι h H → EnR C ι h.length H ρ σ → GPost C (PsI C) ι h H Q (fun c d H' => W c d σ H') (lDctI ms ρ h) → tPairs (ms.map fun m => (tC (.int m.1), tE C m.2 W)) σ H Q
  | [], ι, h, ρ, H, Q, r, en, p => p ι H [] Ext.refl r .nil
  | (s, m) :: ms, ι, h, ρ, H, Q, r, en, p => by
    refine ⟨ι, h, ρ, r, en, (GPost.bnd (R := AvR C) p).mono fun y H1 ⟨ι1, h1, a, r1, e1, x1, p1⟩ => ?_⟩
    refine tpairsI_imp ms r1 (en.ext r e1) ((GPost.bnd (R := PsI C) p1).mono fun ps H2 ⟨ι2, h2, as, r2, e2, x2, p2⟩ => ?_)
    exact p2 ι2 H2 _ Ext.refl r2 (.cons (r1.av e2 x1) x2)
theorem psi_keys {ι : Nat → Addr} {n : Nat} {H : Hp} {ps : List (Int × AV)} {qs : List (V × V)} (r : PsI C ι n H ps qs) : ∃ kvs : List (Key × V), qs = kvs.map (fun kv => (kV kv.1, kv.2)) ∧ kvs.length = ps.length ∧
    ∀ (xs : List (AV × AV)) (ks : List (Key × V)), KsR C ι n H xs ks → KsR C ι n H (ps.foldl (fun acc p => dPut acc (.int p.1) p.2) xs) (mergeK ks kvs) := by
  induction r with
  | nil => exact ⟨[], rfl, rfl, fun _ _ h => h⟩
  | @cons s a v ps qs h t ih =>
    obtain ⟨kvs, h1, h2, h3⟩ := ih
    exact ⟨(.inl s, v) :: kvs, by rw [h1]; rfl, by simp [h2], fun xs ks h0 => h3 _ _ (h0.put (.int s) h)⟩
theorem re_dispI {ks : List (Option Expr)} {vs : List Expr} {ms : List (Int × EE)} {pos : Pos} (h : RDI C X ks vs ms) (hall : ks.all (·.isSome) = true := by rfl) (hl : ks.length = vs.length := by rfl) (h0 : ks ≠ [] := by exact fun z => nomatch z) (h15 : ks.length ≤ 15 := by decide) (hms : ms.length ≤ 15 := by decide) :
    RE C X (.Dict ks vs pos) (eDispI ms) := fun W tk =>
  PE_imp (pe_disp (h.pps tk) hall hl h0 h15) fun σ H Q ⟨ι, hh, ρ, r, en, p⟩ => fun q hq => by
    have exl := Ext.laid (o := .dK []) r hq
    have p' : GPost C (PsI C) ι hh H (fun b H1 => ∃ ι1 h1 a, Rep C ι1 h1 H1 ∧ Ext ι hh.length H ι1 h1.length H1 ∧ PsI C ι1 h1.length H1 a b ∧ GPost C (AvR C) ι1 h1 H1 Q (fun c d H' => W c d σ H') (.ok (.loc h1.length) (h1 ++ [.dct (a.foldl (fun acc p => dPut acc (.int p.1) p.2) [])]))) (fun c d H' => W c d σ H') (lDctI ms ρ hh) := GPost.bnd (R := PsI C) p
    have lenp : ∀ (ms : List (Int × EE)) (h : PA.Heap) ps h', lDctI ms ρ h = .ok ps h' → ps.length = ms.length := by
      intro ms
      induction ms with
      | nil => intro h ps h' e; unfold lDctI at e; cases e; rfl
      | cons m ms ih =>
        obtain ⟨s, m⟩ := m
        intro h ps h' e
        unfold lDctI PA.bnd at e
        cases e1 : m ρ h with
        | bad => rw [e1] at e; cases e
        | exc a b => rw [e1] at e; cases e
        | ok v h1 =>
          rw [e1] at e
          dsimp only at e
          cases e2 : lDctI ms ρ h1 with
          | bad => rw [e2] at e; cases e
          | exc a b => rw [e2] at e; cases e
          | ok ws h2 => rw [e2] at e; cases e; simp [ih h1 ws _ e2]
    refine tpairsI_imp ms (r.laid hq) (en.ext r exl) ?_
    cases e : lDctI ms ρ hh with
    | bad => rw [e] at p'; exact p'.elim
    | exc e' h' => rw [e] at p'; exact fun ι1 H1 c d e1 r1 x1 => p' ι1 H1 c d (exl.trans e1) r1 x1
    | ok ps h1 =>
      intro ι1 H1 qs e1 r1 x1
      have hH1 : H1 q = some (.dK []) := e1.frame _ _ upd_same (fun _ z => nomatch z) fun l hl => r.off hq hl
      have off : ∀ l, l < h1.length → ι1 l ≠ q := fun l hl z => by
        by_cases zz : l < hh.length
        · exact r.off hq zz ((e1.agree l zz).symm.trans z)
        · have f := e1.fresh l (Nat.le_of_not_lt zz) hl
          rw [z, upd_same] at f
          cases f
      obtain ⟨kvs, k1, k2, k3⟩ := psi_keys x1
      refine ⟨hH1, kvs, k1, by rw [k2, lenp ms hh ps h1 e]; exact hms, ?_⟩
      have sq : ∀ a xs, SqT C.K H1 a xs → SqT C.K (upd H1 q (.dK (mergeK [] kvs))) a xs := fun a xs => side_sqT' hH1 (fun _ z => nomatch z) (fun _ _ z => nomatch z)
      have r2 : Rep C ι1 h1 (upd H1 q (.dK (mergeK [] kvs))) := r1.sideD hH1 off
      have ag : ∀ l, l < h1.length → put1 ι1 h1.length q l = ι1 l := fun l hl => put1_lt hl
      have kr := (k3 [] [] .nil).map sq (Nat.le_succ h1.length) ag
      have r3 := adopt (ao := .dct (ps.foldl (fun acc p => dPut acc (.int p.1) p.2) [])) r2 off ⟨_, upd_same, kr⟩
      have e3 : Ext ι hh.length H (put1 ι1 h1.length q) (h1 ++ [AO.dct (ps.foldl (fun acc p => dPut acc (.int p.1) p.2) [])]).length (upd H1 q (.dK (mergeK [] kvs))) := by
        rw [List.length_append, List.length_singleton]
        have et := exl.trans e1
        refine ⟨Nat.le_succ_of_le et.le, fun l hl => (put1_lt (Nat.lt_of_lt_of_le hl et.le)).trans (et.agree l hl), fun p o q1 q2 q3 => ?_, fun l a b => ?_, fun p q1 => ?_, fun p o w q1 => ?_⟩
        · rw [upd_ne (ne_of_none q1 hq)]; exact et.frame p o q1 q2 q3
        · by_cases z : l < h1.length
          · rw [put1_lt z]; exact et.fresh l a z
          · have : l = h1.length := by omega
            subst this
            rw [put1_same]; exact hq
        · by_cases z : p = q
          · rw [z, upd_same]; exact fun z => nomatch z
          · rw [upd_ne z]; exact et.dom p q1
        · rw [upd_ne (ne_of_none q1 hq)]; exact et.frz p o w q1
      have key : GPost C (AvR C) ι hh H Q (fun c d H' => W c d σ H') (.ok (.loc h1.length) (h1 ++ [.dct (ps.foldl (fun acc p => dPut acc (.int p.1) p.2) [])])) := by
        unfold eDispI PA.bnd at p
        rw [e] at p
        exact p
      refine key _ _ (.ref q) e3 r3 ?_
      have t : AvR C (put1 ι1 h1.length q) (h1 ++ [AO.dct (ps.foldl (fun acc p => dPut acc (.int p.1) p.2) [])]).length (upd H1 q (.dK (mergeK [] kvs))) (.loc h1.length) (.ref (put1 ι1 h1.length q h1.length)) := .loc (by simp)
      rw [put1_same] at t
      exact t

/-! ### slices of lists -/
theorem sixA_eq (n d : Nat) (o : Option Int) : sixA n d o = HT.sIx n d o := by
  cases o <;> rfl
theorem AvRs.take {ι : Nat → Addr} {n : Nat} {H : Hp} : ∀ {xs : List AV} {vs : List V} (k : Nat), AvRs C ι n H xs vs → AvRs C ι n H (xs.take k) (vs.take k)
  | _, _, 0, _ => .nil
  | _, _, _ + 1, .nil => .nil
  | _, _, k + 1, .cons a b => .cons a (AvRs.take k b)
theorem AvRs.drop {ι : Nat → Addr} {n : Nat} {H : Hp} : ∀ {xs : List AV} {vs : List V} (k : Nat), AvRs C ι n H xs vs → AvRs C ι n H (xs.drop k) (vs.drop k)
  | _, _, 0, r => r
  | _, _, _ + 1, .nil => .nil
  | _, _, k + 1, .cons a b => AvRs.drop k b
theorem AvRs.cut {ι : Nat → Addr} {n : Nat} {H : Hp} {xs : List AV} {vs : List V} (r : AvRs C ι n H xs vs) (lo hi : Option Int) : AvRs C ι n H (cutA xs lo hi) (cutV vs lo hi) := by
  unfold cutA cutV
  rw [sixA_eq, sixA_eq, r.length]
  exact AvRs.take _ (AvRs.drop _ r)
/-- a bound of a slice -/
def tOA (C : Cz) (m : Option EE) (W : WX) : L2.St → Hp → (Option Int → Hp → Prop) → Prop := fun σ H Q => ∃ ι h ρ, Rep C ι h H ∧ EnR C ι h.length H ρ σ ∧ GPost C (fun _ _ _ (a b : Option Int) => a = b) ι h H Q (fun c d H' => W c d σ H') (bndO m ρ h)
def RO (C : Cz) (X : Cx) (e : Option Expr) (m : Option EE) : Prop := ∀ W, Takes X W → ∃ t : TO, PO X e t ∧ ∀ σ H Q, tOA C m W σ H Q → t σ H Q
theorem ro_none : RO C X none none := fun W tk => ⟨_, po_none, fun σ H Q ⟨ι, h, ρ, r, en, p⟩ => p ι H none Ext.refl r rfl⟩
theorem ro_some {e : Expr} {m : EE} (h : RE C X e m) : RO C X (some e) (some m) := fun W tk => ⟨_, po_some (h W tk), fun σ H Q ⟨ι, h, ρ, r, en, p⟩ => ⟨ι, h, ρ, r, en, (GPost.bnd (R := AvR C) p).mono fun x H1 ⟨ι1, h1, a, r1, e1, x1, p1⟩ => by
  cases x1 with
  | int i => exact ⟨i, rfl, p1 ι1 H1 (some i) Ext.refl r1 rfl⟩
  | _ => exact p1.elim⟩⟩
theorem re_sliceL {e : Expr} {lo hi : Option Expr} {m : EE} {ml mh : Option EE} {p2 pos : Pos} (hK : X.K = C.K) (he : RE C X e m) (hl : RO C X lo ml) (hh : RO C X hi mh) : RE C X (.Subscript e (.Slice lo hi none p2) pos) (eSliceL m ml mh) := fun W tk => by
  obtain ⟨tl, l1, l2⟩ := hl W tk
  obtain ⟨th, h1, h2⟩ := hh W tk
  refine PE_imp (pe_slice sl_list (he W tk) l1 h1) fun σ H Q ⟨ι, h, ρ, r, en, p⟩ => ⟨ι, h, ρ, r, en, (GPost.bnd (R := AvR C) p).mono fun x H1 ⟨ι1, h1', a, r1, e1, x1, p1⟩ => ?_⟩
  refine l2 σ H1 _ ⟨ι1, h1', ρ, r1, en.ext r e1, (GPost.bnd (R := fun _ _ _ (a b : Option Int) => a = b) p1).mono fun u H2 ⟨ι2, h2', u', r2, e2, x2, p2⟩ => ?_⟩
  subst x2
  refine h2 σ H2 _ ⟨ι2, h2', ρ, r2, (en.ext r e1).ext r1 e2, (GPost.bnd (R := fun _ _ _ (a b : Option Int) => a = b) p2).mono fun w H3 ⟨ι3, h3', w', r3, e3, x3, p3⟩ => ?_⟩
  subst x3
  have x13 := r2.av e3 (r1.av e2 x1)
  cases x13 with
  | @loc l hl =>
    dsimp only at p3
    cases z : h3'[l]? with
    | none => rw [z] at p3; exact p3.elim
    | some o =>
      rw [z] at p3
      cases o with
      | lst xs =>
        obtain ⟨vs, v1, v2⟩ := lst_at r3 z
        exact ⟨_, vs, rfl, SqL.of v1, fun q hq => grow_lst r3 (v2.cut u' w') p3 hq⟩
      | _ => exact p3.elim
  | _ => exact p3.elim
/-! ### d.get(k, x) -/
theorem re_dget2 {o i x : Expr} {mo mi mx : EE} {apos cpos : Pos} (g : Gd C X j) (ho : RE C X o mo) (hi : RE C X i mi) (hx : RE C X x mx) (m : M2 X o "get" apos i x cpos := by exact ⟨rfl, rfl, rfl, rfl⟩) : RE C X (.Call (.Attribute o "get" apos) [i, x] [] cpos) (eGet2 mo mi mx) := fun W tk =>
  PE_imp (pe_dget2 (hu_of g.room) (ho W tk) (hi W tk) (hx W tk) m) fun σ H Q ⟨ι, h, ρ, r, en, p⟩ => ⟨ι, h, ρ, r, en, (GPost.bnd (R := AvR C) p).mono fun y H1 ⟨ι1, h1, a, r1, e1, x1, p1⟩ => by
    by_cases zd : isDct h1 a = true
    · rw [if_pos zd] at p1
      cases x1 with
      | @loc l hl =>
        refine ⟨_, rfl, ?_, ι1, h1, ρ, r1, en.ext r e1, (GPost.bnd (R := AvR C) p1).mono fun k H2 ⟨ι2, h2, b, r2, e2, x2, p2⟩ => ⟨ι2, h2, ρ, r2, (en.ext r e1).ext r1 e2, (GPost.bnd (R := AvR C) p2).mono fun v H3 ⟨ι3, h3, c, r3, e3, x3, p3⟩ => ?_⟩⟩
        · unfold isDct at zd
          dsimp only at zd
          cases ez : h1[l]? with
          | none => rw [ez] at zd; cases zd
          | some ob =>
            rw [ez] at zd
            cases ob with
            | dct kvs => obtain ⟨ks, k1, k2⟩ := dct_at r1 ez; exact .inl ⟨ks, .inl k1⟩
            | _ => cases zd
        · have xl := r2.av e3 (r1.av e2 (AvR.loc (C := C) hl))
          have xb := r2.av e3 x2
          cases e : dctOf h3 (.loc l) with
          | none => rw [e] at p3; exact p3.elim
          | some kvs =>
            rw [e] at p3
            dsimp only at p3
            by_cases z : isKey b = true
            · rw [if_pos z] at p3
              obtain ⟨q', ks, q1, rd, kr⟩ := dct_of r3 xl e
              obtain ⟨k', hk', kk⟩ := KR.of xb z
              cases q1
              rcases kr.get kk with ⟨g1, g2⟩ | ⟨w, u, g1, g2, g3⟩
              · rw [g1] at p3
                exact ⟨none, .inl ⟨ks, k', rd, hk', g2.symm⟩, p3 ι3 H3 v Ext.refl r3 x3⟩
              · rw [g1] at p3
                exact ⟨some u, .inl ⟨ks, k', rd, hk', g2.symm⟩, p3 ι3 H3 u Ext.refl r3 g3⟩
            · rw [if_neg z] at p3; exact p3.elim
      | _ => cases zd
    · rw [if_neg zd] at p1; exact p1.elim⟩
end
end PL
set_option maxRecDepth 100000
set_option maxHeartbeats 2000000
/-! Lift27: -x, xs * n, d.pop, d.clear, a dict turned about, list(d), sorted, == of nested ones. -/
namespace PySem.SeqAt
open AutoSeq1 (wpAny_loadPart')
open MeetsSeq MeetsSeq2 MeetsSeq3
section
variable {prog : Program} {w : World}
/-- != of two lists, each item equal to the one beside it: the loop's rest says no -/
theorem pl_neRest (p q : Addr) (us vs : Array Value) (cu cv : Nat) (du dv : Option Addr) (tu tv : Array (Option Value)) (hs : us.size = vs.size) :
    ∀ (m at_ : Nat), us.size - at_ = m → MeetsIn prog w (Builtin.«list.__eq__.loop» ⟨[.ref p, .ref q, rawInt at_, rawInt 3], []⟩)
      (fun A R s => s.heap.get? p = some { cls := .type "list", dict := du, data := .seq us cu, slots := tu } ∧ s.heap.get? q = some { cls := .type "list", dict := dv, data := .seq vs cv, slots := tv } ∧
        (∀ k (a : k < us.size) (b : k < vs.size), EqP prog w A.in1 s us[k] vs[k] true) ∧ R (.ok (.ret (.bool false))) s) := by
  intro m
  induction m with
  | zero =>
    intro at_ hm A R s hyp
    obtain ⟨o1, o2, o3, o4, o5⟩ := s
    obtain ⟨gp, gq, ev, fin⟩ := hyp
    wp_walk using wpAny_loadPart' gp, wpAny_loadPart' gq
    have nu : us[((at_ : Nat) : Int).toNat]? = none := by simp; omega
    have nv : vs[((at_ : Nat) : Int).toNat]? = none := by simp; omega
    rw [nu, nv]
    wp_walk using wpAny_loadPart' gp, wpAny_loadPart' gq
    show R (.ok (.ret (.bool (us.size != vs.size)))) _
    rw [hs]
    simpa using fin
  | succ m ih =>
    intro at_ hm A R s hyp
    obtain ⟨o1, o2, o3, o4, o5⟩ := s
    obtain ⟨gp, gq, ev, fin⟩ := hyp
    wp_walk using wpAny_loadPart' gp, wpAny_loadPart' gq
    have lu : at_ < us.size := by omega
    have lv : at_ < vs.size := by omega
    have su : us[((at_ : Nat) : Int).toNat]? = some us[at_] := by simp [lu]
    have sv : vs[((at_ : Nat) : Int).toNat]? = some vs[at_] := by simp [lv]
    have cast1 : ((at_ : Int) + 1) = ((at_ + 1 : Nat) : Int) := by push_cast; rfl
    rw [su, sv]
    refine wpAny_bind (ev at_ lu lv _ _ ?_)
    wp_walk
    rw [cast1]
    exact ⟨plainId_quiet plain_eq_loop _, codeAny_builtin entry_eq_loop (by
      rw [Around.under_plainId plain_eq_loop _]
      exact ih (at_ + 1) (by omega) A R _ ⟨gp, gq, ev, fin⟩)⟩
theorem pl_neAll (p q : Addr) (us vs : Array Value) (cu cv : Nat) (du dv : Option Addr) (tu tv : Array (Option Value)) (hs : us.size = vs.size) :
    MeetsIn prog w (Builtin.«list.__ne__» ⟨[.ref p, .ref q], []⟩)
      (fun A R s => s.heap.get? p = some { cls := .type "list", dict := du, data := .seq us cu, slots := tu } ∧ s.heap.get? q = some { cls := .type "list", dict := dv, data := .seq vs cv, slots := tv } ∧
        (∀ k (a : k < us.size) (b : k < vs.size), EqP prog w A.in1 s us[k] vs[k] true) ∧ R (.ok (.ret (.bool false))) s) := by
  intro A R s hyp
  obtain ⟨o1, o2, o3, o4, o5⟩ := s
  obtain ⟨gp, gq, ev, fin⟩ := hyp
  have sub := AutoSeq1.sub_list_list
  have same : ¬ (us.size != vs.size) = true := by simp [hs]
  wp_walk using wpAny_loadPart' gp, wpAny_loadPart' gq
  exact ⟨plainId_quiet plain_eq_loop _, codeAny_builtin entry_eq_loop (by
    rw [Around.under_plainId plain_eq_loop _]
    exact pl_neRest p q us vs cu cv du dv tu tv hs _ 0 rfl A R _ ⟨gp, gq, ev, fin⟩)⟩
theorem pl_ne {A : Around} {s : Shared} {p q : Addr} {us vs : Array Value} (gp : s.heap.IsList p us) (gq : s.heap.IsList q vs) (hs : us.size = vs.size) (room : A.units < cLine)
    (ev : ∀ k (a : k < us.size) (b : k < vs.size), EqP prog w A.in1 s us[k] vs[k] true) (E Q : Value → Shared → Prop) (fin : Q (.bool false) s) : wpAny (model prog w) A (richCompare .NotEq (.ref p) (.ref q)) Q E s := by
  obtain ⟨⟨c1, du, d1, tu⟩, a1, a2, cu, a3⟩ := id gp
  obtain ⟨⟨c2, dv, d2, tv⟩, b1, b2, cv, b3⟩ := id gq
  simp only at a2 a3 b2 b3
  subst a2 a3 b2 b3
  have tp : s.TypeIs (.ref p) "list" := ⟨_, a1, rfl⟩
  have tq : s.TypeIs (.ref q) "list" := ⟨_, b1, rfl⟩
  exact wpAny_richCompare_same_room (op := .NotEq) tp tq F.slot_list_ne (call_meetsIn F.slot_list_ne tp F.entry_list_ne (F.args_list_ne_2 _ _) (pl_neAll p q us vs cu cv du dv tu tv hs)
    ⟨a1, b1, ev, show Value.bool false ≠ Value.notImplemented ∧ Q (.bool false) s from ⟨(fun x => nomatch x), fin⟩⟩) room
end
end PySem.SeqAt
namespace PL
open PySem PySem.Spec PyProof.Rows L2 PA
section
variable {C : Cz} {X : Cx} {j k : Nat}
/-! ### more objects, none of ours -/
theorem Ext.more {ι : Nat → Addr} {n : Nat} {H H' : Hp} (k : ∀ b o, H b = some o → H' b = some o) : Ext ι n H ι n H' where
  le := Nat.le_refl _
  agree := fun _ _ => rfl
  frame := fun p o e _ _ => k p o e
  fresh := fun l a b => absurd (Nat.lt_of_lt_of_le b a) (Nat.lt_irrefl _)
  dom := fun p hp => by
    cases e : H p with
    | none => exact absurd e hp
    | some o => rw [k p o e]; exact fun z => nomatch z
  frz := fun p o u e => k p _ e
theorem Rep.more {ι : Nat → Addr} {h : PA.Heap} {H H' : Hp} (r : Rep C ι h H) (k : ∀ b o, H b = some o → H' b = some o) : Rep C ι h H' :=
  ⟨fun l o e => r.obr (Ext.more k) (r.at_ l o e) (by obtain ⟨u, hu⟩ := (r.at_ l o e).some_; rw [k _ _ hu, hu]) (fun dx q => k _ _ q), r.inj, r.scr.keep fun p o u e => k p _ e⟩
/-! ### -x, xs * n -/
theorem re_neg {a : Expr} {m : EE} {pos : Pos} (ha : RE C X a m) : RE C X (.UnaryOp .USub a pos) (eNeg m) := fun W tk =>
  PE_imp (pe_un un_neg (ha W tk)) fun σ H Q ⟨ι, h, ρ, r, en, p⟩ => ⟨ι, h, ρ, r, en, (GPost.bnd (R := AvR C) p).mono fun x H1 ⟨ι1, h1, a, r1, e1, x1, p1⟩ => by
    cases x1 with
    | int i => exact ⟨i, rfl, p1 ι1 H1 _ Ext.refl r1 (.int _)⟩
    | _ => exact p1.elim⟩
theorem op_mulL : OpA C X (binaryOp .Mult) oMulL := by
  intro pins s σ H x y v u Q I rx ry ⟨ι, h, a, b, W, r, xa, xb, p⟩
  unfold oMulL at p
  cases xb with
  | int n =>
    cases xa with
    | @loc l hl =>
      dsimp only at p
      cases e : h[l]? with
      | none => rw [e] at p; exact p.elim
      | some o =>
        rw [e] at p
        cases o with
        | lst xs =>
          dsimp only at p
          by_cases z : 0 ≤ n ∧ n ≤ 1000 ∧ xs.length ≤ 1000
          · rw [if_pos z] at p
            obtain ⟨z1, z2, z3⟩ := z
            obtain ⟨vs, hv, av⟩ := lst_at r e
            have lim : vs.length * n.toNat ≤ sizeLine := by
              have : vs.length * n.toNat ≤ 1000 * 1000 := Nat.mul_le_mul (by rw [← av.length]; exact z3) (by omega)
              rw [sizeLine_eq]; omega
            refine op_rep pins s σ H _ _ v u Q I rx ry ⟨_, n, vs, rfl, rfl, hv, by omega, by omega, lim, fun p' hp => ?_⟩
            have rep : ∀ m : Nat, AvRs C ι h.length H (List.replicate m xs).flatten (List.replicate m vs).flatten := by
              intro m
              induction m with
              | zero => exact .nil
              | succ m ih => rw [List.replicate_succ, List.replicate_succ, List.flatten_cons, List.flatten_cons]; exact av.append ih
            exact laid_lst r (rep n.toNat) p p' hp
          · rw [if_neg z] at p; exact p.elim
        | _ => exact p.elim
    | _ => exact p.elim
  | _ => cases xa <;> exact p.elim
/-! ### d.pop(k, x), d.clear() -/
theorem KsR.drop {ι : Nat → Addr} {n : Nat} {H : Hp} {kvs : List (AV × AV)} {ks : List (Key × V)} (r : KsR C ι n H kvs ks) {a : AV} {k : Key} (q : KR a k) : KsR C ι n H (dDrop kvs a) (dropK ks k) := by
  unfold dDrop dropK
  induction r with
  | nil => exact .nil
  | @int i x v fs gs h t ih =>
    rw [List.filter_cons, List.filter_cons, KR.eq (.int i) q]
    by_cases z : (Sum.inl i : Key) = k
    · simpa [z] using ih
    · simpa [z] using KsR.int h ih
  | @str i x v fs gs h t ih =>
    rw [List.filter_cons, List.filter_cons, KR.eq (.str i) q]
    by_cases z : (Sum.inr i : Key) = k
    · simpa [z] using ih
    · simpa [z] using KsR.str h ih
theorem re_dpop2 {o i x : Expr} {mo mi mx : EE} {apos cpos : Pos} (ho : RE C X o mo) (hi : RE C X i mi) (hx : RE C X x mx) (m : M2 X o "pop" apos i x cpos := by exact ⟨rfl, rfl, rfl, rfl⟩) : RE C X (.Call (.Attribute o "pop" apos) [i, x] [] cpos) (eDPop2 mo mi mx) := fun W tk =>
  PE_imp (pe_dpop2 (ho W tk) (hi W tk) (hx W tk) m) fun σ H Q ⟨ι, h, ρ, r, en, p⟩ => ⟨ι, h, ρ, r, en, (GPost.bnd (R := AvR C) p).mono fun y H1 ⟨ι1, h1, a, r1, e1, x1, p1⟩ => by
    by_cases zd : isDct h1 a = true
    · rw [if_pos zd] at p1
      cases x1 with
      | @loc l hl =>
        refine ⟨_, rfl, ?_, ι1, h1, ρ, r1, en.ext r e1, (GPost.bnd (R := AvR C) p1).mono fun k H2 ⟨ι2, h2, b, r2, e2, x2, p2⟩ => ⟨ι2, h2, ρ, r2, (en.ext r e1).ext r1 e2, (GPost.bnd (R := AvR C) p2).mono fun v H3 ⟨ι3, h3, c, r3, e3, x3, p3⟩ => ?_⟩⟩
        · unfold isDct at zd
          dsimp only at zd
          cases ez : h1[l]? with
          | none => rw [ez] at zd; cases zd
          | some ob =>
            rw [ez] at zd
            cases ob with
            | dct kvs => obtain ⟨ks, k1, k2⟩ := dct_at r1 ez; exact .inl ⟨ks, .inl k1⟩
            | _ => cases zd
        · have xl := r2.av e3 (r1.av e2 (AvR.loc (C := C) hl))
          have xb := r2.av e3 x2
          have hl3 : l < h3.length := Nat.lt_of_lt_of_le (Nat.lt_of_lt_of_le hl e2.le) e3.le
          have eι : ι1 l = ι3 l := ((e3.agree l (Nat.lt_of_lt_of_le hl e2.le)).trans (e2.agree l hl)).symm
          cases e : h3[l]? with
          | none => unfold dctU at p3; dsimp only at p3; rw [e] at p3; exact p3.elim
          | some ob =>
            unfold dctU at p3
            dsimp only at p3
            rw [e] at p3
            cases ob with
            | dct kvs =>
              dsimp only at p3
              by_cases z : isKey b = true
              · rw [if_pos z] at p3
                obtain ⟨ks, hk, kr⟩ := dct_at r3 e
                obtain ⟨k', hk', kk⟩ := KR.of xb z
                rw [eι]
                refine ⟨ks, k', hk, hk', ?_⟩
                rcases kr.get kk with ⟨g1, g2⟩ | ⟨w, u, g1, g2, g3⟩
                · rw [g1] at p3
                  exact ⟨fun v' z => (by rw [g2] at z; cases z), fun _ => p3 ι3 H3 v Ext.refl r3 x3⟩
                · rw [g1] at p3
                  obtain ⟨ex, r4⟩ := chg_dct r3 e (kr.drop kk)
                  refine ⟨fun v' z => ?_, fun z => by rw [g2] at z; cases z⟩
                  rw [g2] at z; cases z
                  exact p3 ι3 _ u ex r4 (r3.av ex g3)
              · rw [if_neg z] at p3; exact p3.elim
            | _ => exact p3.elim
      | _ => cases zd
    · rw [if_neg zd] at p1; exact p1.elim⟩
theorem re_dclear {o : Expr} {mo : EE} {apos cpos : Pos} (ho : RE C X o mo) (hbase : attributeBase o "clear" X.env (eval o X.env) = eval o X.env := by rfl) (hline : (apos.endLine == cpos.line) = true := by rfl) : RE C X (.Call (.Attribute o "clear" apos) [] [] cpos) (eDClear mo) := fun W tk =>
  PE_imp (pe_dclear (ho W tk) hbase hline) fun σ H Q ⟨ι, h, ρ, r, en, p⟩ => ⟨ι, h, ρ, r, en, (GPost.bnd (R := AvR C) p).mono fun y H1 ⟨ι1, h1, a, r1, e1, x1, p1⟩ => by
    cases x1 with
    | @loc l hl =>
      dsimp only at p1
      cases e : h1[l]? with
      | none => rw [e] at p1; exact p1.elim
      | some ob =>
        rw [e] at p1
        cases ob with
        | dct kvs =>
          obtain ⟨ks, hk, kr⟩ := dct_at r1 e
          obtain ⟨ex, r4⟩ := chg_dct r1 e (ys := []) (ws := []) .nil
          exact ⟨.inr (.inr (.inl ⟨rfl, .inl ⟨ks, hk⟩⟩)), _, ks, rfl, rfl, hk, p1 ι1 _ .non ex r4 .non⟩
        | _ => exact p1.elim
    | _ => exact p1.elim⟩
/-! ### dict(list(d.items())[::-1]) -/
theorem KsR.append {ι : Nat → Addr} {n : Nat} {H : Hp} {xs ys : List (AV × AV)} {ks ls : List (Key × V)} (r : KsR C ι n H xs ks) (q : KsR C ι n H ys ls) : KsR C ι n H (xs ++ ys) (ks ++ ls) := by
  induction r with
  | nil => exact q
  | int h t ih => exact .int h ih
  | str h t ih => exact .str h ih
theorem KsR.reverse {ι : Nat → Addr} {n : Nat} {H : Hp} {xs : List (AV × AV)} {ks : List (Key × V)} (r : KsR C ι n H xs ks) : KsR C ι n H xs.reverse ks.reverse := by
  induction r with
  | nil => exact .nil
  | int h t ih => rw [List.reverse_cons, List.reverse_cons]; exact ih.append (.int h .nil)
  | str h t ih => rw [List.reverse_cons, List.reverse_cons]; exact ih.append (.str h .nil)
theorem paired_rev {α β : Type} {R : α → β → Prop} {xs : List α} {ys : List β} (h : Paired R xs ys) : Paired R xs.reverse ys.reverse := by
  have app : ∀ {xs xs' : List α} {ys ys' : List β}, Paired R xs ys → Paired R xs' ys' → Paired R (xs ++ xs') (ys ++ ys') := by
    intro xs xs' ys ys' a b
    induction a with
    | nil => exact b
    | cons h _ ih => exact .cons h ih
  induction h with
  | nil => exact .nil
  | cons h _ ih => rw [List.reverse_cons, List.reverse_cons]; exact app ih (.cons h .nil)
theorem paired_imp {α β : Type} {R S : α → β → Prop} {xs : List α} {ys : List β} (h : Paired R xs ys) (i : ∀ a b, R a b → S a b) : Paired S xs ys := by
  induction h with
  | nil => exact .nil
  | cons h _ ih => exact .cons (i _ _ h) ih
theorem re_revIt {o : Expr} {mo : EE} {p1 p2 p3 p4 p5 p6 p7 q1 q2 : Pos} {k0 : Nat} (g : Gd C X j) (hd : C.mg "dict" = none) (hl : C.mg "list" = none) (ho : RE C X o mo) (hgd : Gl X "dict" := by rfl) (hgl : Gl X "list" := by rfl)
    (hbase : attributeBase o "items" X.env (eval o X.env) = eval o X.env := by rfl) (hline : (q1.endLine == q2.line) = true := by rfl)
    (hs : starEach [.Call (.Attribute o "items" q1) [] [] q2] X.env = (false, eval (.Call (.Attribute o "items" q1) [] [] q2) X.env) :: starEach [] X.env := by rfl)
    (na : starEach [.Subscript (.Call (.Name "list" p2) [.Call (.Attribute o "items" q1) [] [] q2] [] p3) (.Slice none none (some (.UnaryOp .USub (.Constant (.int 1) k0 p4) p5)) p6) p7] X.env = (false, eval (.Subscript (.Call (.Name "list" p2) [.Call (.Attribute o "items" q1) [] [] q2] [] p3) (.Slice none none (some (.UnaryOp .USub (.Constant (.int 1) k0 p4) p5)) p6) p7) X.env) :: starEach [] X.env := by rfl) {pos : Pos} :
    RE C X (.Call (.Name "dict" p1) [.Subscript (.Call (.Name "list" p2) [.Call (.Attribute o "items" q1) [] [] q2] [] p3) (.Slice none none (some (.UnaryOp .USub (.Constant (.int 1) k0 p4) p5)) p6) p7] [] pos) (eRevIt mo) := fun W tk => by
  have hit := LiI.pe_listItems (p := p2) (pos := p3) g.calm (ho W tk) hgl (by rw [g.hm]; exact hl) (by decide +kernel) hbase hline hs
  have hrv := pe_revL (k := k0) (p1 := p4) (p2 := p5) (p3 := p6) (pos := p7) hit
  refine PE_imp (pe_callTy (call_dictP g.calm) hgd (by rw [g.hm]; exact hd) (by decide +kernel) (pa_cons hrv pa_nil na) (by decide) (by decide) na rfl) fun σ H Q ⟨ι, h, ρ, r, en, p⟩ => ⟨ι, h, ρ, r, en, (GPost.bnd (R := AvR C) p).mono fun y H1 ⟨ι1, h1, a, r1, e1, x1, p1⟩ => ?_⟩
  cases e : dctU h1 a with
  | none => rw [e] at p1; exact p1.elim
  | some kvs =>
    rw [e] at p1
    obtain ⟨q, ks, rfl, hk, kr⟩ := dctU_of r1 x1 e
    refine ⟨q, ks, rfl, hk, fun H2 pl ts mono _ _ _ hp2 prs => ⟨pl, ts.map V.ref, rfl, SqL.of hp2, fun p' hp' => ?_⟩⟩
    have r2 : Rep C ι1 h1 H2 := r1.more mono
    have x2 : Ext ι1 h1.length H1 ι1 h1.length H2 := Ext.more mono
    have r3 : Rep C ι1 h1 (upd H2 p' (.lst (ts.map V.ref).reverse)) := r2.laid hp'
    have x3 := x2.trans (Ext.laid (o := .lst (ts.map V.ref).reverse) r2 hp')
    refine ⟨p', ts.reverse, ks.reverse, rfl, SqL.of (by rw [upd_same, List.map_reverse]), paired_imp (paired_rev prs) fun t kv ht => .inl (.inl (by rw [upd_ne (ne_of_none ht hp')]; exact ht)), fun p6 hp6 => ?_⟩
    have kr3 : KsR C ι1 h1.length (upd H2 p' (.lst (ts.map V.ref).reverse)) kvs.reverse ks.reverse := (r1.ksr x3 kr).reverse
    exact laid_dct r3 (ksR_merge kr3 .nil) (GPost.shift p1 x3) p6 hp6
/-! ### list(d), sorted(xs) -/
theorem KsR.keys {ι : Nat → Addr} {n : Nat} {H : Hp} {xs : List (AV × AV)} {ks : List (Key × V)} (r : KsR C ι n H xs ks) : AvRs C ι n H (keysOf xs) (ks.map fun kv => kV kv.1) := by
  induction r with
  | nil => exact .nil
  | int h t ih => exact .cons (.int _) ih
  | str h t ih => exact .cons (.str _) ih
theorem cr_listD (g : Gd C X j) : CrA C X (.type "list") bListD := by
  intro pins s σ H xs us Q I rv ⟨ι, h, as, W, r, x, p⟩
  cases x with
  | nil => exact p.elim
  | cons a b =>
    cases b with
    | cons _ _ => exact p.elim
    | nil =>
      rename_i a0 v0
      unfold bListD at p
      dsimp only at p
      cases e : dctOf h a0 with
      | none => rw [e] at p; exact p.elim
      | some kvs =>
        rw [e] at p
        obtain ⟨q, ks, rfl, rd, kr⟩ := dct_of r a e
        exact call_listD g.calm pins s σ H _ us Q I rv ⟨q, ks, rfl, rd, fun p' hp => laid_lst r kr.keys p p' hp⟩
theorem cr_sorted (g : Gd C X j) : CrA C X (.builtin "sorted") bSorted := by
  intro pins s σ H xs us Q I rv ⟨ι, h, as, W, r, x, p⟩
  cases x with
  | nil => exact p.elim
  | cons a b =>
    cases b with
    | cons _ _ => cases a <;> exact p.elim
    | nil =>
      cases a with
      | @loc l hl =>
        unfold bSorted at p
        dsimp only at p
        cases e : h[l]? with
        | none => rw [e] at p; exact p.elim
        | some o =>
          rw [e] at p
          cases o with
          | lst xs =>
            dsimp only at p
            cases z : strsOf xs with
            | none => rw [z] at p; exact p.elim
            | some ys =>
              rw [z] at p
              dsimp only at p
              by_cases q : ys.Nodup ∧ ys.length < 64
              · rw [if_pos q] at p
                obtain ⟨vs, hv, av⟩ := lst_at r e
                have ev : vs = ys.map V.str := PL.strs_of av z
                subst ev
                refine cr_sortedS pins s σ H _ us Q I rv ⟨_, ys, rfl, SqL.of hv, q.2, fun zs p' pm hs hp => ?_⟩
                have : zs = sortD ys := up_ext (sortedS_up zs hs (pm.nodup_iff.mpr q.1)) (sortD_up ys) fun y => by rw [sortD_mem]; exact pm.mem_iff
                rw [this]
                exact laid_lst r (AvRs.ofStrs _) p p' hp
              · rw [if_neg q] at p; exact p.elim
          | _ => exact p.elim
      | _ => exact p.elim
end
end PL
set_option maxRecDepth 100000
set_option maxHeartbeats 4000000
/-! Lift28: isinstance of a caught error, with a dict of its own or without; suites with a choice; == of a list and an own instance; != of nested lists. -/
namespace PySem.W
open PySem PySem.Spec PySem.Calls PyProof.Rows
section
variable {prog : Program} {w : World} {A : Around} {E : Value → Shared → Prop} {s : Shared} {K : Frag} {x D : Addr} {ox : Obj} {od : Option Obj}
theorem pl_findO {name : Str} {a g : Value} (c1 : (clsIn K D).isSome = true) (c2 : findIn K (.ref D) name = some (some a)) (c3 : specialIn K a "__get__" = some (some g)) (c4 : takesIn K a = some true) : findObj K D od name = some (.bind g a) := by
  cases od with
  | none => exact findObj_dataN c1 c2 c3 c4
  | some o => exact findObj_data c1 c2 c3 c4
theorem pl_kinE {Q : Option Value → Shared → Prop} (T : L2.ExcC K D) (X : K.In s.heap) (I : InstAt s.heap x ox D od) (fin : Q (some (.ref D)) { s with toks := s.toks + 1 }) : wpAny (model prog w) A (getAttr? (.ref x) "__class__") Q E s := by
  obtain ⟨t1, t2, t3, t4, t5, t6, t7, t8⟩ := T
  have fo : findObj K D od "__class__" = some (.bind (.builtin "getset_descriptor.__get__") (.builtin "object.__class__")) := pl_findO (by obtain ⟨cd, q, _⟩ := any_some t4; rw [q]; rfl) t5 t6 t7
  obtain ⟨o1, o2, o3, o4, o5⟩ := s
  have ty0 := I.type (M := model prog w)
  have ga1 := looks_findIn (M := model prog w) X t1
  have gt2 := looks_findIn (M := model prog w) X t2
  have fi3 := looks_find (M := model prog w) X I fo
  have isb : Looks (model prog w) o1 (isInstance (.ref x) (.type "BaseException")) true := ty0.andThen (looks_subIn X t3)
  have n0 : (false && onTheHeap (Value.builtin "BaseException.__getattribute__")) = false := rfl
  have n2 : (Value.builtin "BaseException.__getattribute__" == Value.builtin "object.__getattribute__") = false := by decide +kernel
  have n1 : (onTheHeap (Value.ref D) && Value.builtin "BaseException.__getattribute__" == Value.builtin "object.__getattribute__") = false := by rw [n2]; rfl
  unfold getAttr? getAttrBy? getAttrBy
  refine wpAny_bind (wpAny_mkText (wpAny_bind (wpAny_attempt (wpAny_holding (wpAny_bind (ty0.at (wpAny_bind (ga1.at ?_))))))))
  show wpAny (model prog w) A (if (onTheHeap (Value.ref D) && Value.builtin "BaseException.__getattribute__" == Value.builtin "object.__getattribute__") = true then _ else _) _ _ _
  rw [n1, if_neg Bool.false_ne_true]
  unfold getAttrByItsOwn hookBefore
  refine wpAny_bind ?_
  rw [if_pos (show onTheHeap (Value.ref D) = true from rfl)]
  refine gt2.at ?_
  refine wpAny_bind (wpAny_attempt (wpAny_holding ?_))
  unfold callGetattribute
  rw [n0, if_neg Bool.false_ne_true]
  unfold boundAndCalled
  rw [PySem.F.excAttr_ValueError.ga.bind (.ref x)]
  refine wpAny_bind (wpAny_pure ?_)
  show wpAny (model prog w) _ (call (.builtin "BaseException.__getattribute__") [.ref x, .str "__class__" o4]) _ _ _
  refine wpAny_call (codeAny_call_builtin PySem.F.excAttr_ValueError.ga.plain PySem.F.entry_bexc_ga ?_)
  refine @check_slot (model prog w) _ _ ⟨o1, o2, o3, o4 + 1, o5⟩ "BaseException.__getattribute__" "BaseException" "__getattribute__" (.ref x) [.str "__class__" o4] [] _ (by decide +kernel) (by decide +kernel) isb (PySem.F.args_bexc_ga (.ref x) (.str "__class__" o4)) ?_
  unfold Builtin.«object.__getattribute__»
  refine wpAny_bind (wpAny_of_eq (a := ((Value.ref x : Value), [Value.str "__class__" o4])) (by first | rfl | (simp only [slotArgs]; rfl)) ?_)
  refine wpAny_bind (wpAny_pure (wpAny_bind (ty0.at (wpAny_bind (fi3.at ?_)))))
  show wpAny (model prog w) _ (holding [Value.builtin "object.__class__"] (call (.builtin "getset_descriptor.__get__") [.builtin "object.__class__", .ref x, .ref D]) >>= ret) _ _ _
  refine wpAny_bind (wpAny_holding (wpAny_call (class_get (s := ⟨o1, o2, o3, o4 + 1, o5⟩) (ox := ox) (od := od) X I t8 ?_)))
  refine wpAny_pure ?_
  show wpAny (model prog w) _ (handedOut (.ref D)) _ _ _
  rw [handedOut_of (v := .ref D) rfl]
  first
    | exact wpAny_pure (wpAny_pure fin)
    | exact wpAny_pure fin
    | exact wpAny_pure (wpAny_bind (wpAny_pure (wpAny_pure fin)))
theorem pl_kitE (T : L2.ExcC K D) : KitX K (.ref x) (.ref D) (fun h => InstAt h x ox D od) where
  ty := fun _ _ _ J => J.type
  it := fun M h X _ => by
    obtain ⟨cd0, q, _⟩ := any_some T.hd
    unfold clsIn at q
    split at q
    · rename_i c0 d0 cd1 sl0 at0
      intro A1 Q1 E1 s1 keep fin
      unfold isType loadHead
      exact wpAny_bind (wpAny_loadPart (keep _ _ (X _ _ at0)) (wpAny_pure fin))
    · cases q
  ne := (handS_kitx_exc (x := x) (ox := ox) T.hg T.hk T.hs T.hd T.ha T.hn T.ht T.hm).ne
  ca := fun X J k => pl_kinE T X J k
end
end PySem.W
namespace PL
open PySem PySem.Spec PyProof.Rows L2 PA
section
variable {C : Cz} {X : Cx} {j k : Nat}
/-- isinstance(e, c), e an exception that is pinned -/
def rIsX (K : PySem.W.Frag) (cls : Value) (d : Option Addr) (a : Addr) : List V → Hp → VK → Prop := fun xs H Q => ∃ (D : Addr) (c : V) (cv : Value) (b : Bool), cls = .ref D ∧ ExcC K D ∧ xs = [.ref a, c] ∧ (∀ u, RelV c u → u = cv) ∧ PySem.W.kitOne K cls cv = some b ∧
  (d = none ∨ ∃ dd gs, d = some dd ∧ H dd = some (.xd gs)) ∧ Q (.bl b) H
theorem call_isX {a : Addr} {cls : Value} {d : Option Addr} {oe : Obj} (hp : (a, oe) ∈ X.pn) (hz : Zc cls d oe) (hf : ∃ vs, oe.data = .fields vs) : CallR X (.builtin "isinstance") (rIsX X.K cls d a) := by
  intro pins s σ H xs us Q I r ⟨D, c, cv, b, ec, T, ex, hcv, hk, hd, q⟩
  subst ec ex
  cases r with
  | cons rx rr =>
    cases rr with
    | cons rt rr =>
      cases rr
      cases rx
      have et := hcv _ rt
      subst et
      obtain ⟨here, _⟩ := I.pin (a, oe) (List.mem_append.mpr (.inl hp))
      obtain ⟨vs, hv⟩ := hf
      obtain ⟨od, J⟩ : ∃ od, PySem.W.InstAt s.heap a oe D od := by
        obtain ⟨oc, odx, oda, osl⟩ := oe
        obtain ⟨z1, z2⟩ := hz
        dsimp only at z1 z2 hv
        subst z1 z2 hv
        rcases hd with hd | ⟨dd, gs, hd, he⟩
        · subst hd
          exact ⟨none, here, rfl, rfl, trivial⟩
        · subst hd
          obtain ⟨mA, n, _⟩ := (show ObjOk X.prog X.w H s.heap dd (.xd gs) from I.hok dd _ he)
          obtain ⟨od, ho, _⟩ := lookIn_ns n
          exact ⟨some od, here, rfl, rfl, ho⟩
      exact PySem.W.kia_one (PySem.W.pl_kitE T) I.kIn J hk (fun z => nomatch z) fun tk => ⟨.bl b, H, I.kept (t' := tk) fun _ _ z => z, rfl, q⟩
variable {cls : Value} {d : Option Addr} {P : L2.St → Prop}
/-- which of the classes that are thrown is below c -/
structure XiA (C : Cz) (c : String) (f : String → Option Bool) : Prop where
  g : C.mg c = some (.ref (C.ad c))
  k : ∀ n b, f n = some b → ExcC C.K (C.ad n) ∧ PySem.W.kitOne C.K (.ref (C.ad n)) (.ref (C.ad c)) = some b
theorem xi_of {c : String} {l : List (String × Bool)} (g : C.mg c = some (.ref (C.ad c))) (h : ∀ p ∈ l, ExcC C.K (C.ad p.1) ∧ PySem.W.kitOne C.K (.ref (C.ad p.1)) (.ref (C.ad c)) = some p.2) : XiA C c (clF l) := by
  refine ⟨g, fun n b e => ?_⟩
  unfold clF at e
  induction l with
  | nil => cases e
  | cons p r ih =>
    obtain ⟨x, y⟩ := p
    rw [List.lookup_cons] at e
    cases z : n == x with
    | true =>
      rw [z] at e
      cases e
      have := eq_of_beq z
      subst this
      exact h _ List.mem_cons_self
    | false => rw [z] at e; exact ih (fun p hp => h p (List.mem_cons_of_mem _ hp)) e
theorem rx_isE {i : Nat} {c : String} {n : Str} {f : String → Option Bool} {a : Addr} {oe : Obj} {pn : List (Addr × Obj)} {p p2 p3 pos : Pos} (T : XiA C c f) (g : Gd C X j) (hmi : C.mg "isinstance" = none) (hz : Zc cls d oe) (hf : ∃ vs, oe.data = .fields vs) (hP : ∀ σ, P σ → σ[i]? = some (some (.ref a)))
    (hN : X.N[i]? = some n := by rfl) (hv : Vis X.env.scope n := by first | exact Or.inl rfl | exact Or.inr (Or.inl rfl) | exact Or.inr (Or.inr rfl)) (hd : (n == ("__debug__" : Str)) = false := by decide) (hcd : (n == ("__classdict__" : Str)) = false := by decide)
    (hg : Gl X "isinstance" := by rfl) (hgc : Gl X c := by rfl) (hdc : ((c : Str) == ("__debug__" : Str)) = false := by decide)
    (he1 : starEach [.Name n p, .Name c p2] X.env = (false, eval (.Name n p) X.env) :: starEach [.Name c p2] X.env := by rfl) (he2 : starEach [.Name c p2] X.env = (false, eval (.Name c p2) X.env) :: starEach [] X.env := by rfl) (hpl : (backTo pos (starEach [.Name c p2] X.env)).any (·.1) = false := by rfl) :
    RX C (X.suite a ((a, oe) :: pn)) cls d P (.Call (.Name "isinstance" p3) [.Name n p, .Name c p2] [] pos) (xIsE f) := fun W tk => by
  have cr := call_isX (X := X.suite a ((a, oe) :: pn)) (a := a) (oe := oe) (cls := cls) (d := d) List.mem_cons_self hz hf
  have hc : PE (X.suite a ((a, oe) :: pn)) (.Name c p2) (tC (.ref (C.ad c))) := pe_glob (X := X.suite a ((a, oe) :: pn)) hgc (by show X.mg c = _; rw [g.hm]; exact T.g) rfl hdc
  refine PE_imp (pe_callB (X := X.suite a ((a, oe) :: pn)) cr hg (by show X.mg "isinstance" = none; rw [g.hm]; exact hmi) (by decide +kernel) (pa_cons (pv (X := X.suite a ((a, oe) :: pn)) i hN hv hd hcd) (pa_cons hc pa_nil he2) he1) (by decide) (by decide) he1 hpl) fun σ H Q ⟨ι, h, ρ, E, r, en, x, hp, q⟩ => ?_
  unfold xIsE at q
  cases e : f E.cls with
  | none => rw [e] at q; exact q.elim
  | some b =>
    rw [e] at q
    obtain ⟨x1, x2⟩ := x
    obtain ⟨t1, t2⟩ := T.k _ _ e
    refine ⟨.ref a, hP σ hp, C.ad E.cls, .ref (C.ad c), .ref (C.ad c), b, x1, by show ExcC X.K _; rw [g.hK]; exact t1, rfl, fun u z => z, by show PySem.W.kitOne X.K _ _ = _; rw [g.hK, x1]; exact t2, ?_, q ι H _ Ext.refl r (.bl b)⟩
    rcases x2 with ⟨_, x2⟩ | ⟨dd, gs, x2, x3, _⟩
    · exact .inl x2
    · exact .inr ⟨dd, gs, x2, x3⟩
theorem rx_if {t a b : Expr} {mt m1 m2 : Exc → EE} {pos : Pos} (ht : RX C X cls d P t mt) (h1 : RX C X cls d P a m1) (h2 : RX C X cls d P b m2) (he : ∀ whole, isTrue t X.env whole = (do let v ← whole; standAt t.pos; holding [v] (truthy v)) := by intro _; rfl) : RX C X cls d P (.IfExp t a b pos) (xIf mt m1 m2) := fun W tk =>
  PE_imp (pe_ifExp (pt_val (ht W tk) he) (h1 W tk) (h2 W tk)) fun σ H Q ⟨ι, h, ρ, E, r, en, x, hp, p⟩ => by
    unfold xIf at p
    refine ⟨ι, h, ρ, E, r, en, x, hp, (xbnd (R := AvR C) p).mono fun v H1 ⟨ι1, h1', a, r1, e1, x1, p1⟩ => ?_⟩
    cases x1 with
    | bl b =>
      cases b with
      | true => exact ⟨true, rfl, ι1, h1', ρ, E, r1, en.ext r e1, x.ext r e1, hp, p1⟩
      | false => exact ⟨false, rfl, ι1, h1', ρ, E, r1, en.ext r e1, x.ext r e1, hp, p1⟩
    | _ => exact p1.elim
/-! ### own == a list -/
theorem op_ownEqL {c : String} {F : FF} (g : Gd C X j) (M : EqS C k c F) (nf : PySem.W.notFirst C.K (C.ad c) (.type "list") = true) (hk : k ≤ j := by decide) : OpA C X (compareOp .Eq) (oOwnEqL c F) := by
  obtain ⟨f, fd, ps, names, fn, hc, hf, hfn, hb, us, _⟩ := M.ex
  unfold FnA at fn
  rw [← g.hP, ← g.hw, ← g.hK, ← g.hm, ← g.hb] at fn
  rw [← g.hK] at hc hf hfn hb nf
  have fr := fn.raw hb (dvs := []) .nil
  intro pins s σ H x y v u Q I rx ry ⟨ι, h, a, b, W, r, xa, xb, p⟩
  unfold oOwnEqL at p
  by_cases z : (isIns c h a && isLst h b) = true
  · rw [if_pos z] at p
    rw [Bool.and_eq_true] at z
    obtain ⟨q, dx, vs, rfl, st⟩ := isIns_sl us r xa z.1
    have hl : ∃ q' ys, y = .ref q' ∧ H q' = some (.lst ys) := by
      obtain ⟨_, z2⟩ := z
      unfold isLst at z2
      cases xb with
      | @loc l hl =>
        dsimp only at z2
        cases e : h[l]? with
        | none => rw [e] at z2; cases z2
        | some o =>
          rw [e] at z2
          cases o with
          | lst xs => obtain ⟨vs, hv, _⟩ := lst_at r e; exact ⟨_, vs, rfl, hv⟩
          | _ => cases z2
      | _ => cases z2
    obtain ⟨q', ys, rfl, hy⟩ := hl
    cases (show v = Value.ref q from rx)
    cases (show u = Value.ref q' from ry)
    obtain ⟨sl, od, _, J, _⟩ := SlX.slt_inst I st
    obtain ⟨m, hF⟩ := I.fr
    obtain ⟨_, its, nn, _, hget⟩ := (show ObjOk X.prog X.w H s.heap q' (.lst ys) from I.hok q' _ hy)
    have tl : PySem.W.Looks (model X.prog X.w) s.heap (typeOf (.ref q')) (.type "list") := fun A Q E s kk z => wpAny_typeOf_ref (kk _ _ hget) z
    show wpAny _ _ (richCompare .Eq (.ref q) (.ref q')) _ _ s
    refine PySem.W.cmp_K (op := .Eq) (tb := .type "list") g.room.units0 hF I.ok.mod.kin J tl nf hf hfn ?_
    refine wpAny_mono (wpAny_call (run_fnR (us := [.ref q, .ref q']) (vs := [.ref q, .ref q']) fr (g.room.mono hk) (passL (X := X)) I (.cons rfl (.cons rfl .nil)) (show spA C F [.ref q, .ref q'] H Q E0 from ⟨ι, h, [a, b], r, .cons xa (.cons xb .nil), p.noExc⟩))) (fun w s' z => ?_) fun _ _ x => x
    obtain ⟨z', H', I', rz, qz⟩ := z
    exact SlX.cmpback rz ⟨z', H', I', rz, qz⟩
  · rw [if_neg z] at p; exact p.elim
/-! ### != of nested lists -/
theorem sameF_eq {ι : Nat → Addr} {n : Nat} {H : Hp} {x y : AV} {v u : V} (a : AvR C ι n H x v) (b : AvR C ι n H y u) (e : sameF x y = true) : v = u ∧ flatB v = true := by
  cases a <;> cases b <;> first | (cases e; done) | (have e := eq_of_beq e; subst e; exact ⟨rfl, rfl⟩) | exact ⟨rfl, rfl⟩
theorem sameL_len {f : AV → AV → Bool} : ∀ {xs ys : List AV}, sameL f xs ys = true → xs.length = ys.length
  | [], [], _ => rfl
  | x :: xs, y :: ys, e => by
    unfold sameL at e
    rw [Bool.and_eq_true] at e
    rw [List.length_cons, List.length_cons, sameL_len e.2]
  | [], y :: ys, e => by cases e
  | x :: xs, [], e => by cases e
theorem item_eq {pins : List (Addr × Obj)} {σ : L2.St} {H : Hp} {s : Shared} {ι : Nat → Addr} {h : PA.Heap} (hK : X.K = C.K) (I : Inv X pins σ H s) (r : Rep C ι h H) {A : Around} (hu : A.units + 70 < cLine) {x y : AV} {v u : V} {v' u' : Value} (a : AvR C ι h.length H x v) (b : AvR C ι h.length H y u)
    (rv : RelV v v') (ru : RelV u u') (e : sameV h x y = true) : SeqAt.EqP X.prog X.w A s v' u' true := by
  have flatE : ∀ n {x y : AV} {v u : V}, AvR C ι h.length H x v → AvR C ι h.length H y u → sameF x y = true → EqV X.K H (n + 1) v u := fun n {x y v u} a b e => .inl (sameF_eq a b e)
  unfold sameV at e
  rw [Bool.or_eq_true, Bool.or_eq_true] at e
  rcases e with (e | e) | e
  · exact eqV_run I 1 A (by omega) v u v' u' (flatE 0 a b e) rv ru
  · rw [Bool.and_eq_true, Bool.and_eq_true, decide_eq_true_eq] at e
    obtain ⟨⟨t1, t2⟩, e⟩ := e
    obtain ⟨d, d', d1, d2, s1, s2, ek⟩ := eqA_dp r a b e
    rw [← hK] at d1 d2
    cases a with
    | @tup qa xs vs ta va =>
      cases b with
      | @tup qb ys us tb ub =>
        cases (show v' = Value.ref qa from rv)
        cases (show u' = Value.ref qb from ru)
        by_cases z : qa = qb
        · subst z
          exact (SeqAt.EqAt.same _).eqP
        · obtain ⟨as, r1⟩ := Dp.reads I d _ _ d1 rv
          obtain ⟨bs, r2⟩ := Dp.reads I d' _ _ d2 ru
          exact SeqAt.eqP_refs z fun E Q q => SeqAt.compareEq_shaped r1 r2 s1 s2 (by omega) (by rw [← ek]; exact q)
      | _ => cases t2
    | _ => cases t1
  · cases e1 : dctU h x with
    | none => rw [e1] at e; cases e
    | some ks =>
      cases e2 : dctU h y with
      | none => rw [e1, e2] at e; cases e
      | some ls =>
        rw [e1, e2] at e
        dsimp only at e
        obtain ⟨qa, ka, rfl, ha, ra⟩ := dctU_of r a e1
        obtain ⟨qb, kb, rfl, hb, rb⟩ := dctU_of r b e2
        unfold sameKvs at e
        rw [Bool.and_eq_true, decide_eq_true_eq, List.all_eq_true] at e
        obtain ⟨zl, za⟩ := e
        refine eqV_run I 2 A (by omega) _ _ v' u' (.inr (.inr (.inr ⟨qa, qb, ka, kb, rfl, rfl, ha, hb, by rw [← ra.length, ← rb.length]; exact zl, fun p hp => ?_⟩))) rv ru
        obtain ⟨a, x, kk, xv, pa⟩ := ksR_all ra (P := fun a x => (match dGet ls a with
          | some v => eqF v x && (match v, x with
            | .str _, .str _ => true
            | .int _, .int _ => true
            | _, _ => false)
          | none => false) = true) za p hp
        rcases rb.get kk with ⟨g1, g2⟩ | ⟨y, w, g1, g2, g3⟩
        · rw [g1] at pa; cases pa
        · rw [g1] at pa
          dsimp only at pa
          rw [Bool.and_eq_true] at pa
          obtain ⟨p1, p2⟩ := pa
          refine ⟨w, g2, ?_⟩
          generalize p.2 = p2v at xv
          cases g3 with
          | str s1 =>
            cases xv with
            | str s2 =>
              have : s1 = s2 := eq_of_beq p1
              subst this
              exact .inl ⟨rfl, rfl⟩
            | _ => cases p2
          | int s1 =>
            cases xv with
            | int s2 =>
              have : s1 = s2 := eq_of_beq p1
              subst this
              exact .inl ⟨rfl, rfl⟩
            | _ => cases p2
          | _ => cases xv <;> cases p2
theorem items_eq {pins : List (Addr × Obj)} {σ : L2.St} {H : Hp} {s : Shared} {ι : Nat → Addr} {h : PA.Heap} (hK : X.K = C.K) (I : Inv X pins σ H s) (r : Rep C ι h H) {A : Around} (hu : A.units + 70 < cLine) : ∀ {xs ys : List AV} {vs us : List V} {its jts : List Value}, AvRs C ι h.length H xs vs → AvRs C ι h.length H ys us →
    sameL (sameV h) xs ys = true → Vals vs its → Vals us jts → ∀ k (a : k < its.length) (b : k < jts.length), SeqAt.EqP X.prog X.w A s its[k] jts[k] true
  | _, _, _, _, _, _, .nil, .nil, _, .nil, _, k, a, _ => absurd a (Nat.not_lt_zero k)
  | _, _, _, _, _, _, .cons a b, .cons c d, e, .cons r1 r2, .cons q1 q2, k, la, lb => by
    unfold sameL at e
    rw [Bool.and_eq_true] at e
    cases k with
    | zero => exact item_eq hK I r hu a c r1 q1 e.1
    | succ k => exact items_eq hK I r hu b d e.2 r2 q2 k (Nat.lt_of_succ_lt_succ la) (Nat.lt_of_succ_lt_succ lb)
  | _, _, _, _, _, _, .nil, .cons c d, e, _, _, _, _, _ => by cases e
  | _, _, _, _, _, _, .cons a b, .nil, e, _, _, _, _, _ => by cases e
theorem op_neV (g : Gd C X j) (hu : X.A.units + 80 < cLine) : OpA C X (compareOp .NotEq) oNeV := by
  intro pins s σ H x y v u Q I rx ry ⟨ι, h, a, b, W, r, xa, xb, p⟩
  unfold oNeV at p
  cases xa with
  | @loc l hl =>
    cases xb with
    | @loc m hm =>
      dsimp only at p
      cases e1 : h[l]? with
      | none => rw [e1] at p; exact p.elim
      | some o1 =>
        cases e2 : h[m]? with
        | none => rw [e1, e2] at p; cases o1 <;> exact p.elim
        | some o2 =>
          rw [e1, e2] at p
          cases o1 with
          | lst xs =>
            cases o2 with
            | lst ys =>
              dsimp only at p
              by_cases z : sameL (sameV h) xs ys = true
              · rw [if_pos z] at p
                obtain ⟨vs, hv, av⟩ := lst_at r e1
                obtain ⟨us, hw, aw⟩ := lst_at r e2
                cases (show v = Value.ref (ι l) from rx)
                cases (show u = Value.ref (ι m) from ry)
                obtain ⟨its, i1, i2, _⟩ := I.list (SqL.of hv)
                obtain ⟨jts, j1, j2, _⟩ := I.list (SqL.of hw)
                have len : its.length = jts.length := by rw [← i1.length, ← j1.length, ← av.length, ← aw.length]; exact sameL_len z
                show wpAny _ _ (richCompare .NotEq (.ref (ι l)) (.ref (ι m))) _ _ s
                refine SeqAt.pl_ne i2.isList j2.isList (by simpa using len) (by omega) (fun k a b => ?_) _ _ ⟨.bl false, H, I, rfl, p ι H _ Ext.refl r (.bl _)⟩
                have q := items_eq g.hK I r (A := X.A.in1) (by show X.A.units + 1 + 70 < cLine; omega) av aw z i1 j1 k (by simpa using a) (by simpa using b)
                simpa using q
              · rw [if_neg z] at p; exact p.elim
            | _ => exact p.elim
          | _ => cases o2 <;> exact p.elim
    | _ => exact p.elim
  | _ => cases xb <;> exact p.elim
end
end PL
set_option maxRecDepth 100000
set_option maxHeartbeats 2000000
/-! Lift29: o.m(x, ..) of a slotted class. -/
namespace PL
open PySem PySem.Spec PyProof.Rows L2 PA
section
variable {C : Cz} {X : Cx} {j k : Nat}
theorem re_methS {c : String} {m : Str} {F : FF} {o e : Expr} {es : List Expr} {mo : EE} {l : LL} {apos pos : Pos} {pl : Sem Bool} (g : Gd C X j) (M : MetS C k c m F) (ho : RE C X o mo) (hl : RL C X (e :: es) l) (hk : k ≤ j := by decide)
    (hst : starEach (e :: es) X.env = (false, eval e X.env) :: starEach es X.env := by rfl) (hpl : (backTo pos (starEach es X.env)).any (·.1) = false := by rfl)
    (ht : eval (.Call (.Attribute o m apos) (e :: es) [] pos) X.env = (do
      let ov ← eval o X.env
      standAt apos.atName
      let (f, first) ← holding [ov] (getMethod ov m pl)
      callWith pos f first (backTo pos (starEach (e :: es) X.env)) (backToKw pos (keywordEach [] X.env))) := by rfl) :
    RE C X (.Call (.Attribute o m apos) (e :: es) [] pos) (eMethS c F mo l) := fun W tk => by
  obtain ⟨f, fd, ps, names, fn, hc, hm, hb, us⟩ := M.ex
  unfold FnA at fn
  rw [← g.hP, ← g.hw, ← g.hK, ← g.hm, ← g.hb] at fn
  rw [← g.hK] at hc hm hb
  refine ⟨fun pins s σ H Q I q => ?_⟩
  obtain ⟨ι, h, ρ, r, en, p⟩ := q
  refine PySem.W.methodCall_KW (pl := pl) (thn ((ho W tk).run pins s σ H _ I ⟨ι, h, ρ, r, en, GPost.bnd (R := AvR C) p⟩) fun u s1 ⟨x, H1, I1, rx, ι1, h1, a, r1, e1, x1, p1⟩ => ?_) ht
  by_cases z : isIns c h1 a = true
  · rw [if_pos z] at p1
    obtain ⟨q, dx, vs, rfl, st⟩ := isIns_sl us r1 x1 z
    obtain rfl : u = Value.ref q := rx
    refine SlX.getmethsl_ok I1 st hc hm ?_
    refine PySem.W.callWith_K (first := [.ref q]) (h₀ := X.base) I.ok.mod.kin hm.kp (thn ((hl W tk).run pos pins s1 σ H1 _ I1 ⟨ι1, h1, ρ, r1, en.ext r e1, GPost.bnd (R := AvRs C) p1⟩) fun us s2 ⟨vs, H2, I2, r2', ι2, h2, as, r2, e2, x2, p2⟩ => ⟨I2.kIn, ?_⟩) hst hpl
    exact run_fnS (us := .ref q :: us) (vs := .ref q :: vs) (E := WE W) fn (g.room.mono hk) hb (passAt tk σ) I2 (.cons rfl r2') ⟨ι2, h2, a :: as, r2, .cons (r1.av e2 x1) x2, p2⟩
  · rw [if_neg z] at p1; exact p1.elim
/-! ### == of dicts of texts -/
theorem hits_ok {A : Around} {s : Shared} {ι : Nat → Addr} {n : Nat} {H : Hp} {ys : List (AV × AV)} {ls : List (Key × V)} (rb : KsR C ι n H ys ls) {vb : List (Key × Value)} (kb : KV ls vb) {xs : List (AV × AV)} {ks : List (Key × V)} (ra : KsR C ι n H xs ks) : ∀ {va : List (Key × Value)} {b : Bool}, KV ks va → hitsA ys xs = some b →
    PySem.W.KeqHitsP X.prog X.w A s vb va b := by
  have one : ∀ {a x : AV} {k : Key} {v : V} {xs : List (AV × AV)} {ks : List (Key × V)}, KR a k → AvR C ι n H x v → (∀ {va : List (Key × Value)} {b : Bool}, KV ks va → hitsA ys xs = some b → PySem.W.KeqHitsP X.prog X.w A s vb va b) →
      ∀ {va : List (Key × Value)} {b : Bool}, KV ((k, v) :: ks) va → hitsA ys ((a, x) :: xs) = some b → PySem.W.KeqHitsP X.prog X.w A s vb va b := by
    intro a x k v xs ks kk xv ih va b kv e
    unfold KV at kv
    cases kv with
    | @cons p q ps qs h t =>
      obtain ⟨q1, q2⟩ := q
      obtain ⟨h1, h2⟩ := h
      have h1' : k = q1 := h1
      subst h1'
      unfold hitsA at e
      rcases rb.get kk with ⟨g1, g2⟩ | ⟨y, w, g1, g2, g3⟩
      · rw [g1] at e
        cases e
        have := kb.val k
        rw [g2] at this
        refine .miss ?_
        cases z : valueAt vb k with
        | none => rfl
        | some u => rw [z] at this; exact this.elim
      · rw [g1] at e
        dsimp only at e
        have rr : RelO (some w) (valueAt vb k) := by rw [← g2]; exact kb.val k
        obtain ⟨u, hu, ru⟩ := rr.some_of
        cases xv with
        | str s1 =>
          cases g3 with
          | str s2 =>
            dsimp only at e
            cases z : hitsA ys xs with
            | none => rw [z] at e; cases e
            | some b2 =>
              rw [z] at e
              cases e
              obtain ⟨t1, rfl⟩ : ∃ t1, q2 = Value.str s1 t1 := h2
              obtain ⟨t2, rfl⟩ : ∃ t2, u = Value.str s2 t2 := ru
              exact .hit hu (SeqAt.EqAt.str_str s1 t1 s2 t2).eqP (ih t z)
          | _ => cases e
        | _ => cases g3 <;> cases e
  induction ra with
  | nil =>
    intro va b kv e
    unfold KV at kv
    cases kv
    cases e
    exact .nil
  | int xv _ ih => exact one (.int _) xv ih
  | str xv _ ih => exact one (.str _) xv ih
theorem op_eqDs (g : Gd C X j) : OpA C X (compareOp .Eq) oEqDs := by
  intro pins s σ H x y v u Q I rx ry ⟨ι, h, a, b, W, r, xa, xb, p⟩
  unfold oEqDs at p
  cases e1 : dctU h a with
  | none => rw [e1] at p; exact p.elim
  | some xs =>
    rw [e1] at p
    cases e2 : dctU h b with
    | none => rw [e2] at p; exact p.elim
    | some ys =>
      rw [e2] at p
      dsimp only at p
      cases e3 : hitsA ys xs with
      | none => rw [e3] at p; exact p.elim
      | some k =>
        rw [e3] at p
        dsimp only at p
        obtain ⟨qa, ks, rfl, hk, kr⟩ := dctU_of r xa e1
        obtain ⟨qb, ls, rfl, hl, lr⟩ := dctU_of r xb e2
        cases (show v = Value.ref qa from rx)
        cases (show u = Value.ref qb from ry)
        obtain ⟨_, ya, va, ra, da⟩ := (show ObjOk X.prog X.w H s.heap qa (.dK ks) from I.hok qa _ hk)
        obtain ⟨_, yb, vb, rb, db⟩ := (show ObjOk X.prog X.w H s.heap qb (.dK ls) from I.hok qb _ hl)
        show wpAny _ _ (richCompare .Eq (.ref qa) (.ref qb)) _ _ s
        refine PySem.W.rcP_dicts (knd := mixKind X.prog X.w) (r := k) ya yb da db g.room.units0 (fun _ => hits_ok lr rb kr ra e3) _ _ ?_
        have e : (va.length == vb.length && k) = (xs.length == ys.length && k) := by
          have l1 : ks.length = va.length := ra.length
          have l2 : ls.length = vb.length := rb.length
          rw [← l1, ← l2, ← kr.length, ← lr.length]
        rw [e]
        exact ⟨.bl (xs.length == ys.length && k), H, I, rfl, p ι H _ Ext.refl r (.bl _)⟩
end
end PL
set_option maxRecDepth 100000
set_option maxHeartbeats 4000000
/-! Hot1: a list comprehension where an error is handled; defs called there with the error; errors whose context is none. -/
namespace PL
open PySem PySem.Spec PyProof.Rows L2 PA
/-! ### a comprehension where an error is handled -/
/-- the block's context, the pins kept -/
abbrev blkH (X : Cx) (z : Shared) (H : Hp) (sc : Scope) (ce : PySem.Env) (fq : List Addr) : Cx := (X.blk z H sc ce fq).tr X.pn (fun _ _ => False)
theorem inv_repin {Y : Cx} {σ : L2.St} {H : Hp} {z : Shared} {pz : List (Addr × Obj)} {xf : Value → Shared → Prop} (J : Inv Y [] σ H z)
    (hp : ∀ p ∈ pz, z.heap.get? p.1 = some p.2 ∧ H p.1 = none ∧ p.1 ≠ Y.env.locals ∧ p.1 ∉ Y.fs ∧ ∀ v, p.2.data ≠ .cell v) : Inv (Y.tr pz xf) [] σ H z :=
  ⟨J.ok.toTry _ _, J.os, J.bare, J.base, J.loc, J.cell, J.free, J.freeC, fun p q => hp p (by rw [List.append_nil] at q; exact q), J.hok, J.len⟩
section
variable {X : Cx}
theorem pe_lcHot {el tgt src : Expr} {cs : List Expr} {sc : Scope} {own : List (Str × Nat)} {q0 : Pos} {wi : TI} {g : TG} {tt : TT} {te : TE} (hot : L2H.HotC X) (nd : X.N.Nodup) (hi : L2H.PIH X tgt src wi) (bk : BlkOk X.N X.env.scope sc own)
    (hg : ∀ (z : Shared) (H : Hp) (C : Addr) (cl : List (Str × Addr)) (fq : List Addr), PG (blkH X z H sc (compEnvC sc cl C X.env) fq) tgt g)
    (ht : ∀ (z : Shared) (H : Hp) (C : Addr) (cl : List (Str × Addr)) (fq : List Addr), PTs (blkH X z H sc (compEnvC sc cl C X.env) fq) cs tt)
    (he : ∀ (z : Shared) (H : Hp) (C : Addr) (cl : List (Str × Addr)) (fq : List Addr), PE (blkH X z H sc (compEnvC sc cl C X.env) fq) el te) (hf : ∀ x, foldedSetIterable src X.env x = pure x := by intro _; rfl) :
    PE X (.ListComp el [⟨tgt, src, cs, 0⟩] sc q0) (tLc wi g tt te (own.map (·.2))) := by
  refine ⟨fun pz z0 σ Ha Q Ja wish => ?_⟩
  rw [eval_ListComp]
  -- every captured name has its cell
  have caught : ∀ y ∈ sc.names, y.2 = .free → ∃ c, X.env.cells.lookup y.1 = some c := fun y hy e => Ja.ok.has _ (bk.free y hy e)
  refine wpAny_comprehension_free (use := none) rfl hf (closure_ok caught) bk.kind (fun y hy e => (bk.uniq y hy).trans (congrArg some e)) (thn (hi.run pz z0 σ Ha _ Ja wish) fun _ z1 w1 => thn w1 fun iv z2 w2 => ?_)
  obtain ⟨it, fq, tn, Wk, Hb, ev, Jb, Tn, sb, okf, rest⟩ := w2
  subst ev
  refine wpAny_newObj_type (newEnv_comp ?_) (Nat.zero_le _)
  -- the list that is made
  generalize eD : z2.heap.objs.size = D
  have freeD : Hb D = none := Jb.hok.fresh (by rw [eD]; exact Nat.le_refl _)
  obtain ⟨W, ⟨m0, start⟩, turn⟩ := rest D freeD
  generalize ez3 : ({ z2 with heap := z2.heap.push { cls := .type "list", data := .seq ([] : List Value).toArray } } : Shared) = z3
  have hz3 : z3.heap = z2.heap.push { cls := .type "list", data := .seq ([] : List Value).toArray } := by rw [← ez3]
  have Jc : Inv X pz σ (upd Hb D (.lst [])) z3 := by
    rw [← ez3]
    refine Jb.laid (t' := z2.toks) (fun b o e => Heap.get?_push_of_some _ e) (by rw [eD]; exact Nat.le_refl _) ⟨Nat.zero_le _, [], 0, .nil, ?_⟩
    rw [← eD]
    exact Heap.get?_push_size _ rfl
  have below : ∀ b ∈ fq, b < z2.heap.objs.size := fun b hb => (Tn.obj _ _ sb b hb).elim fun o e => Heap.lt_size e.1
  have okc : ∀ b ∈ fq, FpOk X pz (upd Hb D (.lst [])) b ∧ b < z3.heap.objs.size := fun b hb => by
    have lt := below b hb
    refine ⟨⟨?_, (okf b hb).2⟩, by rw [hz3, Heap.size_push]; exact Nat.lt_succ_of_lt lt⟩
    rw [upd_ne (by rw [← eD]; exact Nat.ne_of_lt lt)]
    exact (okf b hb).1
  have sc3 : tn 0 z3.heap := Tn.keep _ _ _ sb fun b _ o e => by rw [hz3]; exact Heap.get?_push_of_some _ e
  have Jd := block_start Jc bk nd okc
  generalize ecl : cellsFrom (z3.heap.objs.size + 1) sc.names (cloFrom X.env.cells sc.names []) = cl at Jd ⊢
  have pg := hg z3 (upd Hb D (.lst [])) z3.heap.objs.size cl fq
  have pt := ht z3 (upd Hb D (.lst [])) z3.heap.objs.size cl fq
  have pe := he z3 (upd Hb D (.lst [])) z3.heap.objs.size cl fq
  have noH : ∀ b ∈ fq, (upd Hb D (.lst [])) b = none := fun b hb => (okc b hb).1.1
  show codeAny _ _ (.compStart _ 0 (.ref it) (.ref D) (compEnvC sc cl z3.heap.objs.size X.env)) (compPost (model X.prog X.w) X.A X.xe none _ (.ref D) z3.heap.objs.size) { z3 with heap := pushCells (z3.heap.push { cls := .type "dict", data := .dict #[] }) sc.names }
  generalize ece : compEnvC sc cl z3.heap.objs.size X.env = ce at Jd pg pt pe ⊢
  have ceL : ce.locals = z3.heap.objs.size := by subst ece; rfl
  generalize eHc : upd Hb D (.lst []) = Hc at Jc Jd pg pt pe start noH okc
  have kept3 : ∀ b o, z3.heap.get? b = some o → (pushCells (z3.heap.push { cls := .type "dict", data := .dict #[] }) sc.names).get? b = some o := fun b o e => pushCells_keeps _ _ _ _ (Heap.get?_push_of_some _ e)
  -- the pins stand in the block, too
  have Je : Inv (blkH X z3 Hc sc ce fq) [] (L2.wipe σ (own.map (·.2))) Hc { z3 with heap := pushCells (z3.heap.push { cls := .type "dict", data := .dict #[] }) sc.names } := inv_repin Jd fun p hp => by
    obtain ⟨p1, p2, p3, p4, p5⟩ := Jc.pin p (List.mem_append_left _ hp)
    refine ⟨kept3 _ _ p1, p2, ?_, fun hm => ?_, p5⟩
    · show p.1 ≠ ce.locals
      rw [ceL]; exact Nat.ne_of_lt (Heap.lt_size p1)
    · rcases List.mem_cons.mp (Jc.stkSub p.1 hm) with e | e
      · exact p3 e
      · exact p4 e
  have hotB : L2H.HotC (blkH X z3 Hc sc ce fq) := hot.elim fun p hp => ⟨p, hp.1, hp.2⟩
  have sc4 : tn 0 (pushCells (z3.heap.push { cls := .type "dict", data := .dict #[] }) sc.names) := Tn.keep _ _ _ sc3 fun b _ o e => kept3 b o e
  have stay : ∀ {τ : L2.St} {Hx : Hp} {zx : Shared}, Inv (blkH X z3 Hc sc ce fq) [] τ Hx zx → (∀ b ∈ fq, Hx b = none) → ∀ b ∈ fq, FpOk (blkH X z3 Hc sc ce fq) [] Hx b := fun {τ Hx zx} Jx nx b hb =>
    ⟨nx b hb, (Jx.ok.exf b hb).1, Jx.ok.exfs b hb, .inl hb, fun x c e => (Jx.ok.exf b hb).2 x c e, fun p hp => by
      rw [List.append_nil] at hp
      exact (okc b hb).1.2.2.2.2.2 p (List.mem_append_left _ hp)⟩
  have loop : codeAny (model X.prog X.w) X.A (.compLoop (.ListComp el [⟨tgt, src, cs, 0⟩] sc q0) 0 (.ref it) (.ref D) ce) (compPost (model X.prog X.w) X.A X.xe none (EP X pz σ Q) (.ref D) z3.heap.objs.size) { z3 with heap := pushCells (z3.heap.push { cls := .type "dict", data := .dict #[] }) sc.names } := by
    refine compLoop_any (fun m zx => ∃ k Hx, Inv (blkH X z3 Hc sc ce fq) [] (L2.wipe σ (own.map (·.2))) Hx zx ∧ tn k zx.heap ∧ (∀ b ∈ fq, Hx b = none) ∧ W k m Hx) ?_ m0 ⟨0, Hc, Je, sc4, noH, start⟩
    rintro m zx ⟨k, Hx, Jx, sx, nx, wx⟩
    rcases turn k m Hx wx with ⟨halt, done⟩ | ⟨go, Nx, next, step⟩
    · refine thnF (Tn.done (blkH X z3 Hc sc ce fq) rfl rfl rfl hotB k [] zx _ Hx (fun _ _ => False) Jx (stay Jx nx) sx halt) fun r zy ⟨er, Jy⟩ => ?_
      subst er
      -- behind the block
      have back : Inv X pz σ Hx zy := Jc.call' (ch := fq) Jy.os Jy.base Jy.hok Jy.bare fun b hb => ⟨(okc b hb).1.2.2.2.1, (okc b hb).1.2.1, (okc b hb).1.2.2.2.2.1, (okc b hb).1.2.2.2.2.2⟩
      have noC : Hx z3.heap.objs.size = none := by
        have e : Hx ce.locals = none := Jy.free
        rwa [ceL] at e
      obtain ⟨ns, hns, _⟩ := Jy.loc
      have hns : zy.heap.Ns ce.locals ns := hns
      rw [ceL] at hns
      refine ⟨ns, hns, fun hq sm => ?_⟩
      obtain ⟨f0, f1, f2, f3, f4, f5⟩ := Jc.fpOk (Nat.le_refl _) noC
      exact ⟨.ref D, Hx, back.turned (t' := zy.toks) (fun b o nb e => (sm.2 b nb).trans e) f0 f1 f3 f4 f5, rfl, done⟩
    · refine thnF (Tn.item (blkH X z3 Hc sc ce fq) rfl rfl rfl hotB k [] zx _ Hx (fun _ _ => False) Jx (stay Jx nx) sx go) fun r zy ⟨u, er, wy⟩ => ?_
      subst er
      refine thnF wy fun _ zu ⟨x, Hu, Ju, ru, yu, su, nu⟩ => ?_
      have Jp := Ju.pinned (stay Ju nu) (Tn.obj _ _ su)
      refine thnF (pg.run _ zu _ Hu x u _ Jp ru (step x Hu yu)) fun _ zv ⟨τ, Hv, Jv, ew, wv⟩ => ?_
      refine thnF (pt.run _ zv τ Hv _ Jv wv) fun b zt ⟨Ht, Jt, wt⟩ => ?_
      have close : ∀ {ze : Shared} {He : Hp}, Inv (blkH X z3 Hc sc ce fq) ([] ++ pinsAt fq zu.heap) τ He ze → Nx He → ∃ n, n < m ∧ ∃ k Hx, Inv (blkH X z3 Hc sc ce fq) [] (L2.wipe σ (own.map (·.2))) Hx ze ∧ tn k ze.heap ∧ (∀ b ∈ fq, Hx b = none) ∧ W k n Hx := fun {ze He} Jz ne => by
        obtain ⟨n, less, again⟩ := next He ne
        have pinned : ∀ b ∈ fq, ∀ o, zu.heap.get? b = some o → ze.heap.get? b = some o ∧ He b = none := fun b hb o e => by
          obtain ⟨a1, a2, _⟩ := Jz.pin (b, o) (List.mem_append_right _ (List.mem_append_right _ (mem_pinsAt hb e)))
          exact ⟨a1, a2⟩
        have len : (L2.wipe σ (own.map (·.2))).length = τ.length := by rw [← ew, wipe_length]
        refine ⟨n, less, k + 1, He, (Jz.unpinned (pins := [])).weak len (fun i v e => ?_), Tn.keep _ _ _ su fun b hb o e => (pinned b hb o e).1, fun b hb => ?_, again⟩
        · rw [← ew] at e
          exact (wipe_some e).1
        · obtain ⟨o, e, _⟩ := Tn.obj _ _ su b hb
          exact (pinned b hb o e).2
      cases b with
      | false =>
        simp only [Bool.false_eq_true, if_false] at wt ⊢
        exact close Jt wt
      | true =>
        simp only [if_true] at wt ⊢
        exact thnF (pe.run _ zt τ Ht _ Jt wt) fun u zl ⟨y, Hl, Jl, rl, acc, eL, fits, ne⟩ => app_ok (X := blkH X z3 Hc sc ce fq) Jl eL fits rl fun ze Jz => close Jz ne
  exact codeAny_compStart_list loop (Tn.self X.A 0 _ _ _ sc4 loop)
end
section
variable {C : Cz} {X : Cx} {j : Nat}
def RIH (C : Cz) (X : Cx) (tg iter : Expr) (m : II) : Prop := ∀ W, Takes X W → L2H.PIH X tg iter (tI C m W)
theorem ri_range0H {tg a : Expr} {m : EE} {p pos : Pos} (hmg : X.mg "range" = none) (ha : RE C X a m) (hg : Gl X "range" := by rfl) (hs : starEach [a] X.env = [(false, eval a X.env)] := by rfl) : RIH C X tg (.Call (.Name "range" p) [a] [] pos) (iRange0 m) := fun W tk => by
  have key := L2H.pi_range1H (tg := tg) (p := p) (pos := pos) hg hmg (pa_cons (ha W tk) pa_nil hs) hs
  refine ⟨fun pz z σ H R I ⟨ι, h, ρ, r, en, w⟩ => key.run pz z σ H R I ⟨ι, h, ρ, r, en, (GPost.bnd (R := AvR C) w).mono fun x H1 ⟨ι1, h1, a, r1, e1, x1, w1⟩ => ?_⟩⟩
  cases x1 with
  | int i =>
    dsimp only at w1
    by_cases z : -(2 ^ 62) ≤ i ∧ i < 2 ^ 62
    · rw [if_pos z] at w1
      have q := range_ok (C := C) (ι1 := ι1) (n1 := h1.length) (H1 := H1) (lo := 0) (hi := i)
      rw [Int.sub_zero] at q
      exact ⟨i, rfl, z.1, z.2, w1 ι1 H1 _ Ext.refl r1 q⟩
    · rw [if_neg z] at w1; exact w1.elim
  | _ => exact w1.elim
theorem rm_lcH {el tg iter : Expr} {cs : List Expr} {sc : Scope} {own : List (Str × Nat)} {pos : Pos} {it : II} {g : Tg} {g' : TG} {is : List Nat} {t : BB} {e : EE} (hot : L2H.HotC X) (nd : X.N.Nodup) (hi : RIH C X tg iter it) (ok : BlkOk X.N X.env.scope sc own)
    (hg : ∀ (z : Shared) (H : Hp) (c : Addr) (cl : List (Str × Addr)) (fq : List Addr), RG C (blkH X z H sc (compEnvC sc cl c X.env) fq) tg g g' is)
    (ht : ∀ (z : Shared) (H : Hp) (c : Addr) (cl : List (Str × Addr)) (fq : List Addr), RTs C (blkH X z H sc (compEnvC sc cl c X.env) fq) cs t)
    (he : ∀ (z : Shared) (H : Hp) (c : Addr) (cl : List (Str × Addr)) (fq : List Addr), RE C (blkH X z H sc (compEnvC sc cl c X.env) fq) el e)
    (hin : ∀ i ∈ is, i ∈ own.map (·.2) := by decide) (hf : ∀ x, foldedSetIterable iter X.env x = pure x := by intro _; rfl) :
    RM C X (.ListComp el [⟨tg, iter, cs, 0⟩] sc pos) (lComp it g t e (own.map (·.2))) := fun W tk =>
  PE_imp (pe_lcHot (tt := tT C t WF) (te := tE C e WF) hot nd (hi W tk) ok (fun z H c cl fq => (hg z H c cl fq).pg) (fun z H c cl fq => ht z H c cl fq WF takes0) (fun z H c cl fq => he z H c cl fq WF takes0) hf)
    (lc_imp (hg { } (fun _ => none) 0 [] []).ok hin)
end
end PL
set_option maxRecDepth 100000
set_option maxHeartbeats 4000000
/-! Hot2: defs that are called with the error while it is handled; the expressions of a suite. -/
namespace PL
open PySem PySem.Spec PyProof.Rows L2 PA
/-- the error p stands in the context: handled, its context none -/
structure Gh (C : Cz) (X : Cx) (p : Addr × Obj) (cls : Value) (d : Option Addr) (j : Nat) : Prop where
  hP : X.prog = C.P
  hw : X.w = C.w
  hK : X.K = C.K
  hm : X.mg = C.mg
  hb : X.base = C.base
  nd : X.N.Nodup
  pin : p ∈ X.pn
  hot : L2H.Hot1 X.A p
  hz : Zc cls d p.2
  room : L2H.RoomH j X.A
theorem Gh.hotC {C : Cz} {X : Cx} {p : Addr × Obj} {cls : Value} {d : Option Addr} {j : Nat} (g : Gh C X p cls d j) : L2H.HotC X := ⟨p, g.hot, g.pin⟩
theorem Gh.fields {C : Cz} {X : Cx} {p : Addr × Obj} {cls : Value} {d : Option Addr} {j : Nat} (g : Gh C X p cls d j) : ∃ vs, p.2.data = .fields vs := let ⟨_, vs, e, _⟩ := g.hot; ⟨vs, e⟩
theorem Gh.units {C : Cz} {X : Cx} {p : Addr × Obj} {cls : Value} {d : Option Addr} {j : Nat} (g : Gh C X p cls d j) : X.A.units + 64 < cLine := by have := g.room.un; omega
/-- the values of a def's arguments, the error the last one -/
def rArg (C : Cz) (a : Addr) : RR (List AV) (List V) := fun ι n H as vs => ∃ ws, vs = ws ++ [.ref a] ∧ AvRs C ι n H as ws
def spE (C : Cz) (F : Exc → FF) (n : Nat) (a : Addr) (cls : Value) (d : Option Addr) : Sp := fun vs H Q E => ∃ ι h as ex, Rep C ι h H ∧ rArg C a ι h.length H as vs ∧ as.length + 1 = n ∧ ExR C ι h.length H ex cls d ∧ GPost C (AvR C) ι h H Q E (F ex as h)
/-- a def of the module that takes the handled error as its last argument -/
structure FnE (C : Cz) (k : Nat) (f : Addr) (fd : FuncData) (ps : List Str) (F : Exc → FF) : Prop where
  len : ∀ E vs h, F E vs h ≠ .bad → vs.length + 1 = ps.length
  run : ∀ (A : Around) (outer : List PySem.Env) (s : Shared) (H : Hp) (args : Args) (us : List Value) (vs : List V) (Q : VK) (E : XK) (p : Addr × Obj) (cls : Value) (d : Option Addr), L2H.RoomH k A → L2H.Hot1 A p → L2H.PinOk outer H s p → Zc cls d p.2 →
    Env0 C.P C.w C.K C.mg C.base A outer s H → BindsTo s fd args (ps.zip us) → Vals vs us → spE C F ps.length p.1 cls d vs H Q E → codeAny (model C.P C.w) A (.call (.ref f) args) (CR (L2.CX C.P C.w) outer C.P C.w H s Q E) s
/-- a suite's statements -/
def guardE (P : L2.St → Prop) (D : Ends) : Ends := { nx := fun σ H => P σ → D.nx σ H, rt := D.rt }
def tXP (C : Cz) (cls : Value) (d : Option Addr) (P : L2.St → Prop) (m : Exc → SS) : TS := fun D σ H =>
  ∃ ι h ρ E, Rep C ι h H ∧ EnR C ι h.length H ρ σ ∧ ExR C ι h.length H E cls d ∧ P σ ∧ SPost C ι h H (guardE P D) WF (m E ρ h)
def RX1 (C : Cz) (X : Cx) (cls : Value) (d : Option Addr) (P : L2.St → Prop) (st : Stmt) (m : Exc → SS) : Prop := PS X st (tXP C cls d P m)
def RXs (C : Cz) (X : Cx) (cls : Value) (d : Option Addr) (P : L2.St → Prop) (st : List Stmt) (m : Exc → SS) : Prop := PSs X st (tXP C cls d P m)
/-- slot i holds the error -/
abbrev atE (i : Nat) (a : Addr) : L2.St → Prop := fun σ => σ[i]? = some (some (.ref a))
section
variable {C : Cz} {X : Cx} {p : Addr × Obj} {cls : Value} {d : Option Addr} {j k : Nat}
theorem fn_okE {x qual : Str} {st : Stmt} {f : Addr} {fd : FuncData} {N ps : List Str} {body : Exc → SS} (Fn : L2.Fun C.K x qual st f fd) (S : FnScope N ps (defScope st)) (hps : 1 ≤ ps.length)
    (hbody : ∀ (cdv : Value) (A : Around) (outer : List PySem.Env) (s : Shared) (H : Hp) (E : XK) (p : Addr × Obj) (cls : Value) (d : Option Addr), Gh C (L2H.cxH (L2.CX C.P C.w) C.P C.w C.K C.mg C.base N qual (defScope st) f cdv A outer s H E p) p cls d k →
      RXs C (L2H.cxH (L2.CX C.P C.w) C.P C.w C.K C.mg C.base N qual (defScope st) f cdv A outer s H E p) cls d (atE (ps.length - 1) p.1) (defBody st) body) :
    FnE C (k + 1) f fd ps (runX (ps.length - 1) (N.length - ps.length) body) := by
  obtain ⟨oc, od, kV, doc, pm, an, cdv, ct, osl, rfl, lk, hcd⟩ := Fn.ex
  refine ⟨fun E vs h nb => ?_, fun A outer s H args us vs Q E p cls d hr hot hpin hz e0 hb r hsp => ?_⟩
  · by_cases z : vs.length = ps.length - 1
    · omega
    · exact absurd (if_neg z) nb
  obtain ⟨ι, h, as, ex, rp, ⟨ws, ews, xa⟩, hn, xr, post⟩ := hsp
  have lenV : vs.length = ps.length := by rw [ews, List.length_append, List.length_singleton, ← xa.length]; exact hn
  have kin : C.K.In s.heap := e0.mod.kin.keeps fun b o e => (e0.bs b o e).1
  have noLim : s.heap.NoLimit := e0.mod.nolimit.keeps fun b o e => (e0.bs b o e).1
  have kinds : ∀ y ∈ ps.zip us, (defScope st).names.lookup y.1 = some .local ∨ ((defScope st).names.lookup y.1 = some .cell ∧ ((cellsFrom (s.heap.objs.size + 1) (defScope st).names []).lookup y.1).isSome = true) := by
    rintro ⟨n, v⟩ hy
    have m := (List.of_mem_zip hy).1
    exact (S.par n m).imp (fun q => q) fun q => ⟨q, PySem.W.cellsFrom_some _ _ _ (.inl q)⟩
  refine codeAny_call_function hr.depth (kin _ _ lk) rfl S.co S.gen rfl (PySem.W.codeRec_of kin hcd) (hb _ _ _ _ ?_)
  refine wpAny_newFunctionEnv_cells S.kind kinds fun env0 ee s1 ic => ?_
  subst ee
  refine ⟨noLim.keeps ic.toInCall.keep, codeAny_func ?_⟩
  have J := L2H.inv_startH (CX := L2.CX C.P C.w) (E := E) (f := f) (cd := cdv) (qual := qual) (N := N) S hpin e0 lenV r ic
  have g : Gh C (L2H.cxH (L2.CX C.P C.w) C.P C.w C.K C.mg C.base N qual (defScope st) f cdv A outer s H E p) p cls d k :=
    ⟨rfl, rfl, rfl, rfl, rfl, S.nd, List.mem_singleton.mpr rfl, hot, hz, hr.deeper _⟩
  have hN : ps.length ≤ N.length := by have := congrArg List.length S.pre; rw [List.length_take] at this; omega
  refine wpAny_mono ((hbody cdv A outer s H E p cls d g).run [] s1 (L2.start N vs) H { nx := fun _ H' => Q .non H', rt := Q } J ⟨ι, h, as.map some ++ none :: List.replicate (N.length - ps.length) none, ex, rp, ?_, xr, ?_, ?_⟩) (fun fl s' q => ?_) fun e s' q => q
  · -- the slots
    unfold L2.start
    have en := xa.mapSome (m := N.length - as.length)
    have e1 : ws.map some ++ List.replicate (N.length - as.length) (none : Option V) = ws.map some ++ none :: List.replicate (N.length - ps.length) none := by
      rw [show N.length - as.length = (N.length - ps.length) + 1 by omega, List.replicate_succ]
    have e2 : as.map some ++ List.replicate (N.length - as.length) (none : Option AV) = as.map some ++ none :: List.replicate (N.length - ps.length) none := by
      rw [show N.length - as.length = (N.length - ps.length) + 1 by omega, List.replicate_succ]
    rw [e2] at en
    rw [ews, List.map_append, List.append_assoc]
    refine ⟨?_, fun i a e => ?_⟩
    · have l1 := xa.length
      simp only [List.length_append, List.length_map, List.length_cons, List.length_replicate, List.length_nil, l1]
      omega
    · have hi : i < as.length := by
        by_cases z : i < as.length
        · exact z
        · rw [List.getElem?_append_right (by simpa using Nat.le_of_not_lt z)] at e
          cases q : i - (as.map some).length with
          | zero => rw [q] at e; simp at e
          | succ m =>
            rw [q] at e
            simp only [List.getElem?_cons_succ, List.getElem?_replicate] at e
            split at e <;> cases e
      obtain ⟨v, h1, h2⟩ := en.2 i a e
      refine ⟨v, ?_, h2⟩
      rw [e1] at h1
      rw [List.getElem?_append_left (by rw [List.length_map, ← xa.length]; exact hi)] at h1 ⊢
      exact h1
  · -- the error's slot
    show (L2.start N vs)[ps.length - 1]? = some (some (.ref p.1))
    unfold L2.start
    have e : ps.length - 1 = ws.length := by rw [← xa.length]; omega
    rw [e, ews, List.map_append, List.append_assoc, List.getElem?_append_right (by simp)]
    simp
  · -- the body
    have z : as.length = ps.length - 1 := by omega
    unfold runX at post
    rw [if_pos z] at post
    cases e : body ex (as.map some ++ none :: List.replicate (N.length - ps.length) none) h with
    | nx ρ' h' => rw [e] at post; exact fun ι1 H1 σ1 e1 r1 en1 _ => post ι1 H1 .non e1 r1 .non
    | ret v h' => rw [e] at post; exact post
    | exc e' ρ' h' => rw [e] at post; exact post.elim
    | brk ρ' h' => rw [e] at post; exact post.elim
    | ct ρ' h' => rw [e] at post; exact post.elim
    | bad => rw [e] at post; exact post.elim
  · cases fl with
    | ret u =>
      obtain ⟨v, σ', H', I', rv, q⟩ := q
      exact ⟨v, H', I'.os, I'.bare, I'.base, I'.hok, rv, q⟩
    | next =>
      obtain ⟨σ', H', I', q⟩ := q
      exact ⟨.non, H', I'.os, I'.bare, I'.base, I'.hok, rfl, q⟩
    | brk => obtain ⟨_, _, _, q⟩ := q; exact q.elim
    | cont => obtain ⟨_, _, _, q⟩ := q; exact q.elim
end
end PL
set_option maxRecDepth 100000
set_option maxHeartbeats 4000000
/-! Hot3: the rules of a suite's expressions and statements. -/
namespace PL
open PySem PySem.Spec PyProof.Rows L2 PA
structure CalE (C : Cz) (k : Nat) (x : Str) (F : Exc → FF) : Prop where
  ex : ∃ f fd ps, FnE C k f fd ps F ∧ C.mg x = some (.ref f) ∧ PySem.W.keepIn C.K (.ref f) = true ∧ Binds C.K fd ps []
section
variable {C : Cz} {X : Cx} {p : Addr × Obj} {cls : Value} {d : Option Addr} {j k : Nat} {P : L2.St → Prop}
/-! ### arguments -/
def tXA (C : Cz) (cls : Value) (d : Option Addr) (P : L2.St → Prop) (a : Addr) (l : LL) (W : WX) : TA := fun σ H Q =>
  ∃ ι h ρ E, Rep C ι h H ∧ EnR C ι h.length H ρ σ ∧ ExR C ι h.length H E cls d ∧ P σ ∧ GPost C (rArg C a) ι h H Q (fun c d H' => W c d σ H') (l ρ h)
def RXA (C : Cz) (X : Cx) (cls : Value) (d : Option Addr) (P : L2.St → Prop) (a : Addr) (es : List Expr) (l : LL) : Prop := ∀ W, Takes X W → PA X es (tXA C cls d P a l W)
theorem rxa_e {i : Nat} {n : Str} {a : Addr} {p0 : Pos} (hP : ∀ σ, P σ → σ[i]? = some (some (.ref a))) (hN : X.N[i]? = some n := by rfl) (hv : Vis X.env.scope n := by first | exact Or.inl rfl | exact Or.inr (Or.inl rfl) | exact Or.inr (Or.inr rfl)) (hd : (n == ("__debug__" : Str)) = false := by decide)
    (hcd : (n == ("__classdict__" : Str)) = false := by decide) (hs : starEach [.Name n p0] X.env = (false, eval (.Name n p0) X.env) :: starEach [] X.env := by rfl) : RXA C X cls d P a [.Name n p0] lNil := fun W tk =>
  PA_imp (pa_cons (pv i hN hv hd hcd) pa_nil hs) fun σ H Q ⟨ι, h, ρ, E, r, en, x, hp, w⟩ => ⟨.ref a, hP σ hp, w ι H [.ref a] Ext.refl r ⟨[], rfl, .nil⟩⟩
theorem rxa_cons {e : Expr} {es : List Expr} {a : Addr} {m : EE} {l : LL} (he : RE C X e m) (hl : RXA C X cls d P a es l) (hs : starEach (e :: es) X.env = (false, eval e X.env) :: starEach es X.env := by rfl) : RXA C X cls d P a (e :: es) (lCons m l) := fun W tk =>
  PA_imp (pa_cons (he W tk) (hl W tk) hs) fun σ H Q ⟨ι, h, ρ, E, r, en, x, hp, w⟩ =>
    ⟨ι, h, ρ, r, en, (GPost.bnd (R := AvR C) w).mono fun v H1 ⟨ι1, h1, b, r1, e1, x1, w1⟩ =>
      ⟨ι1, h1, ρ, E, r1, en.ext r e1, x.ext r e1, hp, (GPost.bnd (R := rArg C a) w1).mono fun ys H2 ⟨ι2, h2, as, r2, e2, ⟨ws, ey, x2⟩, w2⟩ => by
        subst ey
        exact w2 ι2 H2 (v :: (ws ++ [.ref a])) Ext.refl r2 ⟨v :: ws, rfl, .cons (r1.av e2 x1) x2⟩⟩⟩
theorem rx_callE {i : Nat} {x : Str} {F : Exc → FF} {e : Expr} {es : List Expr} {l : LL} {q0 pos : Pos} (g : Gh C X p cls d j) (c : CalE C k x F) (hl : RXA C X cls d (atE i p.1) p.1 (e :: es) l) (hk : k ≤ j := by decide) (hgl : Gl X x := by rfl) (hdb : (x == ("__debug__" : Str)) = false := by decide)
    (he : starEach (e :: es) X.env = (false, eval e X.env) :: starEach es X.env := by rfl) (hpl : (backTo pos (starEach es X.env)).any (·.1) = false := by rfl) :
    RX C X cls d (atE i p.1) (.Call (.Name x q0) (e :: es) [] pos) (xCall F l) := fun W tk => by
  obtain ⟨f, fd, ps, fn, hm, hkp, hb⟩ := c.ex
  rw [← g.hm] at hm
  rw [← g.hK] at hkp hb
  refine ⟨fun pz z σ H Q I ⟨ι, h, ρ, E, r, en, xr, hp, w⟩ => ?_⟩
  refine wpAny_Call_Name_kw (ld_glob I hgl hm ?_ hdb)
  refine PySem.W.callWith_K (h₀ := X.base) I.ok.mod.kin hkp (thn ((hl W tk).run pos pz z σ H _ I ⟨ι, h, ρ, E, r, en, xr, hp, GPost.bnd (R := rArg C p.1) w⟩) fun us z1 ⟨vs, H1, I1, rv, ι1, h1, as, r1, e1, xa, w1⟩ => ⟨I1.kIn, ?_⟩) he hpl
  show wpAny _ _ (call (.ref f) us) _ _ z1
  have lens : as.length + 1 = us.length := by
    obtain ⟨ws, ew, x1⟩ := xa
    rw [← rv.length, ew, List.length_append, List.length_singleton, x1.length]
  -- how many arguments there are
  obtain ⟨q1, q2, q3, q4, q5⟩ := I1.pin p (List.mem_append_left _ g.pin)
  have hpin : L2H.PinOk X.stack H1 z1 p := ⟨q1, q2, fun hm => (List.mem_cons.mp (I1.stkSub p.1 hm)).elim q3 q4, q5⟩
  have hn : as.length + 1 = ps.length := fn.len E as h1 fun bad => by rw [bad] at w1; exact w1
  have b := hb z1 us I1.kIn (by rw [List.append_nil, ← lens]; exact hn)
  rw [List.append_nil] at b
  have e0 := I1.env0
  rw [g.hP, g.hw, g.hK, g.hm, g.hb] at e0
  have run := fn.run X.A X.stack z1 H1 ⟨us, []⟩ us vs Q (fun _ _ _ => False) p cls d (L2H.RoomH.mono g.room hk) g.hot hpin g.hz e0 b rv
    ⟨ι1, h1, as, E, r1, xa, hn, xr.ext r e1, w1.noExc⟩
  rw [← g.hP, ← g.hw] at run
  refine wpAny_call (codeAny_mono run fun res z2 hq => ?_)
  cases res with
  | error er =>
    obtain ⟨_, _, _, _, _, _, _, _, _, _, _, _, bad⟩ := hq
    exact bad.elim
  | ok fl =>
    cases fl with
    | ret u => exact I1.after hq
    | next => exact hq.elim
    | brk => exact hq.elim
    | cont => exact hq.elim
/-! ### expressions -/
theorem rx_bin {op : Operator} {o : O2} {a b : Expr} {ma mb : Exc → EE} {pos : Pos} (ho : OpA C X (binaryOp op) o) (ha : RX C X cls d P a ma) (hb : RX C X cls d P b mb) : RX C X cls d P (.BinOp a op b pos) (xBin o ma mb) := fun W tk =>
  PE_imp (pe_op ho (ha W tk) (hb W tk)) fun σ H Q ⟨ι, h, ρ, E, r, en, x, hp, w⟩ => ⟨ι, h, ρ, E, r, en, x, hp, (xbnd (R := AvR C) w).mono fun v H1 ⟨ι1, h1, a, r1, e1, x1, w1⟩ =>
    ⟨ι1, h1, ρ, E, r1, en.ext r e1, x.ext r e1, hp, (xbnd (R := AvR C) w1).mono fun u H2 ⟨ι2, h2, b, r2, e2, x2, w2⟩ => ⟨ι2, h2, a, b, _, r2, r1.av e2 x1, x2, w2⟩⟩⟩
theorem rx_cmp {op : CmpOp} {o : O2} {a b : Expr} {ma mb : Exc → EE} {pos : Pos} (ho : OpA C X (compareOp op) o) (ha : RX C X cls d P a ma) (hb : RX C X cls d P b mb) (hm : behindInMarks op b = false := by first | exact nomark _ | with_unfolding_all rfl) : RX C X cls d P (.Compare a [op] [b] pos) (xBin o ma mb) := fun W tk =>
  PE_imp (pe_cmpR ho (ha W tk) (hb W tk) hm) fun σ H Q ⟨ι, h, ρ, E, r, en, x, hp, w⟩ => ⟨ι, h, ρ, E, r, en, x, hp, (xbnd (R := AvR C) w).mono fun v H1 ⟨ι1, h1, a, r1, e1, x1, w1⟩ =>
    ⟨ι1, h1, ρ, E, r1, en.ext r e1, x.ext r e1, hp, (xbnd (R := AvR C) w1).mono fun u H2 ⟨ι2, h2, b, r2, e2, x2, w2⟩ => ⟨ι2, h2, a, b, _, r2, r1.av e2 x1, x2, w2⟩⟩⟩
theorem rx_one {op} {a : Expr} {m : Exc → EE} {pos : Pos} (h : RX C X cls d P a m) : RX C X cls d P (.BoolOp op [a] pos) m := fun W tk => pe_one (h W tk)
theorem rx_and {a b : Expr} {rest : List Expr} {ma mb : Exc → EE} {pos : Pos} (ha : RX C X cls d P a ma) (hb : RX C X cls d P (.BoolOp .And (b :: rest) pos) mb) : RX C X cls d P (.BoolOp .And (a :: b :: rest) pos) (xAnd ma mb) := fun W tk =>
  PE_imp (pe_and (ha W tk) (hb W tk)) fun σ H Q ⟨ι, h, ρ, E, r, en, x, hp, w⟩ => ⟨ι, h, ρ, E, r, en, x, hp, (xbnd (R := AvR C) w).mono fun v H1 ⟨ι1, h1, a, r1, e1, x1, w1⟩ => by
    cases x1 with
    | bl b =>
      cases b with
      | true => exact ⟨true, rfl, by rw [if_pos rfl]; exact ⟨ι1, h1, ρ, E, r1, en.ext r e1, x.ext r e1, hp, w1⟩⟩
      | false => exact ⟨false, rfl, by rw [if_neg Bool.false_ne_true]; exact w1 ι1 H1 _ Ext.refl r1 (.bl _)⟩
    | _ => exact w1.elim⟩
/-- a row of expressions -/
def tXL (C : Cz) (cls : Value) (d : Option Addr) (P : L2.St → Prop) (l : Exc → LL) (W : WX) : TA := fun σ H Q =>
  ∃ ι h ρ E, Rep C ι h H ∧ EnR C ι h.length H ρ σ ∧ ExR C ι h.length H E cls d ∧ P σ ∧ GPost C (AvRs C) ι h H Q (fun c d H' => W c d σ H') (l E ρ h)
def RXL (C : Cz) (X : Cx) (cls : Value) (d : Option Addr) (P : L2.St → Prop) (es : List Expr) (l : Exc → LL) : Prop := ∀ W, Takes X W → PA X es (tXL C cls d P l W)
theorem rxl_nil : RXL C X cls d P [] xlNil := fun W tk => PA_imp pa_nil fun σ H Q ⟨ι, h, ρ, E, r, en, x, hp, w⟩ => w ι H [] Ext.refl r .nil
theorem rxl_cons {e : Expr} {es : List Expr} {m : Exc → EE} {l : Exc → LL} (he : RX C X cls d P e m) (hl : RXL C X cls d P es l) (hs : starEach (e :: es) X.env = (false, eval e X.env) :: starEach es X.env := by rfl) : RXL C X cls d P (e :: es) (xlCons m l) := fun W tk =>
  PA_imp (pa_cons (he W tk) (hl W tk) hs) fun σ H Q ⟨ι, h, ρ, E, r, en, x, hp, w⟩ =>
    ⟨ι, h, ρ, E, r, en, x, hp, (GPost.bnd (R := AvR C) (R' := AvRs C) (m := m E ρ) (k := fun v => PA.bnd (l E ρ) fun vs h => .ok (v :: vs) h) w).mono fun v H1 ⟨ι1, h1, b, r1, e1, x1, w1⟩ =>
      ⟨ι1, h1, ρ, E, r1, en.ext r e1, x.ext r e1, hp, (GPost.bnd (R := AvRs C) w1).mono fun ys H2 ⟨ι2, h2, as, r2, e2, x2, w2⟩ => w2 ι2 H2 (v :: ys) Ext.refl r2 (.cons (r1.av e2 x1) x2)⟩⟩
theorem rx_lst {es : List Expr} {l : Exc → LL} {pos : Pos} (hl : RXL C X cls d P es l) : RX C X cls d P (.List es pos) (xLst l) := fun W tk =>
  PE_imp (pe_lst (hl W tk)) fun σ H Q ⟨ι, h, ρ, E, r, en, x, hp, w⟩ => ⟨ι, h, ρ, E, r, en, x, hp, (GPost.bnd (R := AvRs C) w).mono fun xs H1 ⟨ι1, h1, as, r1, e1, x1, w1⟩ => by
    by_cases z : as.length ≤ szl
    · rw [if_pos z] at w1
      refine ⟨by rw [← x1.length]; exact z, fun q hq => ?_⟩
      have e2 := Ext.grow (o := .lst xs) r1 hq
      refine w1 (put1 ι1 h1.length q) _ (.ref q) (by rw [List.length_append]; exact e2) (r1.grow (ao := .lst as) hq ⟨xs, upd_same, r1.avs e2 x1⟩) ?_
      have t : AvR C (put1 ι1 h1.length q) (h1 ++ [AO.lst as]).length (upd H1 q (.lst xs)) (.loc h1.length) (.ref (put1 ι1 h1.length q h1.length)) := .loc (by simp)
      rw [put1_same] at t
      exact t
    · rw [if_neg z] at w1; exact w1.elim⟩
/-- isinstance(e, c), c a class of the module -/
theorem rx_isH {i : Nat} {c : String} {n : Str} {f : String → Option Bool} {q1 q2 q3 pos : Pos} (T : XiA C c f) (g : Gh C X p cls d j) (hmi : C.mg "isinstance" = none)
    (hN : X.N[i]? = some n := by rfl) (hv : Vis X.env.scope n := by first | exact Or.inl rfl | exact Or.inr (Or.inl rfl) | exact Or.inr (Or.inr rfl)) (hd : (n == ("__debug__" : Str)) = false := by decide) (hcd : (n == ("__classdict__" : Str)) = false := by decide)
    (hg : Gl X "isinstance" := by rfl) (hgc : Gl X c := by rfl) (hdc : ((c : Str) == ("__debug__" : Str)) = false := by decide)
    (he1 : starEach [.Name n q1, .Name c q2] X.env = (false, eval (.Name n q1) X.env) :: starEach [.Name c q2] X.env := by rfl) (he2 : starEach [.Name c q2] X.env = (false, eval (.Name c q2) X.env) :: starEach [] X.env := by rfl) (hpl : (backTo pos (starEach [.Name c q2] X.env)).any (·.1) = false := by rfl) :
    RX C X cls d (atE i p.1) (.Call (.Name "isinstance" q3) [.Name n q1, .Name c q2] [] pos) (xIsE f) := fun W tk => by
  have cr := call_isX (X := X) (a := p.1) (oe := p.2) (cls := cls) (d := d) g.pin g.hz g.fields
  have hc : PE X (.Name c q2) (tC (.ref (C.ad c))) := pe_glob hgc (by rw [g.hm]; exact T.g) rfl hdc
  refine PE_imp (pe_callB cr hg (by rw [g.hm]; exact hmi) (by decide +kernel) (pa_cons (pv i hN hv hd hcd) (pa_cons hc pa_nil he2) he1) (by decide) (by decide) he1 hpl) fun σ H Q ⟨ι, h, ρ, E, r, en, x, hp, q⟩ => ?_
  unfold xIsE at q
  cases e : f E.cls with
  | none => rw [e] at q; exact q.elim
  | some b =>
    rw [e] at q
    obtain ⟨x1, x2⟩ := x
    obtain ⟨t1, t2⟩ := T.k _ _ e
    refine ⟨.ref p.1, hp, C.ad E.cls, .ref (C.ad c), .ref (C.ad c), b, x1, by rw [g.hK]; exact t1, rfl, fun u z => z, by rw [g.hK, x1]; exact t2, ?_, q ι H _ Ext.refl r (.bl b)⟩
    rcases x2 with ⟨_, x2⟩ | ⟨dd, gs, x2, x3, _⟩
    · exact .inl x2
    · exact .inr ⟨dd, gs, x2, x3⟩
/-- which of the classes that are thrown is below a built-in class -/
structure XiB (C : Cz) (t : String) (f : String → Option Bool) : Prop where
  z : C.mg t = none
  k : ∀ n b, f n = some b → ExcC C.K (C.ad n) ∧ PySem.W.kitOne C.K (.ref (C.ad n)) (.type t) = some b
/-- isinstance(e, t), t a built-in class -/
theorem rx_isB {i : Nat} {t : String} {n : Str} {f : String → Option Bool} {q1 q2 q3 pos : Pos} (T : XiB C t f) (g : Gh C X p cls d j) (hmi : C.mg "isinstance" = none) (hbt : bootBuiltins t = some (.type t))
    (hN : X.N[i]? = some n := by rfl) (hv : Vis X.env.scope n := by first | exact Or.inl rfl | exact Or.inr (Or.inl rfl) | exact Or.inr (Or.inr rfl)) (hd : (n == ("__debug__" : Str)) = false := by decide) (hcd : (n == ("__classdict__" : Str)) = false := by decide)
    (hg : Gl X "isinstance" := by rfl) (hgc : Gl X t := by rfl) (hdc : ((t : Str) == ("__debug__" : Str)) = false := by decide) (hnn : (t : Str) ≠ "__name__" := by decide)
    (he1 : starEach [.Name n q1, .Name t q2] X.env = (false, eval (.Name n q1) X.env) :: starEach [.Name t q2] X.env := by rfl) (he2 : starEach [.Name t q2] X.env = (false, eval (.Name t q2) X.env) :: starEach [] X.env := by rfl) (hpl : (backTo pos (starEach [.Name t q2] X.env)).any (·.1) = false := by rfl) :
    RX C X cls d (atE i p.1) (.Call (.Name "isinstance" q3) [.Name n q1, .Name t q2] [] pos) (xIsE f) := fun W tk => by
  have cr := call_isX (X := X) (a := p.1) (oe := p.2) (cls := cls) (d := d) g.pin g.hz g.fields
  have hc : PE X (.Name t q2) (tC (.ty t)) := pe_bltn hgc (by rw [g.hm]; exact T.z) hbt rfl hnn hdc
  refine PE_imp (pe_callB cr hg (by rw [g.hm]; exact hmi) (by decide +kernel) (pa_cons (pv i hN hv hd hcd) (pa_cons hc pa_nil he2) he1) (by decide) (by decide) he1 hpl) fun σ H Q ⟨ι, h, ρ, E, r, en, x, hp, q⟩ => ?_
  unfold xIsE at q
  cases e : f E.cls with
  | none => rw [e] at q; exact q.elim
  | some b =>
    rw [e] at q
    obtain ⟨x1, x2⟩ := x
    obtain ⟨t1, t2⟩ := T.k _ _ e
    refine ⟨.ref p.1, hp, C.ad E.cls, .ty t, .type t, b, x1, by rw [g.hK]; exact t1, rfl, fun u z => z, by rw [g.hK, x1]; exact t2, ?_, q ι H _ Ext.refl r (.bl b)⟩
    rcases x2 with ⟨_, x2⟩ | ⟨dd, gs, x2, x3, _⟩
    · exact .inl x2
    · exact .inr ⟨dd, gs, x2, x3⟩
/-- e.f, e of one of these classes -/
theorem rx_fldM {i : Nat} {cs : List String} {n f : Str} {q1 pos : Pos} (T : ∀ c ∈ cs, XfA C c f) (g : Gh C X p cls d j)
    (hN : X.N[i]? = some n := by rfl) (hv : Vis X.env.scope n := by first | exact Or.inl rfl | exact Or.inr (Or.inl rfl) | exact Or.inr (Or.inr rfl)) (hd : (n == ("__debug__" : Str)) = false := by decide) (hcd : (n == ("__classdict__" : Str)) = false := by decide)
    (hb : attributeBase (.Name n q1) f X.env (eval (.Name n q1) X.env) = eval (.Name n q1) X.env := by rfl) : RX C X cls d (atE i p.1) (.Attribute (.Name n q1) f pos) (xFldM cs f) := fun W tk => by
  refine ⟨fun pz z σ H Q I ⟨ι, h, ρ, E, r, en, x, hp, w⟩ => ?_⟩
  unfold xFldM at w
  by_cases ec : cs.contains E.cls = true
  · rw [if_pos ec] at w
    obtain ⟨t1, t2⟩ := T E.cls (List.contains_iff_mem.mp ec)
    rw [← g.hK] at t1 t2
    cases e : E.fs.lookup f with
    | none => rw [e] at w; exact w.elim
    | some v =>
      rw [e] at w
      obtain ⟨x1, x2⟩ := x
      rcases x2 with ⟨x2, _⟩ | ⟨dd, gs, e1, e2, e3⟩
      · rw [x2] at e; cases e
      · rcases e3.lookup f with ⟨y, u, l1, l2, yu⟩ | ⟨l1, _⟩
        · rw [e] at l1; cases l1
          refine attr_of hb (thn ((pv (X := X) i hN hv hd hcd).run pz z σ H (fun v' H' => v' = .ref p.1 ∧ H = H') I ⟨.ref p.1, hp, rfl, rfl⟩) fun w0 z1 ⟨v', H1, I1, rv, ev, eH⟩ => ?_)
          subst ev
          subst eH
          obtain rfl : w0 = Value.ref p.1 := rv
          obtain ⟨here, _⟩ := I1.pin p (List.mem_append_left _ g.pin)
          obtain ⟨vs, hvs⟩ := g.fields
          obtain ⟨mA, hns, hr⟩ := (show ObjOk X.prog X.w H z1.heap dd (.xd gs) from I1.hok dd _ e2)
          obtain ⟨od, ho, hl⟩ := lookIn_ns hns
          obtain ⟨u', hu, ru⟩ := RelO.some_of (v := u) (o := mA f) (by rw [← l2]; exact hr f)
          have J : PySem.W.InstAt z1.heap p.1 p.2 (C.ad E.cls) (some od) := ⟨here, g.hz.1.trans x1, by unfold PySem.W.notCls; rw [hvs] <;> rfl, by rw [g.hz.2, e1]; exact ho⟩
          exact HandSPX.exc_get I1.kIn J t1.ga t1.gg t1.exC (PySem.W.findObj_own t1.hdC t2 rfl (by rw [hl, hu])) (handed_of ru) ⟨u, H, I1.tok _, ru, w ι H u Ext.refl r yu⟩
        · rw [e] at l1; cases l1
  · rw [if_neg ec] at w; exact w.elim
theorem rx_ifT {c a b : Expr} {t : BB} {ma mb : Exc → EE} {pos : Pos} (hc : RT C X c t) (ha : RX C X cls d P a ma) (hb : RX C X cls d P b mb) : RX C X cls d P (.IfExp c a b pos) (xIfT t ma mb) := fun W tk =>
  PE_imp (pe_ifExp (hc W tk) (ha W tk) (hb W tk)) fun σ H Q ⟨ι, h, ρ, E, r, en, x, hp, w⟩ => ⟨ι, h, ρ, r, en, (GPost.bnd (R := rB) (R' := AvR C) (m := t ρ) (k := fun c => if c = true then ma E ρ else mb E ρ) w).mono fun v H1 ⟨ι1, h1, b, r1, e1, x1, w1⟩ => by
    cases x1
    by_cases z : v = true
    · rw [if_pos z] at w1 ⊢; exact ⟨ι1, h1, ρ, E, r1, en.ext r e1, x.ext r e1, hp, w1⟩
    · rw [if_neg z] at w1 ⊢; exact ⟨ι1, h1, ρ, E, r1, en.ext r e1, x.ext r e1, hp, w1⟩⟩
/-! ### statements -/
theorem rxs_nil : RXs C X cls d P [] xNil := PSs_imp pss_nil fun D σ H ⟨ι, h, ρ, E, r, en, x, hp, w⟩ => w ι H σ Ext.refl r en hp
theorem rxs_cons {st : Stmt} {rest : List Stmt} {m u : Exc → SS} (h1 : RX1 C X cls d P st m) (h2 : RXs C X cls d P rest u) : RXs C X cls d P (st :: rest) (xSeq m u) :=
  PSs_imp (pss_cons h1 h2) fun D σ H ⟨ι, h, ρ, E, r, en, x, hp, w⟩ => by
    refine ⟨ι, h, ρ, E, r, en, x, hp, ?_⟩
    unfold xSeq sSeq at w
    cases e : m E ρ h with
    | nx ρ' h1 =>
      rw [e] at w
      exact fun ι1 H1 σ1 e1 r1 en1 hp1 => ⟨ι1, h1, ρ', E, r1, en1, x.ext r e1, hp1, SPost.shift (h := h) (h' := h1) w e1⟩
    | brk ρ' h1 => rw [e] at w; exact w
    | ct ρ' h1 => rw [e] at w; exact w
    | ret v h1 => rw [e] at w; exact w
    | exc e' ρ' h1 => rw [e] at w; exact w
    | bad => rw [e] at w; exact w
theorem rxs_one {st : Stmt} {m : Exc → SS} (h1 : RX1 C X cls d P st m) : RXs C X cls d P [st] m := pss_one h1
theorem rx1_set {i : Nat} {a : Addr} (k : Nat) {x : Str} {e : Expr} {m : Exc → EE} {pos q1 : Pos} (hne : k ≠ i) (hN : X.N.Nodup) (he : RX C X cls d (atE i a) e m) (hi : X.N[k]? = some x := by rfl) (hx : Loc X.env.scope x := by first | exact Or.inl rfl | exact Or.inr rfl) (hs : swapsWith e (some (.Name x q1)) pos.line X.env = pure false := by rfl)
    (hf : X.fn x = true ∨ X.env.scope.names.lookup x = some .local := by first | exact .inl rfl | exact .inr rfl | assumption) : RX1 C X cls d (atE i a) (.Assign [.Name x q1] e pos) (xSet k m) :=
  PS_imp (ps_set hN hi hx (he WF takes0) hs hf) fun D σ H ⟨ι, h, ρ, E, r, en, x, hp, w⟩ => ⟨ι, h, ρ, E, r, en, x, hp, (SPost.bnd (R := AvR C) (m := m E) (k := fun v ρ h => .nx (ρ.set k (some v)) h) r en w).mono fun v H1 ⟨ι1, h1, b, r1, e1, x1, w1⟩ =>
    w1 ι1 H1 _ Ext.refl r1 ((en.ext r e1).set x1 k) (by show (σ.set k (some v))[i]? = _; rw [List.getElem?_set_ne hne]; exact hp)⟩
theorem rx1_ret {e : Expr} {m : Exc → EE} {pos : Pos} (he : RX C X cls d P e m) : RX1 C X cls d P (.Return (some e) pos) (xRet m) :=
  PS_imp (ps_ret (he WF takes0)) fun D σ H ⟨ι, h, ρ, E, r, en, x, hp, w⟩ => ⟨ι, h, ρ, E, r, en, x, hp, (SPost.bnd (R := AvR C) (m := m E) (k := fun v _ h => .ret v h) r en w).mono fun v H1 ⟨ι1, h1, b, r1, e1, x1, w1⟩ => w1 ι1 H1 v Ext.refl r1 x1⟩
theorem rx1_if {c : Expr} {a b : List Stmt} {t : BB} {m u : Exc → SS} {pos : Pos} (hc : RT C X c t) (ha : RXs C X cls d P a m) (hb : RXs C X cls d P b u) : RX1 C X cls d P (.If c a b pos) (xIfS t m u) :=
  PS_imp (ps_if (hc WF takes0) ha hb) fun D σ H ⟨ι, h, ρ, E, r, en, x, hp, w⟩ => ⟨ι, h, ρ, r, en, (SPost.bnd (R := rB) (m := t) (k := fun c => if c = true then m E else u E) r en w).mono fun v H1 ⟨ι1, h1, b, r1, e1, x1, w1⟩ => by
    cases x1
    by_cases z : v = true
    · rw [if_pos z] at w1 ⊢; exact ⟨ι1, h1, ρ, E, r1, en.ext r e1, x.ext r e1, hp, w1⟩
    · rw [if_neg z] at w1 ⊢; exact ⟨ι1, h1, ρ, E, r1, en.ext r e1, x.ext r e1, hp, w1⟩⟩
end
end PL
set_option maxRecDepth 100000
set_option maxHeartbeats 4000000
/-! Hot4: defs that raise errors whose context is none; a try around a call of such. -/
namespace PL
open PySem PySem.Spec PyProof.Rows L2 PA
section
variable {C : Cz} {X : Cx} {j k : Nat}
theorem n_takes0 : L2N.Takes X WF := fun _ _ ⟨_, _, _, _, _, _, _, _, _, _, _, _, _, _, _, _, w⟩ => w.elim
/-! ### what must not raise -/
theorem rt_q {c : Expr} {t : BB} (h : RT C X c t) (W : WX) : PT X c (tT C (qT t) W) :=
  PT_imp (h WF takes0) fun σ H Q ⟨ι, h, ρ, r, en, w⟩ => ⟨ι, h, ρ, r, en, w.noExc⟩
theorem rl_q {es : List Expr} {l : LL} (h : RL C X es l) (W : WX) : PA X es (tL C (qL l) W) :=
  PA_imp (h WF takes0) fun σ H Q ⟨ι, h, ρ, r, en, w⟩ => ⟨ι, h, ρ, r, en, w.noExc⟩
/-! ### statements -/
def RSN (C : Cz) (X : Cx) (st : Stmt) (m : SS) : Prop := ∀ W, L2N.Takes X W → PS X st (tS C m W)
def RSsN (C : Cz) (X : Cx) (st : List Stmt) (m : SS) : Prop := ∀ W, L2N.Takes X W → PSs X st (tS C m W)
theorem rsn_nil : RSsN C X [] sNil := fun W tk => PSs_imp pss_nil fun D σ H ⟨ι, h, ρ, r, en, w⟩ => w ι H σ Ext.refl r en
theorem rsn_cons {st : Stmt} {rest : List Stmt} {m u : SS} (h1 : RSN C X st m) (h2 : RSsN C X rest u) : RSsN C X (st :: rest) (sSeq m u) := fun W tk =>
  PSs_imp (pss_cons (h1 W tk) (h2 W tk)) fun D σ H q => seq_imp q
theorem rsn_one {st : Stmt} {m : SS} (h1 : RSN C X st m) : RSsN C X [st] m := fun W tk => pss_one (h1 W tk)
theorem rsn_if {c : Expr} {a b : List Stmt} {t : BB} {m u : SS} {pos : Pos} (hc : RT C X c t) (ha : RSsN C X a m) (hb : RSsN C X b u) : RSN C X (.If c a b pos) (sIf (qT t) m u) := fun W tk =>
  PS_imp (ps_if (rt_q hc W) (ha W tk) (hb W tk)) fun D σ H ⟨ι, h, ρ, r, en, w⟩ => ⟨ι, h, ρ, r, en, (SPost.bnd (R := rB) r en w).mono fun x H1 ⟨ι1, h1, a, r1, e1, x1, w1⟩ => by
    cases x1
    by_cases z : x = true
    · rw [if_pos z] at w1 ⊢; exact ⟨ι1, h1, ρ, r1, en.ext r e1, w1⟩
    · rw [if_neg z] at w1 ⊢; exact ⟨ι1, h1, ρ, r1, en.ext r e1, w1⟩⟩
/-! ### raise -/
theorem pmk_own0N {c : Addr} {bmB : List Value} {B newId initId : String} {x : Str} {q1 pos : Pos} (Fb : ExcBaseFacts B newId initId bmB) (ein : PySem.W.excIn X.K c bmB newId = true) (gc : X.mg x = some (.ref c)) (kc : PySem.W.keepIn X.K (.ref c) = true) (rs : Raises X (.ref c)) (hg : Gl X x)
    (hdb : (x == ("__debug__" : Str)) = false := by decide) : L2N.PMk X (.Call (.Name x q1) [] [] pos) (fun _ H Q => Q (.ref c) none H) := by
  intro pz z σ H Q I w
  refine wpAny_Call_Name_kw (ld_glob I hg gc ?_ hdb)
  refine PySem.W.callWith_K0 I.kIn kc ?_
  show wpAny _ _ (call (.ref c) []) _ _ _
  obtain ⟨bm, N, nm, qn, bs, hdct, sn, sub, ab, col, dd, k0, k1, k2, k3, k5, mN, hC, hN, hni, T⟩ := exc_obj I.kIn ein
  exact wpAny_call_exc_subT Fb T hC hN hni (fun h' e hm => L2N.mk_of I hm rs w (I.hok.gone hm.new)) (Nat.zero_le _)
theorem rsn_raise0 {c : String} {p pos pos' : Pos} (g : Gd C X j) (T : ExcA0 C c) (hg : Gl X c := by rfl) (hdb : ((c : Str) == ("__debug__" : Str)) = false := by decide) : RSN C X (.Raise (some (.Call (.Name c p) [] [] pos)) none pos') (sRaise0 c) := fun W tk => by
  obtain ⟨B, newId, initId, bmB, F, q⟩ := T.q
  have T1 := T.g
  have T2 := T.k
  have T3 := T.s1
  have T4 := T.s2
  rw [← g.hK] at q T2 T3 T4
  rw [← g.hm] at T1
  exact PS_imp (L2N.ps_raise g.calm tk (pmk_own0N F q T1 T2 (raises_own T3 T4) hg hdb)) fun D σ H ⟨ι, h, ρ, r, en, w⟩ => w ι H σ _ _ Ext.refl r en ⟨rfl, .inl ⟨rfl, rfl⟩⟩
theorem pmk_oexN {e : Expr} {es : List Expr} {ta : TA} {q1 pos : Pos} {x : Str} {c fI : Addr} {fd : FuncData} {ps : List Str} {sp : Sp} {ds : List Value} {dvs : List V} (T : OexC X.K c) (iC : PySem.W.findIn X.K (.ref c) "__init__" = some (some (.ref fI))) (tI : PySem.W.typeIn X.K (.ref fI) = some (.type "function"))
    (Fi : FnOk X.prog X.w X.K X.mg X.base (L2.CX X.prog X.w) k fI fd ps sp) (room : Room (k + 1) X.A) (bi : Binds X.K fd ps ds) (dv : Vals dvs ds) (hg : Gl X x) (hm : X.mg x = some (.ref c)) (ha : PA X (e :: es) ta)
    (hdb : (x == ("__debug__" : Str)) = false := by decide) (he : starEach (e :: es) X.env = (false, eval e X.env) :: starEach es X.env := by rfl) (hpl : (backTo pos (starEach es X.env)).any (·.1) = false := by rfl) :
    L2N.PMk X (.Call (.Name x q1) (e :: es) [] pos) (tMkO c sp dvs ta) := by
  intro pz z σ H Q I w
  obtain ⟨nm, qn, N, bs, bm, sn, sub, ab, col, dd, k0, k1, k2, k3, k5, hC, hbm⟩ := T.cls
  refine wpAny_Call_Name_kw (ld_glob I hg hm ?_ hdb)
  refine PySem.W.callWith_K (h₀ := X.base) I.ok.mod.kin T.kC (thn (ha.run pos pz z σ H _ I w) fun us z1 ⟨vs, H1, Ja, rv, few, made⟩ => ⟨Ja.kIn, ?_⟩) he hpl
  show wpAny _ _ (call (.ref c) us) _ _ _
  obtain ⟨hp, gs, dr, tk, os⟩ := z1
  -- the error's own place
  have up : hp.objs.size ≤ hp.objs.size + 1 := Nat.le_succ _
  have wish := made (hp.objs.size + 1) (Ja.hok.fresh up)
  have stays : ∀ b o, hp.get? b = some o → ((hp.push (PySem.W.kdv_tup us)).push (PySem.HandSPX.excO c hp.objs.size)).get? b = some o := fun b o q => Heap.get?_push_of_some _ (Heap.get?_push_of_some _ q)
  have there : ((hp.push (PySem.W.kdv_tup us)).push (PySem.HandSPX.excO c hp.objs.size)).get? (hp.objs.size + 1) = some (PySem.HandSPX.excO c hp.objs.size) := by heap_get
  have Jb := Ja.laid (t' := tk) (a := hp.objs.size + 1) (o := exo (hp.objs.size + 1) c none) (h' := (hp.push (PySem.W.kdv_tup us)).push (PySem.HandSPX.excO c hp.objs.size)) stays up (exo_ok there)
  have rv2 : Vals (V.ref (hp.objs.size + 1) :: (vs ++ dvs)) (Value.ref (hp.objs.size + 1) :: (us ++ ds)) := .cons rfl (rv.append dv)
  have len : (Value.ref (hp.objs.size + 1) :: us ++ ds).length = ps.length := by
    have q := rv2.length
    rw [Fi.len _ _ _ _ wish] at q
    exact q.symm
  have fits : us.length ≤ sizeLine := by
    have q := Paired.length rv
    have : (1000 : Nat) ≤ sizeLine := by rw [sizeLine_eq]; decide
    omega
  refine wpAny_call (PySem.HandSPX.call_own F.excBase_ValueError (fun Y => PySem.HandSPX.refsVE_contains Y bm hbm) (Ja.kIn _ _ hC) (PySem.W.looks_findIn Ja.kIn iC) (fun self => PySem.W.bind_fn Ja.kIn self tI) fits
    (codeAny_mono (Fi.run _ X.stack _ _ ⟨Value.ref (hp.objs.size + 1) :: us, []⟩ (Value.ref (hp.objs.size + 1) :: (us ++ ds)) _ _ (fun _ _ _ => False) (room.make c us []) (Jb.env0.make c us []) (bi _ (Value.ref (hp.objs.size + 1) :: us) Jb.kIn len) rv2 wish) fun res z2 got => ?_))
  cases res with
  | error er =>
    obtain ⟨_, _, _, _, _, _, _, _, _, _, _, _, bad⟩ := got
    exact bad.elim
  | ok fl =>
    cases fl with
    | ret u =>
      obtain ⟨v, H2, os2, bare2, un2, hok2, rr, ev, d, fs, ea, ed, hd1, q2⟩ := got
      subst ev
      obtain ⟨h2, g2, d2, t2, os'⟩ := z2
      obtain ⟨t0, G, J, kG, ge, hoe, na⟩ := mk_end0 (d2 := d2) (t2 := t2) Ja up stays un2 hok2 os2 bare2 ea ed hd1
      exact ⟨rr, _, _, _, ⟨G, g2, d2, t2, os'⟩, _, .ref c, some d, rfl, J, kG, ge, hoe, ⟨rfl, rfl, fun vs q => by cases q; rfl⟩, rfl, rfl, na, rfl, bare2, raises_own T.exC T.tyC, q2⟩
    | next => exact got.elim
    | brk => exact got.elim
    | cont => exact got.elim
theorem rsn_raiseN {c : String} {names : List Str} {e : Expr} {es : List Expr} {l : LL} {p pos pos' : Pos} (g : Gd C X j) (T : ExcAN C c names) (hl : RL C X (e :: es) l) (hj : 2 ≤ j := by decide) (hn : names.length ≤ 1000 := by decide) (hg : Gl X c := by rfl) (hdb : ((c : Str) == ("__debug__" : Str)) = false := by decide)
    (he : starEach (e :: es) X.env = (false, eval e X.env) :: starEach es X.env := by rfl) (hpl : (backTo pos (starEach es X.env)).any (·.1) = false := by rfl) :
    RSN C X (.Raise (some (.Call (.Name c p) (e :: es) [] pos)) none pos') (sRaiseN c names (qL l)) := fun W tk => by
  obtain ⟨f, fd, ps, i1, i2, fn, hb⟩ := T.i
  have T1 := T.g
  have TT := T.T
  rw [← g.hP, ← g.hw, ← g.hK, ← g.hm, ← g.hb] at fn
  rw [← g.hK] at i1 i2 hb TT
  rw [← g.hm] at T1
  refine PS_imp (L2N.ps_raise g.calm tk (pmk_oexN TT i1 i2 fn (g.room.mono hj) hb .nil hg T1 (rl_q hl W) hdb he hpl)) fun D σ H ⟨ι, h, ρ, r, en, w⟩ => ⟨ι, h, ρ, r, en, (SPost.bnd (R := AvRs C) r en w).mono fun vs H1 ⟨ι1, h1, as, r1, e1, x1, w1⟩ => ?_⟩
  by_cases z : as.length = names.length
  · rw [if_pos z] at w1
    have hvl : vs.length = names.length := by rw [← x1.length]; exact z
    refine ⟨by rw [hvl]; exact hn, fun a na => ⟨a, vs, by rw [List.append_nil], hvl, upd_same, fun H2 d hd nda q1 q2 q3 => ⟨rfl, d, _, q1, q2, ?_, ?_⟩⟩⟩
    · rw [upd_ne nda] at hd; exact hd
    · rw [upd_ne nda] at hd
      have eH : upd (del H2 a) d (.xd (names.zip vs).reverse) = upd H1 d (.xd (names.zip vs).reverse) := by
        funext b
        by_cases zb : b = d
        · subst zb; rw [upd_same, upd_same]
        · rw [upd_ne zb, upd_ne zb]
          by_cases za : b = a
          · subst za; rw [del_same, na]
          · rw [del_ne za, q3 b za zb, upd_ne za]
      rw [eH]
      have ex : Ext ι1 h1.length H1 ι1 h1.length (upd H1 d (.xd (names.zip vs).reverse)) := Ext.laid r1 hd
      refine w1 ι1 _ σ _ _ ex (r1.laid hd) ((en.ext r e1).ext r1 ex) ⟨rfl, .inr ⟨d, _, rfl, upd_same, ?_⟩⟩
      exact FsR.reverse (zip_fs (AvRs.map (fun p ys t => r1.sqT ex t) (Nat.le_refl _) (fun _ _ => rfl) x1))
  · rw [if_neg z] at w1; exact w1.elim
/-! ### defs -/
abbrev FnN (C : Cz) (k : Nat) (f : Addr) (fd : FuncData) (ps : List Str) (F : FF) : Prop := FnOk C.P C.w C.K C.mg C.base (L2N.CX C.P C.w) k f fd ps (spA C F)
structure CalN (C : Cz) (k : Nat) (x : Str) (F : FF) : Prop where
  ex : ∃ f fd ps, FnN C k f fd ps F ∧ C.mg x = some (.ref f) ∧ PySem.W.keepIn C.K (.ref f) = true ∧ Binds C.K fd ps []
theorem fn_okN {x qual : Str} {st : Stmt} {f : Addr} {fd : FuncData} {N ps : List Str} {body : SS} (F : L2.Fun C.K x qual st f fd) (S : FnScope N ps (defScope st))
    (hb : ∀ (cdv : Value) (A : Around) (outer : List PySem.Env) (s : Shared) (H : Hp) (E : XK), Gd C (cxOf (L2N.CX C.P C.w) C.P C.w C.K C.mg C.base N qual (defScope st) f cdv A outer s H E) k →
      RSsN C (cxOf (L2N.CX C.P C.w) C.P C.w C.K C.mg C.base N qual (defScope st) f cdv A outer s H E) (defBody st) body) : FnN C (k + 1) f fd ps (runF ps.length (N.length - ps.length) body) := by
  obtain ⟨oc, od, kV, doc, pm, an, cdv, ct, osl, rfl, lk, hcd⟩ := F.ex
  refine fn_of lk hcd S (fun vs H Q E h => ?_) fun A outer s H vs Q E hr h => ?_
  · obtain ⟨ι, h, as, r, x, p⟩ := h
    unfold runF at p
    by_cases z : as.length = ps.length
    · rw [← x.length]; exact z
    · rw [if_neg z] at p; exact p.elim
  · obtain ⟨ι, h, as, r, x, p⟩ := h
    refine ⟨_, hb cdv A outer s H E ⟨rfl, rfl, rfl, rfl, rfl, rfl, S.nd, hr⟩ (fun cls d _ H => E cls d H) (L2N.takes_of rfl rfl rfl rfl), ?_⟩
    unfold runF at p
    by_cases z : as.length = ps.length
    · rw [if_pos z] at p
      refine ⟨ι, h, as.map some ++ List.replicate (N.length - ps.length) none, r, ?_, ?_⟩
      · have q := x.mapSome (m := N.length - ps.length)
        unfold L2.start
        rw [← x.length, z]
        exact q
      · cases e : body (as.map some ++ List.replicate (N.length - ps.length) none) h with
        | nx ρ' h' => rw [e] at p; exact fun ι1 H1 σ1 e1 r1 en1 => p ι1 H1 .non e1 r1 .non
        | ret v h' => rw [e] at p; exact p
        | exc e' ρ' h' => rw [e] at p; exact fun ι1 H1 σ1 cls d e1 r1 en1 x1 => p ι1 H1 cls d e1 r1 x1
        | brk ρ' h' => rw [e] at p; exact p.elim
        | ct ρ' h' => rw [e] at p; exact p.elim
        | bad => rw [e] at p; exact p.elim
    · rw [if_neg z] at p; exact p.elim
/-- f(e, ..) as a statement -/
theorem rsn_call {x : Str} {F : FF} {e : Expr} {es : List Expr} {l : LL} {p pos pos' : Pos} (g : Gd C X j) (c : CalN C k x F) (hl : RL C X (e :: es) l) (hk : k ≤ j := by decide) (hg : Gl X x := by rfl) (hdb : (x == ("__debug__" : Str)) = false := by decide)
    (he : starEach (e :: es) X.env = (false, eval e X.env) :: starEach es X.env := by rfl) (hpl : (backTo pos (starEach es X.env)).any (·.1) = false := by rfl) (hs : swapsWith (.Call (.Name x p) (e :: es) [] pos) none pos'.line X.env = pure false := by rfl) :
    RSN C X (.Expr (.Call (.Name x p) (e :: es) [] pos) pos') (sExpr (eCall F (qL l))) := fun W tk => by
  obtain ⟨f, fd, ps, fn, hm, hkp, hb⟩ := c.ex
  unfold FnN at fn
  rw [← g.hP, ← g.hw, ← g.hK, ← g.hm, ← g.hb] at fn
  rw [← g.hm] at hm
  rw [← g.hK] at hkp hb
  refine PS_imp (ps_expr (PE_imp (pe_callS fn (g.room.mono hk) hg hm hkp hb (fun σ => L2N.passAt tk σ) (rl_q hl W) hdb he hpl) fun σ H Q q => call_imp q) hs) fun D σ H ⟨ι, h, ρ, r, en, w⟩ => ⟨ι, h, ρ, r, en, ?_⟩
  exact (SPost.bnd (R := AvR C) r en w).mono fun x H1 ⟨ι1, h1, a, r1, e1, x1, w1⟩ => w1 ι1 H1 σ Ext.refl r1 (en.ext r e1)
/-! ### try -/
theorem hfE {K : PySem.W.Frag} {ad : String → Addr} {v : Value} {l : List String} (h : ∀ x ∈ l, PySem.W.exmOne K (.ref (ad x)) v = some true) : ∀ x, l.contains x = true → PySem.W.exmOne K (.ref (ad x)) v = some true :=
  fun x e => h x (List.contains_iff_mem.mp e)
theorem xib_of {C : Cz} {t : String} {l : List (String × Bool)} (z : C.mg t = none) (h : ∀ p ∈ l, ExcC C.K (C.ad p.1) ∧ PySem.W.kitOne C.K (.ref (C.ad p.1)) (.type t) = some p.2) : XiB C t (clF l) := by
  refine ⟨z, fun n b e => ?_⟩
  unfold clF at e
  induction l with
  | nil => cases e
  | cons p r ih =>
    obtain ⟨x, y⟩ := p
    rw [List.lookup_cons] at e
    cases q : n == x with
    | true =>
      rw [q] at e
      cases e
      have := eq_of_beq q
      subst this
      exact h _ List.mem_cons_self
    | false => rw [q] at e; exact ih (fun p hp => h p (List.mem_cons_of_mem _ hp)) e
theorem rs_tryE {i : Nat} {c : String} {n : Str} {body : List Stmt} {b0 : Stmt} {su : List Stmt} {m : SS} {f : String → Bool} {s : Exc → SS} {q1 q2 pos : Pos} (g : Gd C X j) (hgc : C.mg c = some (.ref (C.ad c))) (hf : ∀ x, f x = true → PySem.W.exmOne C.K (.ref (C.ad x)) (.ref (C.ad c)) = some true)
    (hb : ∀ (pn : List (Addr × Obj)) (xe : Value → Shared → Prop), Gd C (X.tr pn xe) j → RSsN C (X.tr pn xe) body m)
    (hsu : ∀ (a : Addr) (oe : Obj) (cls : Value) (d : Option Addr) (pn : List (Addr × Obj)), Gh C (X.suite a ((a, oe) :: pn)) (a, oe) cls d j → RXs C (X.suite a ((a, oe) :: pn)) cls d (atE i a) (b0 :: su) s)
    (hst : X.stack = X.env :: X.outer := by rfl) (hfl : X.env.frame = some X.env.locals := by rfl) (hi : X.N[i]? = some n := by rfl) (hln : X.env.kindOf n = some .local := by rfl) (hgl : Gl X c := by rfl) (hdb : ((c : Str) == ("__debug__" : Str)) = false := by decide) :
    RS C X (.Try body [.ExceptHandler (some (.Name c q1)) (some n) (b0 :: su) q2] [] [] pos) (sTryE m f i s) := fun W tk => by
  refine PS_imp (L2N.ps_try_as (tb := fun W => tS C m W) (ts := fun a cls d => tXP C cls d (atE i a) s) (c := .ref (C.ad c)) hst hfl g.nd hi hln ⟨hgl, hdb, .inl (by rw [g.hm]; exact hgc)⟩ n_takes0
    (fun W pn xe tk' _ => hb pn xe ⟨g.hP, g.hw, g.hK, g.hm, g.hb, g.calm, g.nd, g.room⟩ W tk')
    (fun a oe cls d pn hz ⟨vs, hv⟩ => hsu a oe cls d pn ⟨g.hP, g.hw, g.hK, g.hm, g.hb, g.nd, List.mem_cons_self, ⟨rfl, vs, hv, hz.2.2 vs hv⟩, hz.zc, ⟨g.room.dp, g.room.un⟩⟩)) fun D σ H ⟨ι, h, ρ, r, en, w⟩ => ⟨ι, h, ρ, r, en, ?_⟩
  unfold sTryE at w
  cases e : m ρ h with
  | exc x ρ' h' =>
    rw [e] at w
    intro ι1 H1 σ1 cls d e1 r1 en1 x1
    have w : SPost C ι h H D W (if f x.cls = true ∧ i < ρ'.length then offX i (s x (ρ'.set i none) h') else .bad) := w
    by_cases z : f x.cls = true ∧ i < ρ'.length
    · rw [if_pos z] at w
      refine ⟨true, by rw [g.hK, x1.1]; exact hf _ z.1, fun _ a na => ?_, fun q => (nomatch q)⟩
      have il : i < σ1.length := by rw [← en1.1]; exact z.2
      refine ⟨ι1, h', ρ'.set i none, x, r1, offE_en en1 _ i, x1, List.getElem?_set_self il, ?_⟩
      have w := SPost.shift (h := h) (h' := h') w e1
      cases es : s x (ρ'.set i none) h' with
      | nx ρ2 h2 => rw [es] at w; exact fun ι2 H2 σ2 e2 r2 en2 _ => w ι2 H2 _ e2 r2 (offE_en en2 none i)
      | ret v h2 => rw [es] at w; exact w
      | exc e' ρ2 h2 => rw [es] at w; exact w.elim
      | brk ρ2 h2 => rw [es] at w; exact w.elim
      | ct ρ2 h2 => rw [es] at w; exact w.elim
      | bad => rw [es] at w; exact w.elim
    · rw [if_neg z] at w; exact w.elim
  | ret v h' => rw [e] at w; exact w
  | nx ρ' h' => rw [e] at w; exact w
  | brk ρ' h' => rw [e] at w; exact w
  | ct ρ' h' => rw [e] at w; exact w
  | bad => rw [e] at w; exact w
end
end PL
/-! Sem: the defs that law reaches, as plain functions. Printed by gen.py. -/
namespace K19
open PySem (Str)
open PA
/-- 0 _law_script, 1 _law_seed, 2 _law_state, 3 _law_cell -/
def l__law_mix_1 (ns : List Int) : SS := (sSet 2 (eBin oMod (eCall bInt (lCons (eBin oAdd (eBin oAdd (eBin oMul (eVar 2) (eC (.int 48271))) (eBin oMod (eCall bInt (lCons (eVar 3) lNil)) (eC (.int 2147483629)))) (eC (.int 1))) lNil)) (eC (.int 2147483647))))
def b__law_mix (ns : List Int) : SS := (sSeq (sSet 2 (eVar 1)) (sSeq (sFor (iScr ns (eVar 0)) (PA.gName 3) (l__law_mix_1 ns)) (sRet (eLst (lCons (eVar 2) (lCons (eCall (bListS ns) (lCons (eVar 0) lNil)) (lCons (eC (.int 0)) (lCons (eC (.int 14)) lNil))))))))
def f__law_mix (ns : List Int) : FF := runF 2 2 (b__law_mix ns)
/-- 0 _law_h, 1 _law_bound, 2 _law_cell -/
def b__law_next : SS := (sSeq (sSet 2 (eBin oIx (eBin oAdd (eBin oIx (eVar 0) (eC (.int 1))) (eLst (lCons (eC (.int 0)) lNil))) (eBin oMod (eCall bInt (lCons (eBin oIx (eVar 0) (eC (.int 2))) lNil)) (eCall bMax2 (lCons (eC (.int 1)) (lCons (eCall bLen (lCons (eBin oIx (eVar 0) (eC (.int 1))) lNil)) lNil)))))) (sSeq (sIf (tB (eBin oGe (eVar 2) (eBin oPow (eC (.int 10)) (eC (.int 18))))) (sSeq (sIx (eBin oIx (eVar 0) (eC (.int 1))) (eBin oMod (eCall bInt (lCons (eBin oIx (eVar 0) (eC (.int 2))) lNil)) (eCall bLen (lCons (eBin oIx (eVar 0) (eC (.int 1))) lNil))) (eBin oDiv (eVar 2) (eVar 1))) (sRet (eBin oMod (eCall bInt (lCons (eVar 2) lNil)) (eVar 1)))) sNil) (sSeq (sIx (eVar 0) (eC (.int 0)) (eBin oMod (eCall bInt (lCons (eBin oAdd (eBin oAdd (eBin oMul (eBin oIx (eVar 0) (eC (.int 0))) (eC (.int 48271))) (eBin oMul (eVar 2) (eC (.int 69621)))) (eC (.int 11))) lNil)) (eC (.int 2147483647)))) (sSeq (sIx (eVar 0) (eC (.int 2)) (eBin oAdd (eBin oIx (eVar 0) (eC (.int 2))) (eC (.int 1)))) (sRet (eBin oMod (eCall bInt (lCons (eBin oDiv (eBin oIx (eVar 0) (eC (.int 0))) (eC (.int 7))) lNil)) (eVar 1)))))))
def f__law_next : FF := runF 2 1 (b__law_next)
/-- 0 _law_k -/
def b__law_bare : SS := (sSeq (sIf (qT (tB (eBin oEq (eVar 0) (eC (.int 0))))) (sRaise0 "InvalidMasters") sNil) (sSeq (sIf (qT (tB (eBin oEq (eVar 0) (eC (.int 1))))) (sRaise0 "InvalidSize") sNil) (sSeq (sIf (qT (tB (eBin oEq (eVar 0) (eC (.int 2))))) (sRaise0 "InvalidWords") sNil) (sRaise0 "NotComparable"))))
def f__law_bare : FF := runF 1 0 (b__law_bare)
/-- 0 _law_k, 1 _law_one, 2 _law_two -/
def b__law_thrown : SS := (sSeq (sIf (qT (tB (eBin oLt (eVar 0) (eC (.int 4))))) (sExpr (eCall f__law_bare (qL (lCons (eVar 0) lNil)))) sNil) (sSeq (sIf (qT (tB (eBin oEq (eVar 0) (eC (.int 4))))) (sRaiseN "InvalidDeed" ["index"] (qL (lCons (eVar 1) lNil))) sNil) (sSeq (sIf (qT (tB (eBin oEq (eVar 0) (eC (.int 5))))) (sRaiseN "UnknownKind" ["index"] (qL (lCons (eVar 1) lNil))) sNil) (sSeq (sIf (qT (tB (eBin oEq (eVar 0) (eC (.int 6))))) (sRaiseN "UnknownIndex" ["index"] (qL (lCons (eVar 1) lNil))) sNil) (sSeq (sIf (qT (tB (eBin oEq (eVar 0) (eC (.int 7))))) (sRaiseN "InvalidRule" ["point"] (qL (lCons (eVar 1) lNil))) sNil) (sSeq (sIf (qT (tB (eBin oEq (eVar 0) (eC (.int 8))))) (sRaiseN "UnknownDeed" ["deed"] (qL (lCons (eVar 1) lNil))) sNil) (sSeq (sIf (qT (tB (eBin oEq (eVar 0) (eC (.int 9))))) (sRaiseN "Possible" ["history"] (qL (lCons (eVar 1) lNil))) sNil) (sRaiseN "InvalidText" ["line", "word"] (qL (lCons (eVar 1) (lCons (eVar 2) lNil)))))))))))
def f__law_thrown : FF := runF 3 0 (b__law_thrown)
/-- 0 _law_e, 1 _law_found -/
def b__law_classes : Exc → SS := (xSeq (xSet 1 (xLst (xlCons (xIsE (clF [("InvalidDeed", false), ("InvalidMasters", true), ("InvalidRule", false), ("InvalidSize", false), ("InvalidText", false), ("InvalidWords", false), ("NotComparable", false), ("Possible", false), ("UnknownDeed", false), ("UnknownIndex", false), ("UnknownKind", false)])) (xlCons (xIsE (clF [("InvalidDeed", false), ("InvalidMasters", false), ("InvalidRule", false), ("InvalidSize", true), ("InvalidText", false), ("InvalidWords", false), ("NotComparable", false), ("Possible", false), ("UnknownDeed", false), ("UnknownIndex", false), ("UnknownKind", false)])) (xlCons (xIsE (clF [("InvalidDeed", false), ("InvalidMasters", false), ("InvalidRule", false), ("InvalidSize", false), ("InvalidText", false), ("InvalidWords", true), ("NotComparable", false), ("Possible", false), ("UnknownDeed", false), ("UnknownIndex", false), ("UnknownKind", false)])) xlNil))))) (xSeq (xSet 1 (xBin oAdd (fun _ => (eVar 1)) (xLst (xlCons (xIsE (clF [("InvalidDeed", false), ("InvalidMasters", false), ("InvalidRule", false), ("InvalidSize", false), ("InvalidText", false), ("InvalidWords", false), ("NotComparable", true), ("Possible", false), ("UnknownDeed", false), ("UnknownIndex", false), ("UnknownKind", false)])) (xlCons (xIsE (clF [("InvalidDeed", true), ("InvalidMasters", false), ("InvalidRule", false), ("InvalidSize", false), ("InvalidText", false), ("InvalidWords", false), ("NotComparable", false), ("Possible", false), ("UnknownDeed", false), ("UnknownIndex", false), ("UnknownKind", false)])) (xlCons (xIsE (clF [("InvalidDeed", false), ("InvalidMasters", false), ("InvalidRule", false), ("InvalidSize", false), ("InvalidText", false), ("InvalidWords", false), ("NotComparable", false), ("Possible", false), ("UnknownDeed", false), ("UnknownIndex", false), ("UnknownKind", true)])) xlNil)))))) (xSeq (xSet 1 (xBin oAdd (fun _ => (eVar 1)) (xLst (xlCons (xIsE (clF [("InvalidDeed", false), ("InvalidMasters", false), ("InvalidRule", false), ("InvalidSize", false), ("InvalidText", false), ("InvalidWords", false), ("NotComparable", false), ("Possible", false), ("UnknownDeed", false), ("UnknownIndex", true), ("UnknownKind", false)])) (xlCons (xIsE (clF [("InvalidDeed", false), ("InvalidMasters", false), ("InvalidRule", true), ("InvalidSize", false), ("InvalidText", false), ("InvalidWords", false), ("NotComparable", false), ("Possible", false), ("UnknownDeed", false), ("UnknownIndex", false), ("UnknownKind", false)])) (xlCons (xIsE (clF [("InvalidDeed", false), ("InvalidMasters", false), ("InvalidRule", false), ("InvalidSize", false), ("InvalidText", false), ("InvalidWords", false), ("NotComparable", false), ("Possible", false), ("UnknownDeed", true), ("UnknownIndex", false), ("UnknownKind", false)])) xlNil)))))) (xRet (xBin oAdd (fun _ => (eVar 1)) (xLst (xlCons (xIsE (clF [("InvalidDeed", false), ("InvalidMasters", false), ("InvalidRule", false), ("InvalidSize", false), ("InvalidText", false), ("InvalidWords", false), ("NotComparable", false), ("Possible", true), ("UnknownDeed", false), ("UnknownIndex", false), ("UnknownKind", false)])) (xlCons (xIsE (clF [("InvalidDeed", false), ("InvalidMasters", false), ("InvalidRule", false), ("InvalidSize", false), ("InvalidText", true), ("InvalidWords", false), ("NotComparable", false), ("Possible", false), ("UnknownDeed", false), ("UnknownIndex", false), ("UnknownKind", false)])) xlNil))))))))
def f__law_classes : Exc → FF := runX 0 1 b__law_classes
/-- 0 _law_k, 1 _law_e -/
def b__law_parts : Exc → SS := (xSeq (xIfS (tB (eBin oLt (eVar 0) (eC (.int 4)))) (xRet (fun _ => (eLst lNil))) xNil) (xSeq (xIfS (tB (eBin oLt (eVar 0) (eC (.int 7)))) (xRet (xLst (xlCons (xFldM ["InvalidDeed", "UnknownIndex", "UnknownKind"] "index") xlNil))) xNil) (xSeq (xIfS (tB (eBin oEq (eVar 0) (eC (.int 7)))) (xRet (xLst (xlCons (xFldM ["InvalidRule"] "point") xlNil))) xNil) (xSeq (xIfS (tB (eBin oEq (eVar 0) (eC (.int 8)))) (xRet (xLst (xlCons (xFldM ["UnknownDeed"] "deed") xlNil))) xNil) (xRet (xIfT (tB (eBin oEq (eVar 0) (eC (.int 9)))) (xLst (xlCons (xFldM ["Possible"] "history") xlNil)) (xLst (xlCons (xFldM ["InvalidText"] "line") (xlCons (xFldM ["InvalidText"] "word") xlNil)))))))))
def f__law_parts : Exc → FF := runX 1 0 b__law_parts
/-- 0 _law_k, 1 _law_one, 2 _law_two, 3 _law_good, 4 _law_due, 5 _law_e, 6 _law_other -/
def l__law_right_1 : EE := (eBin oEq (eVar 6) (eVar 0))
def l__law_right_2 : Exc → SS := (xSeq (xSet 3 (xAnd (xIsE (clF [("InvalidDeed", true), ("InvalidMasters", true), ("InvalidRule", true), ("InvalidSize", true), ("InvalidText", true), ("InvalidWords", true), ("NotComparable", true), ("Possible", true), ("UnknownDeed", true), ("UnknownIndex", true), ("UnknownKind", true)])) (xBin oEq (xCall f__law_classes lNil) (fun _ => eKeep (lComp (iRange0 (eC (.int 11))) (PA.gName 6) tYes l__law_right_1 [6]))))) (xSet 3 (xAnd (fun _ => (eVar 3)) (xBin oEq (xCall f__law_parts (lCons (eVar 0) lNil)) (fun _ => (eVar 4))))))
def b__law_right : SS := (sSeq (sSet 3 (eC (.bl false))) (sSeq (sSet 4 (eBin oAdd (eSliceL (eLst (lCons (eVar 1) lNil)) none (some (eCall bInt (lCons (eBin oGt (eVar 0) (eC (.int 3))) lNil)))) (eSliceL (eLst (lCons (eVar 2) lNil)) none (some (eCall bInt (lCons (eBin oGt (eVar 0) (eC (.int 9))) lNil)))))) (sSeq (sTryE (sExpr (eCall f__law_thrown (qL (lCons (eVar 0) (lCons (eVar 1) (lCons (eVar 2) lNil)))))) (fun x => ["InvalidDeed", "InvalidMasters", "InvalidRule", "InvalidSize", "InvalidText", "InvalidWords", "NotComparable", "Possible", "UnknownDeed", "UnknownIndex", "UnknownKind"].contains x) 5 l__law_right_2) (sRet (eVar 3)))))
def f__law_right : FF := runF 3 4 (b__law_right)
/-- 0 _law_script, 1 _law_h, 2 _law_one, 3 _law_two, 4 _law_k -/
def l_law_1 (ns : List Int) : EE := (eCall f__law_right (lCons (eVar 4) (lCons (eVar 2) (lCons (eVar 3) lNil))))
def b_law (ns : List Int) : SS := (sSeq (sSet 1 (eCall (f__law_mix ns) (lCons (eVar 0) (lCons (eC (.int 19)) lNil)))) (sSeq (sSet 2 (eBin oIx (eLst (lCons (eC (.str "a")) (lCons (eC (.str "")) (lCons (eC (.int 7)) (lCons (eTup (lCons (eC (.str "cut")) (lCons (eC (.int 0)) lNil))) (lCons (eC .non) lNil)))))) (eCall f__law_next (lCons (eVar 1) (lCons (eC (.int 5)) lNil))))) (sSeq (sSet 3 (eBin oIx (eLst (lCons (eTup lNil) (lCons (eC (.str "kind")) (lCons (eC (.int 0)) (lCons (eC .non) lNil))))) (eCall f__law_next (lCons (eVar 1) (lCons (eC (.int 4)) lNil))))) (sRet (eAllOf (lComp (iRange0 (eC (.int 11))) (PA.gName 4) tYes (l_law_1 ns) [4]))))))
def f_law (ns : List Int) : FF := runF 1 4 (b_law ns)
end K19
set_option maxRecDepth 100000
set_option maxHeartbeats 4000000
/-! Drv: each def does what Sem says. Printed by gen.py. -/
namespace K19
open PySem PySem.Spec PyProof.Rows L2 PA PL
def top (i : Nat) : Stmt := PySem.Challenge.pw_copyfollows_k19_errors_apart.main.body.getD i (.Pass ⟨0, 0, 0, 0⟩)
abbrev st__law_mix : Stmt := top 14
abbrev st__law_next : Stmt := top 15
abbrev st__law_bare : Stmt := top 16
abbrev st__law_thrown : Stmt := top 17
abbrev st__law_classes : Stmt := top 18
abbrev st__law_parts : Stmt := top 19
abbrev st__law_right : Stmt := top 20
abbrev st_law : Stmt := top 21
abbrev st_InvalidDeed___init__ : Stmt := inClass (top 6) 0
abbrev st_InvalidRule___init__ : Stmt := inClass (top 4) 0
abbrev st_InvalidText___init__ : Stmt := inClass (top 12) 0
abbrev st_Possible___init__ : Stmt := inClass (top 8) 0
abbrev st_UnknownDeed___init__ : Stmt := inClass (top 7) 0
abbrev st_UnknownIndex___init__ : Stmt := inClass (top 11) 0
abbrev st_UnknownKind___init__ : Stmt := inClass (top 10) 0
/-- what the top has written -/
structure Fx (C : Cz) : Prop where
  b_ValueError : XiB C "ValueError" (clF [("InvalidDeed", true), ("InvalidMasters", true), ("InvalidRule", true), ("InvalidSize", true), ("InvalidText", true), ("InvalidWords", true), ("NotComparable", true), ("Possible", true), ("UnknownDeed", true), ("UnknownIndex", true), ("UnknownKind", true)])
  e_InvalidMasters : ExcA0 C "InvalidMasters"
  e_InvalidSize : ExcA0 C "InvalidSize"
  e_InvalidWords : ExcA0 C "InvalidWords"
  e_NotComparable : ExcA0 C "NotComparable"
  m_InvalidDeed__CopyError : PySem.W.exmOne C.K (.ref (C.ad "InvalidDeed")) (.ref (C.ad "CopyError")) = some true
  m_InvalidMasters__CopyError : PySem.W.exmOne C.K (.ref (C.ad "InvalidMasters")) (.ref (C.ad "CopyError")) = some true
  m_InvalidRule__CopyError : PySem.W.exmOne C.K (.ref (C.ad "InvalidRule")) (.ref (C.ad "CopyError")) = some true
  m_InvalidSize__CopyError : PySem.W.exmOne C.K (.ref (C.ad "InvalidSize")) (.ref (C.ad "CopyError")) = some true
  m_InvalidText__CopyError : PySem.W.exmOne C.K (.ref (C.ad "InvalidText")) (.ref (C.ad "CopyError")) = some true
  m_InvalidWords__CopyError : PySem.W.exmOne C.K (.ref (C.ad "InvalidWords")) (.ref (C.ad "CopyError")) = some true
  m_NotComparable__CopyError : PySem.W.exmOne C.K (.ref (C.ad "NotComparable")) (.ref (C.ad "CopyError")) = some true
  m_Possible__CopyError : PySem.W.exmOne C.K (.ref (C.ad "Possible")) (.ref (C.ad "CopyError")) = some true
  m_UnknownDeed__CopyError : PySem.W.exmOne C.K (.ref (C.ad "UnknownDeed")) (.ref (C.ad "CopyError")) = some true
  m_UnknownIndex__CopyError : PySem.W.exmOne C.K (.ref (C.ad "UnknownIndex")) (.ref (C.ad "CopyError")) = some true
  m_UnknownKind__CopyError : PySem.W.exmOne C.K (.ref (C.ad "UnknownKind")) (.ref (C.ad "CopyError")) = some true
  n_InvalidDeed : ExcAN C "InvalidDeed" ["index"]
  n_InvalidRule : ExcAN C "InvalidRule" ["point"]
  n_InvalidText : ExcAN C "InvalidText" ["line", "word"]
  n_Possible : ExcAN C "Possible" ["history"]
  n_UnknownDeed : ExcAN C "UnknownDeed" ["deed"]
  n_UnknownIndex : ExcAN C "UnknownIndex" ["index"]
  n_UnknownKind : ExcAN C "UnknownKind" ["index"]
  w_InvalidDeed__CopyError : XiA C "InvalidDeed" (clF [("InvalidDeed", true), ("InvalidMasters", false), ("InvalidRule", false), ("InvalidSize", false), ("InvalidText", false), ("InvalidWords", false), ("NotComparable", false), ("Possible", false), ("UnknownDeed", false), ("UnknownIndex", false), ("UnknownKind", false)])
  w_InvalidMasters__CopyError : XiA C "InvalidMasters" (clF [("InvalidDeed", false), ("InvalidMasters", true), ("InvalidRule", false), ("InvalidSize", false), ("InvalidText", false), ("InvalidWords", false), ("NotComparable", false), ("Possible", false), ("UnknownDeed", false), ("UnknownIndex", false), ("UnknownKind", false)])
  w_InvalidRule__CopyError : XiA C "InvalidRule" (clF [("InvalidDeed", false), ("InvalidMasters", false), ("InvalidRule", true), ("InvalidSize", false), ("InvalidText", false), ("InvalidWords", false), ("NotComparable", false), ("Possible", false), ("UnknownDeed", false), ("UnknownIndex", false), ("UnknownKind", false)])
  w_InvalidSize__CopyError : XiA C "InvalidSize" (clF [("InvalidDeed", false), ("InvalidMasters", false), ("InvalidRule", false), ("InvalidSize", true), ("InvalidText", false), ("InvalidWords", false), ("NotComparable", false), ("Possible", false), ("UnknownDeed", false), ("UnknownIndex", false), ("UnknownKind", false)])
  w_InvalidText__CopyError : XiA C "InvalidText" (clF [("InvalidDeed", false), ("InvalidMasters", false), ("InvalidRule", false), ("InvalidSize", false), ("InvalidText", true), ("InvalidWords", false), ("NotComparable", false), ("Possible", false), ("UnknownDeed", false), ("UnknownIndex", false), ("UnknownKind", false)])
  w_InvalidWords__CopyError : XiA C "InvalidWords" (clF [("InvalidDeed", false), ("InvalidMasters", false), ("InvalidRule", false), ("InvalidSize", false), ("InvalidText", false), ("InvalidWords", true), ("NotComparable", false), ("Possible", false), ("UnknownDeed", false), ("UnknownIndex", false), ("UnknownKind", false)])
  w_NotComparable__CopyError : XiA C "NotComparable" (clF [("InvalidDeed", false), ("InvalidMasters", false), ("InvalidRule", false), ("InvalidSize", false), ("InvalidText", false), ("InvalidWords", false), ("NotComparable", true), ("Possible", false), ("UnknownDeed", false), ("UnknownIndex", false), ("UnknownKind", false)])
  w_Possible__CopyError : XiA C "Possible" (clF [("InvalidDeed", false), ("InvalidMasters", false), ("InvalidRule", false), ("InvalidSize", false), ("InvalidText", false), ("InvalidWords", false), ("NotComparable", false), ("Possible", true), ("UnknownDeed", false), ("UnknownIndex", false), ("UnknownKind", false)])
  w_UnknownDeed__CopyError : XiA C "UnknownDeed" (clF [("InvalidDeed", false), ("InvalidMasters", false), ("InvalidRule", false), ("InvalidSize", false), ("InvalidText", false), ("InvalidWords", false), ("NotComparable", false), ("Possible", false), ("UnknownDeed", true), ("UnknownIndex", false), ("UnknownKind", false)])
  w_UnknownIndex__CopyError : XiA C "UnknownIndex" (clF [("InvalidDeed", false), ("InvalidMasters", false), ("InvalidRule", false), ("InvalidSize", false), ("InvalidText", false), ("InvalidWords", false), ("NotComparable", false), ("Possible", false), ("UnknownDeed", false), ("UnknownIndex", true), ("UnknownKind", false)])
  w_UnknownKind__CopyError : XiA C "UnknownKind" (clF [("InvalidDeed", false), ("InvalidMasters", false), ("InvalidRule", false), ("InvalidSize", false), ("InvalidText", false), ("InvalidWords", false), ("NotComparable", false), ("Possible", false), ("UnknownDeed", false), ("UnknownIndex", false), ("UnknownKind", true)])
  x_CopyError : C.mg "CopyError" = some (.ref (C.ad "CopyError"))
  y_InvalidDeed_index : XfA C "InvalidDeed" "index"
  y_InvalidRule_point : XfA C "InvalidRule" "point"
  y_InvalidText_line : XfA C "InvalidText" "line"
  y_InvalidText_word : XfA C "InvalidText" "word"
  y_Possible_history : XfA C "Possible" "history"
  y_UnknownDeed_deed : XfA C "UnknownDeed" "deed"
  y_UnknownIndex_index : XfA C "UnknownIndex" "index"
  y_UnknownKind_index : XfA C "UnknownKind" "index"
  z_all : C.mg "all" = none
  z_int : C.mg "int" = none
  z_isinstance : C.mg "isinstance" = none
  z_len : C.mg "len" = none
  z_list : C.mg "list" = none
  z_max : C.mg "max" = none
  z_range : C.mg "range" = none
  D__law_mix : ∃ f fd, L2.Fun C.K "_law_mix" "_law_mix" st__law_mix f fd ∧ Binds C.K fd ["_law_script", "_law_seed"] [] ∧ C.mg "_law_mix" = some (.ref f) ∧ PySem.W.keepIn C.K (.ref f) = true
  D__law_next : ∃ f fd, L2.Fun C.K "_law_next" "_law_next" st__law_next f fd ∧ Binds C.K fd ["_law_h", "_law_bound"] [] ∧ C.mg "_law_next" = some (.ref f) ∧ PySem.W.keepIn C.K (.ref f) = true
  D__law_bare : ∃ f fd, L2.Fun C.K "_law_bare" "_law_bare" st__law_bare f fd ∧ Binds C.K fd ["_law_k"] [] ∧ C.mg "_law_bare" = some (.ref f) ∧ PySem.W.keepIn C.K (.ref f) = true
  D__law_thrown : ∃ f fd, L2.Fun C.K "_law_thrown" "_law_thrown" st__law_thrown f fd ∧ Binds C.K fd ["_law_k", "_law_one", "_law_two"] [] ∧ C.mg "_law_thrown" = some (.ref f) ∧ PySem.W.keepIn C.K (.ref f) = true
  D__law_classes : ∃ f fd, L2.Fun C.K "_law_classes" "_law_classes" st__law_classes f fd ∧ Binds C.K fd ["_law_e"] [] ∧ C.mg "_law_classes" = some (.ref f) ∧ PySem.W.keepIn C.K (.ref f) = true
  D__law_parts : ∃ f fd, L2.Fun C.K "_law_parts" "_law_parts" st__law_parts f fd ∧ Binds C.K fd ["_law_k", "_law_e"] [] ∧ C.mg "_law_parts" = some (.ref f) ∧ PySem.W.keepIn C.K (.ref f) = true
  D__law_right : ∃ f fd, L2.Fun C.K "_law_right" "_law_right" st__law_right f fd ∧ Binds C.K fd ["_law_k", "_law_one", "_law_two"] [] ∧ C.mg "_law_right" = some (.ref f) ∧ PySem.W.keepIn C.K (.ref f) = true
  D_law : ∃ f fd, L2.Fun C.K "law" "law" st_law f fd ∧ Binds C.K fd ["_law_script"] [] ∧ C.mg "law" = some (.ref f) ∧ PySem.W.keepIn C.K (.ref f) = true
theorem sc_InvalidDeed___init__ : FnScope ["self", "index"] ["self", "index"] (defScope st_InvalidDeed___init__) := ⟨rfl, rfl, rfl, by decide +kernel, rfl, by decide +kernel, by decide +kernel⟩
theorem sc_InvalidRule___init__ : FnScope ["self", "point"] ["self", "point"] (defScope st_InvalidRule___init__) := ⟨rfl, rfl, rfl, by decide +kernel, rfl, by decide +kernel, by decide +kernel⟩
theorem sc_InvalidText___init__ : FnScope ["self", "line", "word"] ["self", "line", "word"] (defScope st_InvalidText___init__) := ⟨rfl, rfl, rfl, by decide +kernel, rfl, by decide +kernel, by decide +kernel⟩
theorem sc_Possible___init__ : FnScope ["self", "history"] ["self", "history"] (defScope st_Possible___init__) := ⟨rfl, rfl, rfl, by decide +kernel, rfl, by decide +kernel, by decide +kernel⟩
theorem sc_UnknownDeed___init__ : FnScope ["self", "deed"] ["self", "deed"] (defScope st_UnknownDeed___init__) := ⟨rfl, rfl, rfl, by decide +kernel, rfl, by decide +kernel, by decide +kernel⟩
theorem sc_UnknownIndex___init__ : FnScope ["self", "index"] ["self", "index"] (defScope st_UnknownIndex___init__) := ⟨rfl, rfl, rfl, by decide +kernel, rfl, by decide +kernel, by decide +kernel⟩
theorem sc_UnknownKind___init__ : FnScope ["self", "index"] ["self", "index"] (defScope st_UnknownKind___init__) := ⟨rfl, rfl, rfl, by decide +kernel, rfl, by decide +kernel, by decide +kernel⟩
section
variable {C : Cz}
abbrev nm__law_mix : List Str := ["_law_script", "_law_seed", "_law_state", "_law_cell"]
theorem sc__law_mix : FnScope nm__law_mix ["_law_script", "_law_seed"] (defScope st__law_mix) := ⟨rfl, rfl, rfl, by decide +kernel, rfl, by decide +kernel, by decide +kernel⟩
theorem ok__law_mix (T : Fx C) {f : Addr} {fd : FuncData} (F : L2.Fun C.K "_law_mix" "_law_mix" st__law_mix f fd) : FnA C 1 f fd ["_law_script", "_law_seed"] (f__law_mix C.scr) := by
  exact fn_okA (k := 0) F sc__law_mix fun cdv A outer s H E g => (rs_cons (rs_set 2 g.nd (re_var 1)) (rs_cons (rs_for g (L2.passes_of rfl) (ri_scr g (re_var 0)) (rg_name g.nd) (rs_one (rs_set 2 g.nd (re_bin op_modA (re_callTy g cr_int T.z_int (by decide +kernel) (rl_cons (re_bin (op_addA g.hK) (re_bin (op_addA g.hK) (re_bin (op_mulA g) (re_var 2) re_int) (re_bin op_modA (re_callTy g cr_int T.z_int (by decide +kernel) (rl_cons (re_var 3) rl_nil)) re_int)) re_int) rl_nil)) re_int)))) (rs_one (rs_ret (re_lst (rl_cons (re_var 2) (rl_cons (re_callTy g (cr_listS g) T.z_list (by decide +kernel) (rl_cons (re_var 0) rl_nil)) (rl_cons re_int (rl_cons re_int rl_nil)))))))))
theorem cx__law_mix (T : Fx C) : CalA C 1 "_law_mix" (f__law_mix C.scr) := by
  obtain ⟨f, fd, F, b, m, kp⟩ := T.D__law_mix
  exact ⟨⟨f, fd, _, ok__law_mix T F, m, kp, b⟩⟩
abbrev nm__law_next : List Str := ["_law_h", "_law_bound", "_law_cell"]
theorem sc__law_next : FnScope nm__law_next ["_law_h", "_law_bound"] (defScope st__law_next) := ⟨rfl, rfl, rfl, by decide +kernel, rfl, by decide +kernel, by decide +kernel⟩
theorem ok__law_next (T : Fx C) {f : Addr} {fd : FuncData} (F : L2.Fun C.K "_law_next" "_law_next" st__law_next f fd) : FnA C 1 f fd ["_law_h", "_law_bound"] (f__law_next) := by
  exact fn_okA (k := 0) F sc__law_next fun cdv A outer s H E g => (rs_cons (rs_set 2 g.nd (re_ix g.hK (re_bin (op_addA g.hK) (re_ix g.hK (re_var 0) re_int) (re_lst (rl_cons re_int rl_nil))) (re_bin op_modA (re_callTy g cr_int T.z_int (by decide +kernel) (rl_cons (re_ix g.hK (re_var 0) re_int) rl_nil)) (re_callB g (cr_max2 g) T.z_max (by decide +kernel) (rl_cons re_int (rl_cons (re_callB g (cr_len g) T.z_len (by decide +kernel) (rl_cons (re_ix g.hK (re_var 0) re_int) rl_nil)) rl_nil)))))) (rs_cons (rs_if (rt_cmp op_geA (re_var 2) (re_bin op_powA re_int re_int)) (rs_cons (rs_ix (re_bin op_divA (re_var 2) (re_var 1)) (re_ix g.hK (re_var 0) re_int) (re_bin op_modA (re_callTy g cr_int T.z_int (by decide +kernel) (rl_cons (re_ix g.hK (re_var 0) re_int) rl_nil)) (re_callB g (cr_len g) T.z_len (by decide +kernel) (rl_cons (re_ix g.hK (re_var 0) re_int) rl_nil)))) (rs_one (rs_ret (re_bin op_modA (re_callTy g cr_int T.z_int (by decide +kernel) (rl_cons (re_var 2) rl_nil)) (re_var 1))))) rs_nil) (rs_cons (rs_ix (re_bin op_modA (re_callTy g cr_int T.z_int (by decide +kernel) (rl_cons (re_bin (op_addA g.hK) (re_bin (op_addA g.hK) (re_bin (op_mulA g) (re_ix g.hK (re_var 0) re_int) re_int) (re_bin (op_mulA g) (re_var 2) re_int)) re_int) rl_nil)) re_int) (re_var 0) re_int) (rs_cons (rs_ix (re_bin (op_addA g.hK) (re_ix g.hK (re_var 0) re_int) re_int) (re_var 0) re_int) (rs_one (rs_ret (re_bin op_modA (re_callTy g cr_int T.z_int (by decide +kernel) (rl_cons (re_bin op_divA (re_ix g.hK (re_var 0) re_int) re_int) rl_nil)) (re_var 1))))))))
theorem cx__law_next (T : Fx C) : CalA C 1 "_law_next" (f__law_next) := by
  obtain ⟨f, fd, F, b, m, kp⟩ := T.D__law_next
  exact ⟨⟨f, fd, _, ok__law_next T F, m, kp, b⟩⟩
abbrev nm__law_bare : List Str := ["_law_k"]
theorem sc__law_bare : FnScope nm__law_bare ["_law_k"] (defScope st__law_bare) := ⟨rfl, rfl, rfl, by decide +kernel, rfl, by decide +kernel, by decide +kernel⟩
theorem ok__law_bare (T : Fx C) {f : Addr} {fd : FuncData} (F : L2.Fun C.K "_law_bare" "_law_bare" st__law_bare f fd) : FnN C 1 f fd ["_law_k"] f__law_bare := by
  exact fn_okN (k := 0) F sc__law_bare fun cdv A outer s H E g => (rsn_cons (rsn_if (rt_cmp (op_eqA g.hK g.room.units) (re_var 0) re_int) (rsn_one (rsn_raise0 g T.e_InvalidMasters)) rsn_nil) (rsn_cons (rsn_if (rt_cmp (op_eqA g.hK g.room.units) (re_var 0) re_int) (rsn_one (rsn_raise0 g T.e_InvalidSize)) rsn_nil) (rsn_cons (rsn_if (rt_cmp (op_eqA g.hK g.room.units) (re_var 0) re_int) (rsn_one (rsn_raise0 g T.e_InvalidWords)) rsn_nil) (rsn_one (rsn_raise0 g T.e_NotComparable)))))
theorem cx__law_bare (T : Fx C) : CalN C 1 "_law_bare" f__law_bare := by
  obtain ⟨f, fd, F, b, m, kp⟩ := T.D__law_bare
  exact ⟨⟨f, fd, _, ok__law_bare T F, m, kp, b⟩⟩
abbrev nm__law_thrown : List Str := ["_law_k", "_law_one", "_law_two"]
theorem sc__law_thrown : FnScope nm__law_thrown ["_law_k", "_law_one", "_law_two"] (defScope st__law_thrown) := ⟨rfl, rfl, rfl, by decide +kernel, rfl, by decide +kernel, by decide +kernel⟩
theorem ok__law_thrown (T : Fx C) {f : Addr} {fd : FuncData} (F : L2.Fun C.K "_law_thrown" "_law_thrown" st__law_thrown f fd) : FnN C 3 f fd ["_law_k", "_law_one", "_law_two"] f__law_thrown := by
  have C__law_bare := cx__law_bare T
  exact fn_okN (k := 2) F sc__law_thrown fun cdv A outer s H E g => (rsn_cons (rsn_if (rt_cmp op_ltA (re_var 0) re_int) (rsn_one (rsn_call g C__law_bare (rl_cons (re_var 0) rl_nil))) rsn_nil) (rsn_cons (rsn_if (rt_cmp (op_eqA g.hK g.room.units) (re_var 0) re_int) (rsn_one (rsn_raiseN g T.n_InvalidDeed (rl_cons (re_var 1) rl_nil))) rsn_nil) (rsn_cons (rsn_if (rt_cmp (op_eqA g.hK g.room.units) (re_var 0) re_int) (rsn_one (rsn_raiseN g T.n_UnknownKind (rl_cons (re_var 1) rl_nil))) rsn_nil) (rsn_cons (rsn_if (rt_cmp (op_eqA g.hK g.room.units) (re_var 0) re_int) (rsn_one (rsn_raiseN g T.n_UnknownIndex (rl_cons (re_var 1) rl_nil))) rsn_nil) (rsn_cons (rsn_if (rt_cmp (op_eqA g.hK g.room.units) (re_var 0) re_int) (rsn_one (rsn_raiseN g T.n_InvalidRule (rl_cons (re_var 1) rl_nil))) rsn_nil) (rsn_cons (rsn_if (rt_cmp (op_eqA g.hK g.room.units) (re_var 0) re_int) (rsn_one (rsn_raiseN g T.n_UnknownDeed (rl_cons (re_var 1) rl_nil))) rsn_nil) (rsn_cons (rsn_if (rt_cmp (op_eqA g.hK g.room.units) (re_var 0) re_int) (rsn_one (rsn_raiseN g T.n_Possible (rl_cons (re_var 1) rl_nil))) rsn_nil) (rsn_one (rsn_raiseN g T.n_InvalidText (rl_cons (re_var 1) (rl_cons (re_var 2) rl_nil)))))))))))
theorem cx__law_thrown (T : Fx C) : CalN C 3 "_law_thrown" f__law_thrown := by
  obtain ⟨f, fd, F, b, m, kp⟩ := T.D__law_thrown
  exact ⟨⟨f, fd, _, ok__law_thrown T F, m, kp, b⟩⟩
abbrev nm__law_classes : List Str := ["_law_e", "_law_found"]
theorem sc__law_classes : FnScope nm__law_classes ["_law_e"] (defScope st__law_classes) := ⟨rfl, rfl, rfl, by decide +kernel, rfl, by decide +kernel, by decide +kernel⟩
theorem ok__law_classes (T : Fx C) {f : Addr} {fd : FuncData} (F : L2.Fun C.K "_law_classes" "_law_classes" st__law_classes f fd) : FnE C 1 f fd ["_law_e"] f__law_classes := by
  exact fn_okE (k := 0) F sc__law_classes (by decide) fun cdv A outer s H E p cls d g => (rxs_cons (rx1_set 1 (by decide) g.nd (rx_lst (rxl_cons (rx_isH (i := 0) T.w_InvalidMasters__CopyError g T.z_isinstance) (rxl_cons (rx_isH (i := 0) T.w_InvalidSize__CopyError g T.z_isinstance) (rxl_cons (rx_isH (i := 0) T.w_InvalidWords__CopyError g T.z_isinstance) rxl_nil))))) (rxs_cons (rx1_set 1 (by decide) g.nd (rx_bin (op_addA g.hK) (rx_re (re_var 1)) (rx_lst (rxl_cons (rx_isH (i := 0) T.w_NotComparable__CopyError g T.z_isinstance) (rxl_cons (rx_isH (i := 0) T.w_InvalidDeed__CopyError g T.z_isinstance) (rxl_cons (rx_isH (i := 0) T.w_UnknownKind__CopyError g T.z_isinstance) rxl_nil)))))) (rxs_cons (rx1_set 1 (by decide) g.nd (rx_bin (op_addA g.hK) (rx_re (re_var 1)) (rx_lst (rxl_cons (rx_isH (i := 0) T.w_UnknownIndex__CopyError g T.z_isinstance) (rxl_cons (rx_isH (i := 0) T.w_InvalidRule__CopyError g T.z_isinstance) (rxl_cons (rx_isH (i := 0) T.w_UnknownDeed__CopyError g T.z_isinstance) rxl_nil)))))) (rxs_one (rx1_ret (rx_bin (op_addA g.hK) (rx_re (re_var 1)) (rx_lst (rxl_cons (rx_isH (i := 0) T.w_Possible__CopyError g T.z_isinstance) (rxl_cons (rx_isH (i := 0) T.w_InvalidText__CopyError g T.z_isinstance) rxl_nil)))))))))
theorem cx__law_classes (T : Fx C) : CalE C 1 "_law_classes" f__law_classes := by
  obtain ⟨f, fd, F, b, m, kp⟩ := T.D__law_classes
  exact ⟨⟨f, fd, _, ok__law_classes T F, m, kp, b⟩⟩
abbrev nm__law_parts : List Str := ["_law_k", "_law_e"]
theorem sc__law_parts : FnScope nm__law_parts ["_law_k", "_law_e"] (defScope st__law_parts) := ⟨rfl, rfl, rfl, by decide +kernel, rfl, by decide +kernel, by decide +kernel⟩
theorem ok__law_parts (T : Fx C) {f : Addr} {fd : FuncData} (F : L2.Fun C.K "_law_parts" "_law_parts" st__law_parts f fd) : FnE C 1 f fd ["_law_k", "_law_e"] f__law_parts := by
  exact fn_okE (k := 0) F sc__law_parts (by decide) fun cdv A outer s H E p cls d g => (rxs_cons (rx1_if (rt_cmp op_ltA (re_var 0) re_int) (rxs_one (rx1_ret (rx_re (re_lst rl_nil)))) rxs_nil) (rxs_cons (rx1_if (rt_cmp op_ltA (re_var 0) re_int) (rxs_one (rx1_ret (rx_lst (rxl_cons (rx_fldM (i := 1) (List.forall_mem_cons.mpr ⟨T.y_InvalidDeed_index, (List.forall_mem_cons.mpr ⟨T.y_UnknownIndex_index, (List.forall_mem_cons.mpr ⟨T.y_UnknownKind_index, (fun _ z => nomatch z)⟩)⟩)⟩) g) rxl_nil)))) rxs_nil) (rxs_cons (rx1_if (rt_cmp (op_eqA g.hK g.units) (re_var 0) re_int) (rxs_one (rx1_ret (rx_lst (rxl_cons (rx_fldM (i := 1) (List.forall_mem_cons.mpr ⟨T.y_InvalidRule_point, (fun _ z => nomatch z)⟩) g) rxl_nil)))) rxs_nil) (rxs_cons (rx1_if (rt_cmp (op_eqA g.hK g.units) (re_var 0) re_int) (rxs_one (rx1_ret (rx_lst (rxl_cons (rx_fldM (i := 1) (List.forall_mem_cons.mpr ⟨T.y_UnknownDeed_deed, (fun _ z => nomatch z)⟩) g) rxl_nil)))) rxs_nil) (rxs_one (rx1_ret (rx_ifT (rt_cmp (op_eqA g.hK g.units) (re_var 0) re_int) (rx_lst (rxl_cons (rx_fldM (i := 1) (List.forall_mem_cons.mpr ⟨T.y_Possible_history, (fun _ z => nomatch z)⟩) g) rxl_nil)) (rx_lst (rxl_cons (rx_fldM (i := 1) (List.forall_mem_cons.mpr ⟨T.y_InvalidText_line, (fun _ z => nomatch z)⟩) g) (rxl_cons (rx_fldM (i := 1) (List.forall_mem_cons.mpr ⟨T.y_InvalidText_word, (fun _ z => nomatch z)⟩) g) rxl_nil))))))))))
theorem cx__law_parts (T : Fx C) : CalE C 1 "_law_parts" f__law_parts := by
  obtain ⟨f, fd, F, b, m, kp⟩ := T.D__law_parts
  exact ⟨⟨f, fd, _, ok__law_parts T F, m, kp, b⟩⟩
abbrev nm__law_right : List Str := ["_law_k", "_law_one", "_law_two", "_law_good", "_law_due", "_law_e", "_law_other"]
theorem sc__law_right : FnScope nm__law_right ["_law_k", "_law_one", "_law_two"] (defScope st__law_right) := ⟨rfl, rfl, rfl, by decide +kernel, rfl, by decide +kernel, by decide +kernel⟩
theorem ok__law_right (T : Fx C) {f : Addr} {fd : FuncData} (F : L2.Fun C.K "_law_right" "_law_right" st__law_right f fd) : FnA C 4 f fd ["_law_k", "_law_one", "_law_two"] (f__law_right) := by
  have C__law_thrown := cx__law_thrown T
  have C__law_classes := cx__law_classes T
  have C__law_parts := cx__law_parts T
  exact fn_okA (k := 3) F sc__law_right fun cdv A outer s H E g => (rs_cons (rs_set 3 g.nd re_bl) (rs_cons (rs_set 4 g.nd (re_bin (op_addA g.hK) (re_sliceL g.hK (re_lst (rl_cons (re_var 1) rl_nil)) ro_none (ro_some (re_callTy g cr_int T.z_int (by decide +kernel) (rl_cons (re_cmp op_gtA (re_var 0) re_int) rl_nil)))) (re_sliceL g.hK (re_lst (rl_cons (re_var 2) rl_nil)) ro_none (ro_some (re_callTy g cr_int T.z_int (by decide +kernel) (rl_cons (re_cmp op_gtA (re_var 0) re_int) rl_nil)))))) (rs_cons (rs_tryE (i := 5) g T.x_CopyError (hfE (List.forall_mem_cons.mpr ⟨T.m_InvalidDeed__CopyError, (List.forall_mem_cons.mpr ⟨T.m_InvalidMasters__CopyError, (List.forall_mem_cons.mpr ⟨T.m_InvalidRule__CopyError, (List.forall_mem_cons.mpr ⟨T.m_InvalidSize__CopyError, (List.forall_mem_cons.mpr ⟨T.m_InvalidText__CopyError, (List.forall_mem_cons.mpr ⟨T.m_InvalidWords__CopyError, (List.forall_mem_cons.mpr ⟨T.m_NotComparable__CopyError, (List.forall_mem_cons.mpr ⟨T.m_Possible__CopyError, (List.forall_mem_cons.mpr ⟨T.m_UnknownDeed__CopyError, (List.forall_mem_cons.mpr ⟨T.m_UnknownIndex__CopyError, (List.forall_mem_cons.mpr ⟨T.m_UnknownKind__CopyError, (fun _ z => nomatch z)⟩)⟩)⟩)⟩)⟩)⟩)⟩)⟩)⟩)⟩)⟩)) (fun pn xe g => (rsn_one (rsn_call g C__law_thrown (rl_cons (re_var 0) (rl_cons (re_var 1) (rl_cons (re_var 2) rl_nil)))))) (fun a oe cls d pn y => (rxs_cons (rx1_set 3 (by decide) y.nd (rx_and (rx_isB (i := 5) T.b_ValueError y T.z_isinstance (by decide +kernel)) (rx_one (rx_cmp (op_eqA y.hK y.units) (rx_callE y C__law_classes (rxa_e (i := 5) (fun σ h => h))) (rx_re (re_keep (rm_lcH (own := [("_law_other", 6)]) y.hotC y.nd (ri_range0H (by rw [y.hm]; exact T.z_range) re_int) (blkOk_by (N := nm__law_right) (sc := defScope st__law_right) (own := [("_law_other", 6)]) (by decide +kernel)) (fun _ _ _ _ _ => rg_name y.nd) (fun _ _ _ _ _ => rts_nil) (fun _ _ _ _ _ => (re_cmp (op_eqA y.hK y.units) (re_var 6) (re_var 0)))))))))) (rxs_one (rx1_set 3 (by decide) y.nd (rx_and (rx_re (re_var 3)) (rx_one (rx_cmp (op_eqA y.hK y.units) (rx_callE y C__law_parts (rxa_cons (re_var 0) (rxa_e (i := 5) (fun σ h => h)))) (rx_re (re_var 4)))))))))) (rs_one (rs_ret (re_var 3))))))
theorem cx__law_right (T : Fx C) : CalA C 4 "_law_right" (f__law_right) := by
  obtain ⟨f, fd, F, b, m, kp⟩ := T.D__law_right
  exact ⟨⟨f, fd, _, ok__law_right T F, m, kp, b⟩⟩
abbrev nm_law : List Str := ["_law_script", "_law_h", "_law_one", "_law_two", "_law_k"]
theorem sc_law : FnScope nm_law ["_law_script"] (defScope st_law) := ⟨rfl, rfl, rfl, by decide +kernel, rfl, by decide +kernel, by decide +kernel⟩
theorem ok_law (T : Fx C) {f : Addr} {fd : FuncData} (F : L2.Fun C.K "law" "law" st_law f fd) : FnA C 5 f fd ["_law_script"] (f_law C.scr) := by
  have C__law_mix := cx__law_mix T
  have C__law_next := cx__law_next T
  have C__law_right := cx__law_right T
  exact fn_okA (k := 4) F sc_law fun cdv A outer s H E g => (rs_cons (rs_set 1 g.nd (re_call g C__law_mix (rl_cons (re_var 0) (rl_cons re_int rl_nil)))) (rs_cons (rs_set 2 g.nd (re_ix g.hK (re_lst (rl_cons re_str (rl_cons re_str (rl_cons re_int (rl_cons (re_tup (rl_cons re_str (rl_cons re_int rl_nil))) (rl_cons re_non rl_nil)))))) (re_call g C__law_next (rl_cons (re_var 1) (rl_cons re_int rl_nil))))) (rs_cons (rs_set 3 g.nd (re_ix g.hK (re_lst (rl_cons (re_tup rl_nil) (rl_cons re_str (rl_cons re_int (rl_cons re_non rl_nil))))) (re_call g C__law_next (rl_cons (re_var 1) (rl_cons re_int rl_nil))))) (rs_one (rs_ret (re_allOf g T.z_all (rm_lc (own := [("_law_k", 4)]) g (ri_range0 g T.z_range re_int) (blkOk_by (N := nm_law) (sc := defScope st_law) (own := [("_law_k", 4)]) (by decide +kernel)) (fun _ _ _ _ _ => (rg_name g.nd)) (fun _ _ _ _ _ g' => rts_nil) (fun _ _ _ _ _ g' => (re_call g' C__law_right (rl_cons (re_var 4) (rl_cons (re_var 2) (rl_cons (re_var 3) rl_nil))))))))))))
theorem cx_law (T : Fx C) : CalA C 5 "law" (f_law C.scr) := by
  obtain ⟨f, fd, F, b, m, kp⟩ := T.D_law
  exact ⟨⟨f, fd, _, ok_law T F, m, kp, b⟩⟩
end
end K19
set_option maxRecDepth 100000
set_option maxHeartbeats 4000000
/-! Join: the facts that the top has written, the promise of the law. Printed by gen.py. -/
namespace K19
open PySem PySem.Spec PyProof.Rows L2 PA PL
theorem fx_mk {C : Cz} {h : PySem.Heap} (X : C.K.In h) (G : h.Ns mainGlobals C.mg) (sl_CopyError : C.sl "CopyError" = none) (sl_InvalidDeed : C.sl "InvalidDeed" = none) (sl_InvalidMasters : C.sl "InvalidMasters" = none) (sl_InvalidRule : C.sl "InvalidRule" = none) (sl_InvalidSize : C.sl "InvalidSize" = none) (sl_InvalidText : C.sl "InvalidText" = none) (sl_InvalidWords : C.sl "InvalidWords" = none) (sl_NotComparable : C.sl "NotComparable" = none) (sl_Possible : C.sl "Possible" = none) (sl_UnknownDeed : C.sl "UnknownDeed" = none) (sl_UnknownIndex : C.sl "UnknownIndex" = none) (sl_UnknownKind : C.sl "UnknownKind" = none)
    {nm_InvalidDeed qn_InvalidDeed : Str} {N_InvalidDeed : Addr} {bs_InvalidDeed : List Value} {sn_InvalidDeed : List Str} {sub_InvalidDeed : List Value} {ab_InvalidDeed : Bool} {col_InvalidDeed : Option Bool} {dd_InvalidDeed : Option Addr} {k0_InvalidDeed k1_InvalidDeed k2_InvalidDeed k3_InvalidDeed k5_InvalidDeed : Option Value}
    {w_InvalidDeed___init__ : Addr} {od_InvalidDeed___init__ an_InvalidDeed___init__ : Option Addr} {sl_InvalidDeed___init__ : Array (Option Value)} {oc_InvalidDeed___init__ kV_InvalidDeed___init__ dc_InvalidDeed___init__ pm_InvalidDeed___init__ cd_InvalidDeed___init__ ct_InvalidDeed___init__ : Value}
    {nm_InvalidRule qn_InvalidRule : Str} {N_InvalidRule : Addr} {bs_InvalidRule : List Value} {sn_InvalidRule : List Str} {sub_InvalidRule : List Value} {ab_InvalidRule : Bool} {col_InvalidRule : Option Bool} {dd_InvalidRule : Option Addr} {k0_InvalidRule k1_InvalidRule k2_InvalidRule k3_InvalidRule k5_InvalidRule : Option Value}
    {w_InvalidRule___init__ : Addr} {od_InvalidRule___init__ an_InvalidRule___init__ : Option Addr} {sl_InvalidRule___init__ : Array (Option Value)} {oc_InvalidRule___init__ kV_InvalidRule___init__ dc_InvalidRule___init__ pm_InvalidRule___init__ cd_InvalidRule___init__ ct_InvalidRule___init__ : Value}
    {nm_InvalidText qn_InvalidText : Str} {N_InvalidText : Addr} {bs_InvalidText : List Value} {sn_InvalidText : List Str} {sub_InvalidText : List Value} {ab_InvalidText : Bool} {col_InvalidText : Option Bool} {dd_InvalidText : Option Addr} {k0_InvalidText k1_InvalidText k2_InvalidText k3_InvalidText k5_InvalidText : Option Value}
    {w_InvalidText___init__ : Addr} {od_InvalidText___init__ an_InvalidText___init__ : Option Addr} {sl_InvalidText___init__ : Array (Option Value)} {oc_InvalidText___init__ kV_InvalidText___init__ dc_InvalidText___init__ pm_InvalidText___init__ cd_InvalidText___init__ ct_InvalidText___init__ : Value}
    {nm_Possible qn_Possible : Str} {N_Possible : Addr} {bs_Possible : List Value} {sn_Possible : List Str} {sub_Possible : List Value} {ab_Possible : Bool} {col_Possible : Option Bool} {dd_Possible : Option Addr} {k0_Possible k1_Possible k2_Possible k3_Possible k5_Possible : Option Value}
    {w_Possible___init__ : Addr} {od_Possible___init__ an_Possible___init__ : Option Addr} {sl_Possible___init__ : Array (Option Value)} {oc_Possible___init__ kV_Possible___init__ dc_Possible___init__ pm_Possible___init__ cd_Possible___init__ ct_Possible___init__ : Value}
    {nm_UnknownDeed qn_UnknownDeed : Str} {N_UnknownDeed : Addr} {bs_UnknownDeed : List Value} {sn_UnknownDeed : List Str} {sub_UnknownDeed : List Value} {ab_UnknownDeed : Bool} {col_UnknownDeed : Option Bool} {dd_UnknownDeed : Option Addr} {k0_UnknownDeed k1_UnknownDeed k2_UnknownDeed k3_UnknownDeed k5_UnknownDeed : Option Value}
    {w_UnknownDeed___init__ : Addr} {od_UnknownDeed___init__ an_UnknownDeed___init__ : Option Addr} {sl_UnknownDeed___init__ : Array (Option Value)} {oc_UnknownDeed___init__ kV_UnknownDeed___init__ dc_UnknownDeed___init__ pm_UnknownDeed___init__ cd_UnknownDeed___init__ ct_UnknownDeed___init__ : Value}
    {nm_UnknownIndex qn_UnknownIndex : Str} {N_UnknownIndex : Addr} {bs_UnknownIndex : List Value} {sn_UnknownIndex : List Str} {sub_UnknownIndex : List Value} {ab_UnknownIndex : Bool} {col_UnknownIndex : Option Bool} {dd_UnknownIndex : Option Addr} {k0_UnknownIndex k1_UnknownIndex k2_UnknownIndex k3_UnknownIndex k5_UnknownIndex : Option Value}
    {w_UnknownIndex___init__ : Addr} {od_UnknownIndex___init__ an_UnknownIndex___init__ : Option Addr} {sl_UnknownIndex___init__ : Array (Option Value)} {oc_UnknownIndex___init__ kV_UnknownIndex___init__ dc_UnknownIndex___init__ pm_UnknownIndex___init__ cd_UnknownIndex___init__ ct_UnknownIndex___init__ : Value}
    {nm_UnknownKind qn_UnknownKind : Str} {N_UnknownKind : Addr} {bs_UnknownKind : List Value} {sn_UnknownKind : List Str} {sub_UnknownKind : List Value} {ab_UnknownKind : Bool} {col_UnknownKind : Option Bool} {dd_UnknownKind : Option Addr} {k0_UnknownKind k1_UnknownKind k2_UnknownKind k3_UnknownKind k5_UnknownKind : Option Value}
    {w_UnknownKind___init__ : Addr} {od_UnknownKind___init__ an_UnknownKind___init__ : Option Addr} {sl_UnknownKind___init__ : Array (Option Value)} {oc_UnknownKind___init__ kV_UnknownKind___init__ dc_UnknownKind___init__ pm_UnknownKind___init__ cd_UnknownKind___init__ ct_UnknownKind___init__ : Value}
    {w__law_mix : Addr} {od__law_mix an__law_mix : Option Addr} {sl__law_mix : Array (Option Value)} {oc__law_mix kV__law_mix dc__law_mix pm__law_mix cd__law_mix ct__law_mix : Value}
    {w__law_next : Addr} {od__law_next an__law_next : Option Addr} {sl__law_next : Array (Option Value)} {oc__law_next kV__law_next dc__law_next pm__law_next cd__law_next ct__law_next : Value}
    {w__law_bare : Addr} {od__law_bare an__law_bare : Option Addr} {sl__law_bare : Array (Option Value)} {oc__law_bare kV__law_bare dc__law_bare pm__law_bare cd__law_bare ct__law_bare : Value}
    {w__law_thrown : Addr} {od__law_thrown an__law_thrown : Option Addr} {sl__law_thrown : Array (Option Value)} {oc__law_thrown kV__law_thrown dc__law_thrown pm__law_thrown cd__law_thrown ct__law_thrown : Value}
    {w__law_classes : Addr} {od__law_classes an__law_classes : Option Addr} {sl__law_classes : Array (Option Value)} {oc__law_classes kV__law_classes dc__law_classes pm__law_classes cd__law_classes ct__law_classes : Value}
    {w__law_parts : Addr} {od__law_parts an__law_parts : Option Addr} {sl__law_parts : Array (Option Value)} {oc__law_parts kV__law_parts dc__law_parts pm__law_parts cd__law_parts ct__law_parts : Value}
    {w__law_right : Addr} {od__law_right an__law_right : Option Addr} {sl__law_right : Array (Option Value)} {oc__law_right kV__law_right dc__law_right pm__law_right cd__law_right ct__law_right : Value}
    {w_law : Addr} {od_law an_law : Option Addr} {sl_law : Array (Option Value)} {oc_law kV_law dc_law pm_law cd_law ct_law : Value}
    (gc_CopyError : PySem.W.nsIn C.K mainGlobals "CopyError" = some (some (.ref (C.ad "CopyError"))))
    (gc_InvalidDeed : PySem.W.nsIn C.K mainGlobals "InvalidDeed" = some (some (.ref (C.ad "InvalidDeed"))))
    (gc_InvalidMasters : PySem.W.nsIn C.K mainGlobals "InvalidMasters" = some (some (.ref (C.ad "InvalidMasters"))))
    (gc_InvalidRule : PySem.W.nsIn C.K mainGlobals "InvalidRule" = some (some (.ref (C.ad "InvalidRule"))))
    (gc_InvalidSize : PySem.W.nsIn C.K mainGlobals "InvalidSize" = some (some (.ref (C.ad "InvalidSize"))))
    (gc_InvalidText : PySem.W.nsIn C.K mainGlobals "InvalidText" = some (some (.ref (C.ad "InvalidText"))))
    (gc_InvalidWords : PySem.W.nsIn C.K mainGlobals "InvalidWords" = some (some (.ref (C.ad "InvalidWords"))))
    (gc_NotComparable : PySem.W.nsIn C.K mainGlobals "NotComparable" = some (some (.ref (C.ad "NotComparable"))))
    (gc_Possible : PySem.W.nsIn C.K mainGlobals "Possible" = some (some (.ref (C.ad "Possible"))))
    (gc_UnknownDeed : PySem.W.nsIn C.K mainGlobals "UnknownDeed" = some (some (.ref (C.ad "UnknownDeed"))))
    (gc_UnknownIndex : PySem.W.nsIn C.K mainGlobals "UnknownIndex" = some (some (.ref (C.ad "UnknownIndex"))))
    (gc_UnknownKind : PySem.W.nsIn C.K mainGlobals "UnknownKind" = some (some (.ref (C.ad "UnknownKind"))))
    (ya_UnknownKind : PySem.W.findIn C.K (.ref (C.ad "UnknownKind")) "__getattribute__" = some (some (.builtin "BaseException.__getattribute__")))
    (yb_UnknownKind : PySem.W.findIn C.K (.ref (C.ad "UnknownKind")) "__getattr__" = some none)
    (yc_UnknownKind : PySem.W.subIn C.K (.ref (C.ad "UnknownKind")) (.type "BaseException") = some true)
    (yd_UnknownKind : PySem.W.hasDictIn C.K (C.ad "UnknownKind") = true)
    (ca_UnknownKind : PySem.W.findIn C.K (.ref (C.ad "UnknownKind")) "__class__" = some (some (.builtin "object.__class__")))
    (cn_UnknownKind : PySem.W.specialIn C.K (.builtin "object.__class__") "__get__" = some (some (.builtin "getset_descriptor.__get__")))
    (ct_UnknownKind : PySem.W.takesIn C.K (.builtin "object.__class__") = some true)
    (cm_UnknownKind : PySem.W.mroIn C.K (C.ad "UnknownKind") (.type "object") = some true)
    (no_x_UnknownKind_ValueError : PySem.W.kitOne C.K (.ref (C.ad "UnknownKind")) (.type "ValueError") = some true)
    (ya_UnknownIndex : PySem.W.findIn C.K (.ref (C.ad "UnknownIndex")) "__getattribute__" = some (some (.builtin "BaseException.__getattribute__")))
    (yb_UnknownIndex : PySem.W.findIn C.K (.ref (C.ad "UnknownIndex")) "__getattr__" = some none)
    (yc_UnknownIndex : PySem.W.subIn C.K (.ref (C.ad "UnknownIndex")) (.type "BaseException") = some true)
    (yd_UnknownIndex : PySem.W.hasDictIn C.K (C.ad "UnknownIndex") = true)
    (ca_UnknownIndex : PySem.W.findIn C.K (.ref (C.ad "UnknownIndex")) "__class__" = some (some (.builtin "object.__class__")))
    (cn_UnknownIndex : PySem.W.specialIn C.K (.builtin "object.__class__") "__get__" = some (some (.builtin "getset_descriptor.__get__")))
    (ct_UnknownIndex : PySem.W.takesIn C.K (.builtin "object.__class__") = some true)
    (cm_UnknownIndex : PySem.W.mroIn C.K (C.ad "UnknownIndex") (.type "object") = some true)
    (no_x_UnknownIndex_ValueError : PySem.W.kitOne C.K (.ref (C.ad "UnknownIndex")) (.type "ValueError") = some true)
    (ya_UnknownDeed : PySem.W.findIn C.K (.ref (C.ad "UnknownDeed")) "__getattribute__" = some (some (.builtin "BaseException.__getattribute__")))
    (yb_UnknownDeed : PySem.W.findIn C.K (.ref (C.ad "UnknownDeed")) "__getattr__" = some none)
    (yc_UnknownDeed : PySem.W.subIn C.K (.ref (C.ad "UnknownDeed")) (.type "BaseException") = some true)
    (yd_UnknownDeed : PySem.W.hasDictIn C.K (C.ad "UnknownDeed") = true)
    (ca_UnknownDeed : PySem.W.findIn C.K (.ref (C.ad "UnknownDeed")) "__class__" = some (some (.builtin "object.__class__")))
    (cn_UnknownDeed : PySem.W.specialIn C.K (.builtin "object.__class__") "__get__" = some (some (.builtin "getset_descriptor.__get__")))
    (ct_UnknownDeed : PySem.W.takesIn C.K (.builtin "object.__class__") = some true)
    (cm_UnknownDeed : PySem.W.mroIn C.K (C.ad "UnknownDeed") (.type "object") = some true)
    (no_x_UnknownDeed_ValueError : PySem.W.kitOne C.K (.ref (C.ad "UnknownDeed")) (.type "ValueError") = some true)
    (ya_Possible : PySem.W.findIn C.K (.ref (C.ad "Possible")) "__getattribute__" = some (some (.builtin "BaseException.__getattribute__")))
    (yb_Possible : PySem.W.findIn C.K (.ref (C.ad "Possible")) "__getattr__" = some none)
    (yc_Possible : PySem.W.subIn C.K (.ref (C.ad "Possible")) (.type "BaseException") = some true)
    (yd_Possible : PySem.W.hasDictIn C.K (C.ad "Possible") = true)
    (ca_Possible : PySem.W.findIn C.K (.ref (C.ad "Possible")) "__class__" = some (some (.builtin "object.__class__")))
    (cn_Possible : PySem.W.specialIn C.K (.builtin "object.__class__") "__get__" = some (some (.builtin "getset_descriptor.__get__")))
    (ct_Possible : PySem.W.takesIn C.K (.builtin "object.__class__") = some true)
    (cm_Possible : PySem.W.mroIn C.K (C.ad "Possible") (.type "object") = some true)
    (no_x_Possible_ValueError : PySem.W.kitOne C.K (.ref (C.ad "Possible")) (.type "ValueError") = some true)
    (ya_NotComparable : PySem.W.findIn C.K (.ref (C.ad "NotComparable")) "__getattribute__" = some (some (.builtin "BaseException.__getattribute__")))
    (yb_NotComparable : PySem.W.findIn C.K (.ref (C.ad "NotComparable")) "__getattr__" = some none)
    (yc_NotComparable : PySem.W.subIn C.K (.ref (C.ad "NotComparable")) (.type "BaseException") = some true)
    (yd_NotComparable : PySem.W.hasDictIn C.K (C.ad "NotComparable") = true)
    (ca_NotComparable : PySem.W.findIn C.K (.ref (C.ad "NotComparable")) "__class__" = some (some (.builtin "object.__class__")))
    (cn_NotComparable : PySem.W.specialIn C.K (.builtin "object.__class__") "__get__" = some (some (.builtin "getset_descriptor.__get__")))
    (ct_NotComparable : PySem.W.takesIn C.K (.builtin "object.__class__") = some true)
    (cm_NotComparable : PySem.W.mroIn C.K (C.ad "NotComparable") (.type "object") = some true)
    (no_x_NotComparable_ValueError : PySem.W.kitOne C.K (.ref (C.ad "NotComparable")) (.type "ValueError") = some true)
    (ya_InvalidWords : PySem.W.findIn C.K (.ref (C.ad "InvalidWords")) "__getattribute__" = some (some (.builtin "BaseException.__getattribute__")))
    (yb_InvalidWords : PySem.W.findIn C.K (.ref (C.ad "InvalidWords")) "__getattr__" = some none)
    (yc_InvalidWords : PySem.W.subIn C.K (.ref (C.ad "InvalidWords")) (.type "BaseException") = some true)
    (yd_InvalidWords : PySem.W.hasDictIn C.K (C.ad "InvalidWords") = true)
    (ca_InvalidWords : PySem.W.findIn C.K (.ref (C.ad "InvalidWords")) "__class__" = some (some (.builtin "object.__class__")))
    (cn_InvalidWords : PySem.W.specialIn C.K (.builtin "object.__class__") "__get__" = some (some (.builtin "getset_descriptor.__get__")))
    (ct_InvalidWords : PySem.W.takesIn C.K (.builtin "object.__class__") = some true)
    (cm_InvalidWords : PySem.W.mroIn C.K (C.ad "InvalidWords") (.type "object") = some true)
    (no_x_InvalidWords_ValueError : PySem.W.kitOne C.K (.ref (C.ad "InvalidWords")) (.type "ValueError") = some true)
    (ya_InvalidText : PySem.W.findIn C.K (.ref (C.ad "InvalidText")) "__getattribute__" = some (some (.builtin "BaseException.__getattribute__")))
    (yb_InvalidText : PySem.W.findIn C.K (.ref (C.ad "InvalidText")) "__getattr__" = some none)
    (yc_InvalidText : PySem.W.subIn C.K (.ref (C.ad "InvalidText")) (.type "BaseException") = some true)
    (yd_InvalidText : PySem.W.hasDictIn C.K (C.ad "InvalidText") = true)
    (ca_InvalidText : PySem.W.findIn C.K (.ref (C.ad "InvalidText")) "__class__" = some (some (.builtin "object.__class__")))
    (cn_InvalidText : PySem.W.specialIn C.K (.builtin "object.__class__") "__get__" = some (some (.builtin "getset_descriptor.__get__")))
    (ct_InvalidText : PySem.W.takesIn C.K (.builtin "object.__class__") = some true)
    (cm_InvalidText : PySem.W.mroIn C.K (C.ad "InvalidText") (.type "object") = some true)
    (no_x_InvalidText_ValueError : PySem.W.kitOne C.K (.ref (C.ad "InvalidText")) (.type "ValueError") = some true)
    (ya_InvalidSize : PySem.W.findIn C.K (.ref (C.ad "InvalidSize")) "__getattribute__" = some (some (.builtin "BaseException.__getattribute__")))
    (yb_InvalidSize : PySem.W.findIn C.K (.ref (C.ad "InvalidSize")) "__getattr__" = some none)
    (yc_InvalidSize : PySem.W.subIn C.K (.ref (C.ad "InvalidSize")) (.type "BaseException") = some true)
    (yd_InvalidSize : PySem.W.hasDictIn C.K (C.ad "InvalidSize") = true)
    (ca_InvalidSize : PySem.W.findIn C.K (.ref (C.ad "InvalidSize")) "__class__" = some (some (.builtin "object.__class__")))
    (cn_InvalidSize : PySem.W.specialIn C.K (.builtin "object.__class__") "__get__" = some (some (.builtin "getset_descriptor.__get__")))
    (ct_InvalidSize : PySem.W.takesIn C.K (.builtin "object.__class__") = some true)
    (cm_InvalidSize : PySem.W.mroIn C.K (C.ad "InvalidSize") (.type "object") = some true)
    (no_x_InvalidSize_ValueError : PySem.W.kitOne C.K (.ref (C.ad "InvalidSize")) (.type "ValueError") = some true)
    (ya_InvalidRule : PySem.W.findIn C.K (.ref (C.ad "InvalidRule")) "__getattribute__" = some (some (.builtin "BaseException.__getattribute__")))
    (yb_InvalidRule : PySem.W.findIn C.K (.ref (C.ad "InvalidRule")) "__getattr__" = some none)
    (yc_InvalidRule : PySem.W.subIn C.K (.ref (C.ad "InvalidRule")) (.type "BaseException") = some true)
    (yd_InvalidRule : PySem.W.hasDictIn C.K (C.ad "InvalidRule") = true)
    (ca_InvalidRule : PySem.W.findIn C.K (.ref (C.ad "InvalidRule")) "__class__" = some (some (.builtin "object.__class__")))
    (cn_InvalidRule : PySem.W.specialIn C.K (.builtin "object.__class__") "__get__" = some (some (.builtin "getset_descriptor.__get__")))
    (ct_InvalidRule : PySem.W.takesIn C.K (.builtin "object.__class__") = some true)
    (cm_InvalidRule : PySem.W.mroIn C.K (C.ad "InvalidRule") (.type "object") = some true)
    (no_x_InvalidRule_ValueError : PySem.W.kitOne C.K (.ref (C.ad "InvalidRule")) (.type "ValueError") = some true)
    (ya_InvalidMasters : PySem.W.findIn C.K (.ref (C.ad "InvalidMasters")) "__getattribute__" = some (some (.builtin "BaseException.__getattribute__")))
    (yb_InvalidMasters : PySem.W.findIn C.K (.ref (C.ad "InvalidMasters")) "__getattr__" = some none)
    (yc_InvalidMasters : PySem.W.subIn C.K (.ref (C.ad "InvalidMasters")) (.type "BaseException") = some true)
    (yd_InvalidMasters : PySem.W.hasDictIn C.K (C.ad "InvalidMasters") = true)
    (ca_InvalidMasters : PySem.W.findIn C.K (.ref (C.ad "InvalidMasters")) "__class__" = some (some (.builtin "object.__class__")))
    (cn_InvalidMasters : PySem.W.specialIn C.K (.builtin "object.__class__") "__get__" = some (some (.builtin "getset_descriptor.__get__")))
    (ct_InvalidMasters : PySem.W.takesIn C.K (.builtin "object.__class__") = some true)
    (cm_InvalidMasters : PySem.W.mroIn C.K (C.ad "InvalidMasters") (.type "object") = some true)
    (no_x_InvalidMasters_ValueError : PySem.W.kitOne C.K (.ref (C.ad "InvalidMasters")) (.type "ValueError") = some true)
    (ya_InvalidDeed : PySem.W.findIn C.K (.ref (C.ad "InvalidDeed")) "__getattribute__" = some (some (.builtin "BaseException.__getattribute__")))
    (yb_InvalidDeed : PySem.W.findIn C.K (.ref (C.ad "InvalidDeed")) "__getattr__" = some none)
    (yc_InvalidDeed : PySem.W.subIn C.K (.ref (C.ad "InvalidDeed")) (.type "BaseException") = some true)
    (yd_InvalidDeed : PySem.W.hasDictIn C.K (C.ad "InvalidDeed") = true)
    (ca_InvalidDeed : PySem.W.findIn C.K (.ref (C.ad "InvalidDeed")) "__class__" = some (some (.builtin "object.__class__")))
    (cn_InvalidDeed : PySem.W.specialIn C.K (.builtin "object.__class__") "__get__" = some (some (.builtin "getset_descriptor.__get__")))
    (ct_InvalidDeed : PySem.W.takesIn C.K (.builtin "object.__class__") = some true)
    (cm_InvalidDeed : PySem.W.mroIn C.K (C.ad "InvalidDeed") (.type "object") = some true)
    (no_x_InvalidDeed_ValueError : PySem.W.kitOne C.K (.ref (C.ad "InvalidDeed")) (.type "ValueError") = some true)
    (zb_ValueError : PySem.W.nsIn C.K mainGlobals "ValueError" = some none)
    (xi_InvalidMasters : PySem.W.excIn C.K (C.ad "InvalidMasters") [.type "ValueError", .type "Exception", .type "BaseException", .type "object"] "ValueError.__new__" = true)
    (ek_InvalidMasters : PySem.W.keepIn C.K (.ref (C.ad "InvalidMasters")) = true)
    (eb_InvalidMasters : PySem.W.subIn C.K (.ref (C.ad "InvalidMasters")) (.type "BaseException") = some true)
    (et_InvalidMasters : PySem.W.typeIn C.K (.ref (C.ad "InvalidMasters")) = some (.type "type"))
    (xi_InvalidSize : PySem.W.excIn C.K (C.ad "InvalidSize") [.type "ValueError", .type "Exception", .type "BaseException", .type "object"] "ValueError.__new__" = true)
    (ek_InvalidSize : PySem.W.keepIn C.K (.ref (C.ad "InvalidSize")) = true)
    (eb_InvalidSize : PySem.W.subIn C.K (.ref (C.ad "InvalidSize")) (.type "BaseException") = some true)
    (et_InvalidSize : PySem.W.typeIn C.K (.ref (C.ad "InvalidSize")) = some (.type "type"))
    (xi_InvalidWords : PySem.W.excIn C.K (C.ad "InvalidWords") [.type "ValueError", .type "Exception", .type "BaseException", .type "object"] "ValueError.__new__" = true)
    (ek_InvalidWords : PySem.W.keepIn C.K (.ref (C.ad "InvalidWords")) = true)
    (eb_InvalidWords : PySem.W.subIn C.K (.ref (C.ad "InvalidWords")) (.type "BaseException") = some true)
    (et_InvalidWords : PySem.W.typeIn C.K (.ref (C.ad "InvalidWords")) = some (.type "type"))
    (xi_NotComparable : PySem.W.excIn C.K (C.ad "NotComparable") [.type "ValueError", .type "Exception", .type "BaseException", .type "object"] "ValueError.__new__" = true)
    (ek_NotComparable : PySem.W.keepIn C.K (.ref (C.ad "NotComparable")) = true)
    (eb_NotComparable : PySem.W.subIn C.K (.ref (C.ad "NotComparable")) (.type "BaseException") = some true)
    (et_NotComparable : PySem.W.typeIn C.K (.ref (C.ad "NotComparable")) = some (.type "type"))
    (m_InvalidDeed__CopyError : PySem.W.exmOne C.K (.ref (C.ad "InvalidDeed")) (.ref (C.ad "CopyError")) = some true)
    (m_InvalidMasters__CopyError : PySem.W.exmOne C.K (.ref (C.ad "InvalidMasters")) (.ref (C.ad "CopyError")) = some true)
    (m_InvalidRule__CopyError : PySem.W.exmOne C.K (.ref (C.ad "InvalidRule")) (.ref (C.ad "CopyError")) = some true)
    (m_InvalidSize__CopyError : PySem.W.exmOne C.K (.ref (C.ad "InvalidSize")) (.ref (C.ad "CopyError")) = some true)
    (m_InvalidText__CopyError : PySem.W.exmOne C.K (.ref (C.ad "InvalidText")) (.ref (C.ad "CopyError")) = some true)
    (m_InvalidWords__CopyError : PySem.W.exmOne C.K (.ref (C.ad "InvalidWords")) (.ref (C.ad "CopyError")) = some true)
    (m_NotComparable__CopyError : PySem.W.exmOne C.K (.ref (C.ad "NotComparable")) (.ref (C.ad "CopyError")) = some true)
    (m_Possible__CopyError : PySem.W.exmOne C.K (.ref (C.ad "Possible")) (.ref (C.ad "CopyError")) = some true)
    (m_UnknownDeed__CopyError : PySem.W.exmOne C.K (.ref (C.ad "UnknownDeed")) (.ref (C.ad "CopyError")) = some true)
    (m_UnknownIndex__CopyError : PySem.W.exmOne C.K (.ref (C.ad "UnknownIndex")) (.ref (C.ad "CopyError")) = some true)
    (m_UnknownKind__CopyError : PySem.W.exmOne C.K (.ref (C.ad "UnknownKind")) (.ref (C.ad "CopyError")) = some true)
    (xl_InvalidDeed : C.K.lookup (C.ad "InvalidDeed") = some (PySem.excClassObj nm_InvalidDeed qn_InvalidDeed (C.ad "InvalidDeed") N_InvalidDeed bs_InvalidDeed [.ref (C.ad "CopyError"), .type "ValueError", .type "Exception", .type "BaseException", .type "object"] true sn_InvalidDeed sub_InvalidDeed ab_InvalidDeed col_InvalidDeed dd_InvalidDeed k0_InvalidDeed k1_InvalidDeed k2_InvalidDeed k3_InvalidDeed k5_InvalidDeed "ValueError.__new__"))
    (xs_InvalidDeed : PySem.W.findIn C.K (.ref (C.ad "InvalidDeed")) "__setattr__" = some (some (.builtin "object.__setattr__")))
    (ek_InvalidDeed : PySem.W.keepIn C.K (.ref (C.ad "InvalidDeed")) = true)
    (eb_InvalidDeed : PySem.W.subIn C.K (.ref (C.ad "InvalidDeed")) (.type "BaseException") = some true)
    (et_InvalidDeed : PySem.W.typeIn C.K (.ref (C.ad "InvalidDeed")) = some (.type "type"))
    (a_InvalidDeed___init__ : PySem.W.findIn C.K (.ref (C.ad "InvalidDeed")) "__init__" = some (some (.ref w_InvalidDeed___init__)))
    (ty_InvalidDeed___init__ : PySem.W.typeIn C.K (.ref w_InvalidDeed___init__) = some (.type "function"))
    (l_InvalidDeed___init__ : C.K.lookup w_InvalidDeed___init__ = some ⟨oc_InvalidDeed___init__, od_InvalidDeed___init__, .func (PySem.W.fnOf "__init__" "InvalidDeed.__init__" (defArgs st_InvalidDeed___init__) (defBody st_InvalidDeed___init__) (defScope st_InvalidDeed___init__) .none kV_InvalidDeed___init__ dc_InvalidDeed___init__ pm_InvalidDeed___init__ an_InvalidDeed___init__ cd_InvalidDeed___init__ ct_InvalidDeed___init__), sl_InvalidDeed___init__⟩)
    (c_InvalidDeed___init__ : PySem.W.codeIn C.K cd_InvalidDeed___init__ "InvalidDeed.__init__" = true)
    (k_InvalidDeed___init__ : PySem.W.keepIn C.K (.ref w_InvalidDeed___init__) = true)
    (no_f_InvalidDeed_index : PySem.W.findIn C.K (.ref (C.ad "InvalidDeed")) "index" = some none)
    (xl_InvalidRule : C.K.lookup (C.ad "InvalidRule") = some (PySem.excClassObj nm_InvalidRule qn_InvalidRule (C.ad "InvalidRule") N_InvalidRule bs_InvalidRule [.ref (C.ad "CopyError"), .type "ValueError", .type "Exception", .type "BaseException", .type "object"] true sn_InvalidRule sub_InvalidRule ab_InvalidRule col_InvalidRule dd_InvalidRule k0_InvalidRule k1_InvalidRule k2_InvalidRule k3_InvalidRule k5_InvalidRule "ValueError.__new__"))
    (xs_InvalidRule : PySem.W.findIn C.K (.ref (C.ad "InvalidRule")) "__setattr__" = some (some (.builtin "object.__setattr__")))
    (ek_InvalidRule : PySem.W.keepIn C.K (.ref (C.ad "InvalidRule")) = true)
    (eb_InvalidRule : PySem.W.subIn C.K (.ref (C.ad "InvalidRule")) (.type "BaseException") = some true)
    (et_InvalidRule : PySem.W.typeIn C.K (.ref (C.ad "InvalidRule")) = some (.type "type"))
    (a_InvalidRule___init__ : PySem.W.findIn C.K (.ref (C.ad "InvalidRule")) "__init__" = some (some (.ref w_InvalidRule___init__)))
    (ty_InvalidRule___init__ : PySem.W.typeIn C.K (.ref w_InvalidRule___init__) = some (.type "function"))
    (l_InvalidRule___init__ : C.K.lookup w_InvalidRule___init__ = some ⟨oc_InvalidRule___init__, od_InvalidRule___init__, .func (PySem.W.fnOf "__init__" "InvalidRule.__init__" (defArgs st_InvalidRule___init__) (defBody st_InvalidRule___init__) (defScope st_InvalidRule___init__) .none kV_InvalidRule___init__ dc_InvalidRule___init__ pm_InvalidRule___init__ an_InvalidRule___init__ cd_InvalidRule___init__ ct_InvalidRule___init__), sl_InvalidRule___init__⟩)
    (c_InvalidRule___init__ : PySem.W.codeIn C.K cd_InvalidRule___init__ "InvalidRule.__init__" = true)
    (k_InvalidRule___init__ : PySem.W.keepIn C.K (.ref w_InvalidRule___init__) = true)
    (no_f_InvalidRule_point : PySem.W.findIn C.K (.ref (C.ad "InvalidRule")) "point" = some none)
    (xl_InvalidText : C.K.lookup (C.ad "InvalidText") = some (PySem.excClassObj nm_InvalidText qn_InvalidText (C.ad "InvalidText") N_InvalidText bs_InvalidText [.ref (C.ad "CopyError"), .type "ValueError", .type "Exception", .type "BaseException", .type "object"] true sn_InvalidText sub_InvalidText ab_InvalidText col_InvalidText dd_InvalidText k0_InvalidText k1_InvalidText k2_InvalidText k3_InvalidText k5_InvalidText "ValueError.__new__"))
    (xs_InvalidText : PySem.W.findIn C.K (.ref (C.ad "InvalidText")) "__setattr__" = some (some (.builtin "object.__setattr__")))
    (ek_InvalidText : PySem.W.keepIn C.K (.ref (C.ad "InvalidText")) = true)
    (eb_InvalidText : PySem.W.subIn C.K (.ref (C.ad "InvalidText")) (.type "BaseException") = some true)
    (et_InvalidText : PySem.W.typeIn C.K (.ref (C.ad "InvalidText")) = some (.type "type"))
    (a_InvalidText___init__ : PySem.W.findIn C.K (.ref (C.ad "InvalidText")) "__init__" = some (some (.ref w_InvalidText___init__)))
    (ty_InvalidText___init__ : PySem.W.typeIn C.K (.ref w_InvalidText___init__) = some (.type "function"))
    (l_InvalidText___init__ : C.K.lookup w_InvalidText___init__ = some ⟨oc_InvalidText___init__, od_InvalidText___init__, .func (PySem.W.fnOf "__init__" "InvalidText.__init__" (defArgs st_InvalidText___init__) (defBody st_InvalidText___init__) (defScope st_InvalidText___init__) .none kV_InvalidText___init__ dc_InvalidText___init__ pm_InvalidText___init__ an_InvalidText___init__ cd_InvalidText___init__ ct_InvalidText___init__), sl_InvalidText___init__⟩)
    (c_InvalidText___init__ : PySem.W.codeIn C.K cd_InvalidText___init__ "InvalidText.__init__" = true)
    (k_InvalidText___init__ : PySem.W.keepIn C.K (.ref w_InvalidText___init__) = true)
    (no_f_InvalidText_line : PySem.W.findIn C.K (.ref (C.ad "InvalidText")) "line" = some none)
    (no_f_InvalidText_word : PySem.W.findIn C.K (.ref (C.ad "InvalidText")) "word" = some none)
    (xl_Possible : C.K.lookup (C.ad "Possible") = some (PySem.excClassObj nm_Possible qn_Possible (C.ad "Possible") N_Possible bs_Possible [.ref (C.ad "CopyError"), .type "ValueError", .type "Exception", .type "BaseException", .type "object"] true sn_Possible sub_Possible ab_Possible col_Possible dd_Possible k0_Possible k1_Possible k2_Possible k3_Possible k5_Possible "ValueError.__new__"))
    (xs_Possible : PySem.W.findIn C.K (.ref (C.ad "Possible")) "__setattr__" = some (some (.builtin "object.__setattr__")))
    (ek_Possible : PySem.W.keepIn C.K (.ref (C.ad "Possible")) = true)
    (eb_Possible : PySem.W.subIn C.K (.ref (C.ad "Possible")) (.type "BaseException") = some true)
    (et_Possible : PySem.W.typeIn C.K (.ref (C.ad "Possible")) = some (.type "type"))
    (a_Possible___init__ : PySem.W.findIn C.K (.ref (C.ad "Possible")) "__init__" = some (some (.ref w_Possible___init__)))
    (ty_Possible___init__ : PySem.W.typeIn C.K (.ref w_Possible___init__) = some (.type "function"))
    (l_Possible___init__ : C.K.lookup w_Possible___init__ = some ⟨oc_Possible___init__, od_Possible___init__, .func (PySem.W.fnOf "__init__" "Possible.__init__" (defArgs st_Possible___init__) (defBody st_Possible___init__) (defScope st_Possible___init__) .none kV_Possible___init__ dc_Possible___init__ pm_Possible___init__ an_Possible___init__ cd_Possible___init__ ct_Possible___init__), sl_Possible___init__⟩)
    (c_Possible___init__ : PySem.W.codeIn C.K cd_Possible___init__ "Possible.__init__" = true)
    (k_Possible___init__ : PySem.W.keepIn C.K (.ref w_Possible___init__) = true)
    (no_f_Possible_history : PySem.W.findIn C.K (.ref (C.ad "Possible")) "history" = some none)
    (xl_UnknownDeed : C.K.lookup (C.ad "UnknownDeed") = some (PySem.excClassObj nm_UnknownDeed qn_UnknownDeed (C.ad "UnknownDeed") N_UnknownDeed bs_UnknownDeed [.ref (C.ad "CopyError"), .type "ValueError", .type "Exception", .type "BaseException", .type "object"] true sn_UnknownDeed sub_UnknownDeed ab_UnknownDeed col_UnknownDeed dd_UnknownDeed k0_UnknownDeed k1_UnknownDeed k2_UnknownDeed k3_UnknownDeed k5_UnknownDeed "ValueError.__new__"))
    (xs_UnknownDeed : PySem.W.findIn C.K (.ref (C.ad "UnknownDeed")) "__setattr__" = some (some (.builtin "object.__setattr__")))
    (ek_UnknownDeed : PySem.W.keepIn C.K (.ref (C.ad "UnknownDeed")) = true)
    (eb_UnknownDeed : PySem.W.subIn C.K (.ref (C.ad "UnknownDeed")) (.type "BaseException") = some true)
    (et_UnknownDeed : PySem.W.typeIn C.K (.ref (C.ad "UnknownDeed")) = some (.type "type"))
    (a_UnknownDeed___init__ : PySem.W.findIn C.K (.ref (C.ad "UnknownDeed")) "__init__" = some (some (.ref w_UnknownDeed___init__)))
    (ty_UnknownDeed___init__ : PySem.W.typeIn C.K (.ref w_UnknownDeed___init__) = some (.type "function"))
    (l_UnknownDeed___init__ : C.K.lookup w_UnknownDeed___init__ = some ⟨oc_UnknownDeed___init__, od_UnknownDeed___init__, .func (PySem.W.fnOf "__init__" "UnknownDeed.__init__" (defArgs st_UnknownDeed___init__) (defBody st_UnknownDeed___init__) (defScope st_UnknownDeed___init__) .none kV_UnknownDeed___init__ dc_UnknownDeed___init__ pm_UnknownDeed___init__ an_UnknownDeed___init__ cd_UnknownDeed___init__ ct_UnknownDeed___init__), sl_UnknownDeed___init__⟩)
    (c_UnknownDeed___init__ : PySem.W.codeIn C.K cd_UnknownDeed___init__ "UnknownDeed.__init__" = true)
    (k_UnknownDeed___init__ : PySem.W.keepIn C.K (.ref w_UnknownDeed___init__) = true)
    (no_f_UnknownDeed_deed : PySem.W.findIn C.K (.ref (C.ad "UnknownDeed")) "deed" = some none)
    (xl_UnknownIndex : C.K.lookup (C.ad "UnknownIndex") = some (PySem.excClassObj nm_UnknownIndex qn_UnknownIndex (C.ad "UnknownIndex") N_UnknownIndex bs_UnknownIndex [.ref (C.ad "CopyError"), .type "ValueError", .type "Exception", .type "BaseException", .type "object"] true sn_UnknownIndex sub_UnknownIndex ab_UnknownIndex col_UnknownIndex dd_UnknownIndex k0_UnknownIndex k1_UnknownIndex k2_UnknownIndex k3_UnknownIndex k5_UnknownIndex "ValueError.__new__"))
    (xs_UnknownIndex : PySem.W.findIn C.K (.ref (C.ad "UnknownIndex")) "__setattr__" = some (some (.builtin "object.__setattr__")))
    (ek_UnknownIndex : PySem.W.keepIn C.K (.ref (C.ad "UnknownIndex")) = true)
    (eb_UnknownIndex : PySem.W.subIn C.K (.ref (C.ad "UnknownIndex")) (.type "BaseException") = some true)
    (et_UnknownIndex : PySem.W.typeIn C.K (.ref (C.ad "UnknownIndex")) = some (.type "type"))
    (a_UnknownIndex___init__ : PySem.W.findIn C.K (.ref (C.ad "UnknownIndex")) "__init__" = some (some (.ref w_UnknownIndex___init__)))
    (ty_UnknownIndex___init__ : PySem.W.typeIn C.K (.ref w_UnknownIndex___init__) = some (.type "function"))
    (l_UnknownIndex___init__ : C.K.lookup w_UnknownIndex___init__ = some ⟨oc_UnknownIndex___init__, od_UnknownIndex___init__, .func (PySem.W.fnOf "__init__" "UnknownIndex.__init__" (defArgs st_UnknownIndex___init__) (defBody st_UnknownIndex___init__) (defScope st_UnknownIndex___init__) .none kV_UnknownIndex___init__ dc_UnknownIndex___init__ pm_UnknownIndex___init__ an_UnknownIndex___init__ cd_UnknownIndex___init__ ct_UnknownIndex___init__), sl_UnknownIndex___init__⟩)
    (c_UnknownIndex___init__ : PySem.W.codeIn C.K cd_UnknownIndex___init__ "UnknownIndex.__init__" = true)
    (k_UnknownIndex___init__ : PySem.W.keepIn C.K (.ref w_UnknownIndex___init__) = true)
    (no_f_UnknownIndex_index : PySem.W.findIn C.K (.ref (C.ad "UnknownIndex")) "index" = some none)
    (xl_UnknownKind : C.K.lookup (C.ad "UnknownKind") = some (PySem.excClassObj nm_UnknownKind qn_UnknownKind (C.ad "UnknownKind") N_UnknownKind bs_UnknownKind [.ref (C.ad "CopyError"), .type "ValueError", .type "Exception", .type "BaseException", .type "object"] true sn_UnknownKind sub_UnknownKind ab_UnknownKind col_UnknownKind dd_UnknownKind k0_UnknownKind k1_UnknownKind k2_UnknownKind k3_UnknownKind k5_UnknownKind "ValueError.__new__"))
    (xs_UnknownKind : PySem.W.findIn C.K (.ref (C.ad "UnknownKind")) "__setattr__" = some (some (.builtin "object.__setattr__")))
    (ek_UnknownKind : PySem.W.keepIn C.K (.ref (C.ad "UnknownKind")) = true)
    (eb_UnknownKind : PySem.W.subIn C.K (.ref (C.ad "UnknownKind")) (.type "BaseException") = some true)
    (et_UnknownKind : PySem.W.typeIn C.K (.ref (C.ad "UnknownKind")) = some (.type "type"))
    (a_UnknownKind___init__ : PySem.W.findIn C.K (.ref (C.ad "UnknownKind")) "__init__" = some (some (.ref w_UnknownKind___init__)))
    (ty_UnknownKind___init__ : PySem.W.typeIn C.K (.ref w_UnknownKind___init__) = some (.type "function"))
    (l_UnknownKind___init__ : C.K.lookup w_UnknownKind___init__ = some ⟨oc_UnknownKind___init__, od_UnknownKind___init__, .func (PySem.W.fnOf "__init__" "UnknownKind.__init__" (defArgs st_UnknownKind___init__) (defBody st_UnknownKind___init__) (defScope st_UnknownKind___init__) .none kV_UnknownKind___init__ dc_UnknownKind___init__ pm_UnknownKind___init__ an_UnknownKind___init__ cd_UnknownKind___init__ ct_UnknownKind___init__), sl_UnknownKind___init__⟩)
    (c_UnknownKind___init__ : PySem.W.codeIn C.K cd_UnknownKind___init__ "UnknownKind.__init__" = true)
    (k_UnknownKind___init__ : PySem.W.keepIn C.K (.ref w_UnknownKind___init__) = true)
    (no_f_UnknownKind_index : PySem.W.findIn C.K (.ref (C.ad "UnknownKind")) "index" = some none)
    (no_x_UnknownKind_InvalidDeed : PySem.W.kitOne C.K (.ref (C.ad "UnknownKind")) (.ref (C.ad "InvalidDeed")) = some false)
    (no_x_UnknownIndex_InvalidDeed : PySem.W.kitOne C.K (.ref (C.ad "UnknownIndex")) (.ref (C.ad "InvalidDeed")) = some false)
    (no_x_UnknownDeed_InvalidDeed : PySem.W.kitOne C.K (.ref (C.ad "UnknownDeed")) (.ref (C.ad "InvalidDeed")) = some false)
    (no_x_Possible_InvalidDeed : PySem.W.kitOne C.K (.ref (C.ad "Possible")) (.ref (C.ad "InvalidDeed")) = some false)
    (no_x_NotComparable_InvalidDeed : PySem.W.kitOne C.K (.ref (C.ad "NotComparable")) (.ref (C.ad "InvalidDeed")) = some false)
    (no_x_InvalidWords_InvalidDeed : PySem.W.kitOne C.K (.ref (C.ad "InvalidWords")) (.ref (C.ad "InvalidDeed")) = some false)
    (no_x_InvalidText_InvalidDeed : PySem.W.kitOne C.K (.ref (C.ad "InvalidText")) (.ref (C.ad "InvalidDeed")) = some false)
    (no_x_InvalidSize_InvalidDeed : PySem.W.kitOne C.K (.ref (C.ad "InvalidSize")) (.ref (C.ad "InvalidDeed")) = some false)
    (no_x_InvalidRule_InvalidDeed : PySem.W.kitOne C.K (.ref (C.ad "InvalidRule")) (.ref (C.ad "InvalidDeed")) = some false)
    (no_x_InvalidMasters_InvalidDeed : PySem.W.kitOne C.K (.ref (C.ad "InvalidMasters")) (.ref (C.ad "InvalidDeed")) = some false)
    (no_x_InvalidDeed_InvalidDeed : PySem.W.kitOne C.K (.ref (C.ad "InvalidDeed")) (.ref (C.ad "InvalidDeed")) = some true)
    (no_x_UnknownKind_InvalidMasters : PySem.W.kitOne C.K (.ref (C.ad "UnknownKind")) (.ref (C.ad "InvalidMasters")) = some false)
    (no_x_UnknownIndex_InvalidMasters : PySem.W.kitOne C.K (.ref (C.ad "UnknownIndex")) (.ref (C.ad "InvalidMasters")) = some false)
    (no_x_UnknownDeed_InvalidMasters : PySem.W.kitOne C.K (.ref (C.ad "UnknownDeed")) (.ref (C.ad "InvalidMasters")) = some false)
    (no_x_Possible_InvalidMasters : PySem.W.kitOne C.K (.ref (C.ad "Possible")) (.ref (C.ad "InvalidMasters")) = some false)
    (no_x_NotComparable_InvalidMasters : PySem.W.kitOne C.K (.ref (C.ad "NotComparable")) (.ref (C.ad "InvalidMasters")) = some false)
    (no_x_InvalidWords_InvalidMasters : PySem.W.kitOne C.K (.ref (C.ad "InvalidWords")) (.ref (C.ad "InvalidMasters")) = some false)
    (no_x_InvalidText_InvalidMasters : PySem.W.kitOne C.K (.ref (C.ad "InvalidText")) (.ref (C.ad "InvalidMasters")) = some false)
    (no_x_InvalidSize_InvalidMasters : PySem.W.kitOne C.K (.ref (C.ad "InvalidSize")) (.ref (C.ad "InvalidMasters")) = some false)
    (no_x_InvalidRule_InvalidMasters : PySem.W.kitOne C.K (.ref (C.ad "InvalidRule")) (.ref (C.ad "InvalidMasters")) = some false)
    (no_x_InvalidMasters_InvalidMasters : PySem.W.kitOne C.K (.ref (C.ad "InvalidMasters")) (.ref (C.ad "InvalidMasters")) = some true)
    (no_x_InvalidDeed_InvalidMasters : PySem.W.kitOne C.K (.ref (C.ad "InvalidDeed")) (.ref (C.ad "InvalidMasters")) = some false)
    (no_x_UnknownKind_InvalidRule : PySem.W.kitOne C.K (.ref (C.ad "UnknownKind")) (.ref (C.ad "InvalidRule")) = some false)
    (no_x_UnknownIndex_InvalidRule : PySem.W.kitOne C.K (.ref (C.ad "UnknownIndex")) (.ref (C.ad "InvalidRule")) = some false)
    (no_x_UnknownDeed_InvalidRule : PySem.W.kitOne C.K (.ref (C.ad "UnknownDeed")) (.ref (C.ad "InvalidRule")) = some false)
    (no_x_Possible_InvalidRule : PySem.W.kitOne C.K (.ref (C.ad "Possible")) (.ref (C.ad "InvalidRule")) = some false)
    (no_x_NotComparable_InvalidRule : PySem.W.kitOne C.K (.ref (C.ad "NotComparable")) (.ref (C.ad "InvalidRule")) = some false)
    (no_x_InvalidWords_InvalidRule : PySem.W.kitOne C.K (.ref (C.ad "InvalidWords")) (.ref (C.ad "InvalidRule")) = some false)
    (no_x_InvalidText_InvalidRule : PySem.W.kitOne C.K (.ref (C.ad "InvalidText")) (.ref (C.ad "InvalidRule")) = some false)
    (no_x_InvalidSize_InvalidRule : PySem.W.kitOne C.K (.ref (C.ad "InvalidSize")) (.ref (C.ad "InvalidRule")) = some false)
    (no_x_InvalidRule_InvalidRule : PySem.W.kitOne C.K (.ref (C.ad "InvalidRule")) (.ref (C.ad "InvalidRule")) = some true)
    (no_x_InvalidMasters_InvalidRule : PySem.W.kitOne C.K (.ref (C.ad "InvalidMasters")) (.ref (C.ad "InvalidRule")) = some false)
    (no_x_InvalidDeed_InvalidRule : PySem.W.kitOne C.K (.ref (C.ad "InvalidDeed")) (.ref (C.ad "InvalidRule")) = some false)
    (no_x_UnknownKind_InvalidSize : PySem.W.kitOne C.K (.ref (C.ad "UnknownKind")) (.ref (C.ad "InvalidSize")) = some false)
    (no_x_UnknownIndex_InvalidSize : PySem.W.kitOne C.K (.ref (C.ad "UnknownIndex")) (.ref (C.ad "InvalidSize")) = some false)
    (no_x_UnknownDeed_InvalidSize : PySem.W.kitOne C.K (.ref (C.ad "UnknownDeed")) (.ref (C.ad "InvalidSize")) = some false)
    (no_x_Possible_InvalidSize : PySem.W.kitOne C.K (.ref (C.ad "Possible")) (.ref (C.ad "InvalidSize")) = some false)
    (no_x_NotComparable_InvalidSize : PySem.W.kitOne C.K (.ref (C.ad "NotComparable")) (.ref (C.ad "InvalidSize")) = some false)
    (no_x_InvalidWords_InvalidSize : PySem.W.kitOne C.K (.ref (C.ad "InvalidWords")) (.ref (C.ad "InvalidSize")) = some false)
    (no_x_InvalidText_InvalidSize : PySem.W.kitOne C.K (.ref (C.ad "InvalidText")) (.ref (C.ad "InvalidSize")) = some false)
    (no_x_InvalidSize_InvalidSize : PySem.W.kitOne C.K (.ref (C.ad "InvalidSize")) (.ref (C.ad "InvalidSize")) = some true)
    (no_x_InvalidRule_InvalidSize : PySem.W.kitOne C.K (.ref (C.ad "InvalidRule")) (.ref (C.ad "InvalidSize")) = some false)
    (no_x_InvalidMasters_InvalidSize : PySem.W.kitOne C.K (.ref (C.ad "InvalidMasters")) (.ref (C.ad "InvalidSize")) = some false)
    (no_x_InvalidDeed_InvalidSize : PySem.W.kitOne C.K (.ref (C.ad "InvalidDeed")) (.ref (C.ad "InvalidSize")) = some false)
    (no_x_UnknownKind_InvalidText : PySem.W.kitOne C.K (.ref (C.ad "UnknownKind")) (.ref (C.ad "InvalidText")) = some false)
    (no_x_UnknownIndex_InvalidText : PySem.W.kitOne C.K (.ref (C.ad "UnknownIndex")) (.ref (C.ad "InvalidText")) = some false)
    (no_x_UnknownDeed_InvalidText : PySem.W.kitOne C.K (.ref (C.ad "UnknownDeed")) (.ref (C.ad "InvalidText")) = some false)
    (no_x_Possible_InvalidText : PySem.W.kitOne C.K (.ref (C.ad "Possible")) (.ref (C.ad "InvalidText")) = some false)
    (no_x_NotComparable_InvalidText : PySem.W.kitOne C.K (.ref (C.ad "NotComparable")) (.ref (C.ad "InvalidText")) = some false)
    (no_x_InvalidWords_InvalidText : PySem.W.kitOne C.K (.ref (C.ad "InvalidWords")) (.ref (C.ad "InvalidText")) = some false)
    (no_x_InvalidText_InvalidText : PySem.W.kitOne C.K (.ref (C.ad "InvalidText")) (.ref (C.ad "InvalidText")) = some true)
    (no_x_InvalidSize_InvalidText : PySem.W.kitOne C.K (.ref (C.ad "InvalidSize")) (.ref (C.ad "InvalidText")) = some false)
    (no_x_InvalidRule_InvalidText : PySem.W.kitOne C.K (.ref (C.ad "InvalidRule")) (.ref (C.ad "InvalidText")) = some false)
    (no_x_InvalidMasters_InvalidText : PySem.W.kitOne C.K (.ref (C.ad "InvalidMasters")) (.ref (C.ad "InvalidText")) = some false)
    (no_x_InvalidDeed_InvalidText : PySem.W.kitOne C.K (.ref (C.ad "InvalidDeed")) (.ref (C.ad "InvalidText")) = some false)
    (no_x_UnknownKind_InvalidWords : PySem.W.kitOne C.K (.ref (C.ad "UnknownKind")) (.ref (C.ad "InvalidWords")) = some false)
    (no_x_UnknownIndex_InvalidWords : PySem.W.kitOne C.K (.ref (C.ad "UnknownIndex")) (.ref (C.ad "InvalidWords")) = some false)
    (no_x_UnknownDeed_InvalidWords : PySem.W.kitOne C.K (.ref (C.ad "UnknownDeed")) (.ref (C.ad "InvalidWords")) = some false)
    (no_x_Possible_InvalidWords : PySem.W.kitOne C.K (.ref (C.ad "Possible")) (.ref (C.ad "InvalidWords")) = some false)
    (no_x_NotComparable_InvalidWords : PySem.W.kitOne C.K (.ref (C.ad "NotComparable")) (.ref (C.ad "InvalidWords")) = some false)
    (no_x_InvalidWords_InvalidWords : PySem.W.kitOne C.K (.ref (C.ad "InvalidWords")) (.ref (C.ad "InvalidWords")) = some true)
    (no_x_InvalidText_InvalidWords : PySem.W.kitOne C.K (.ref (C.ad "InvalidText")) (.ref (C.ad "InvalidWords")) = some false)
    (no_x_InvalidSize_InvalidWords : PySem.W.kitOne C.K (.ref (C.ad "InvalidSize")) (.ref (C.ad "InvalidWords")) = some false)
    (no_x_InvalidRule_InvalidWords : PySem.W.kitOne C.K (.ref (C.ad "InvalidRule")) (.ref (C.ad "InvalidWords")) = some false)
    (no_x_InvalidMasters_InvalidWords : PySem.W.kitOne C.K (.ref (C.ad "InvalidMasters")) (.ref (C.ad "InvalidWords")) = some false)
    (no_x_InvalidDeed_InvalidWords : PySem.W.kitOne C.K (.ref (C.ad "InvalidDeed")) (.ref (C.ad "InvalidWords")) = some false)
    (no_x_UnknownKind_NotComparable : PySem.W.kitOne C.K (.ref (C.ad "UnknownKind")) (.ref (C.ad "NotComparable")) = some false)
    (no_x_UnknownIndex_NotComparable : PySem.W.kitOne C.K (.ref (C.ad "UnknownIndex")) (.ref (C.ad "NotComparable")) = some false)
    (no_x_UnknownDeed_NotComparable : PySem.W.kitOne C.K (.ref (C.ad "UnknownDeed")) (.ref (C.ad "NotComparable")) = some false)
    (no_x_Possible_NotComparable : PySem.W.kitOne C.K (.ref (C.ad "Possible")) (.ref (C.ad "NotComparable")) = some false)
    (no_x_NotComparable_NotComparable : PySem.W.kitOne C.K (.ref (C.ad "NotComparable")) (.ref (C.ad "NotComparable")) = some true)
    (no_x_InvalidWords_NotComparable : PySem.W.kitOne C.K (.ref (C.ad "InvalidWords")) (.ref (C.ad "NotComparable")) = some false)
    (no_x_InvalidText_NotComparable : PySem.W.kitOne C.K (.ref (C.ad "InvalidText")) (.ref (C.ad "NotComparable")) = some false)
    (no_x_InvalidSize_NotComparable : PySem.W.kitOne C.K (.ref (C.ad "InvalidSize")) (.ref (C.ad "NotComparable")) = some false)
    (no_x_InvalidRule_NotComparable : PySem.W.kitOne C.K (.ref (C.ad "InvalidRule")) (.ref (C.ad "NotComparable")) = some false)
    (no_x_InvalidMasters_NotComparable : PySem.W.kitOne C.K (.ref (C.ad "InvalidMasters")) (.ref (C.ad "NotComparable")) = some false)
    (no_x_InvalidDeed_NotComparable : PySem.W.kitOne C.K (.ref (C.ad "InvalidDeed")) (.ref (C.ad "NotComparable")) = some false)
    (no_x_UnknownKind_Possible : PySem.W.kitOne C.K (.ref (C.ad "UnknownKind")) (.ref (C.ad "Possible")) = some false)
    (no_x_UnknownIndex_Possible : PySem.W.kitOne C.K (.ref (C.ad "UnknownIndex")) (.ref (C.ad "Possible")) = some false)
    (no_x_UnknownDeed_Possible : PySem.W.kitOne C.K (.ref (C.ad "UnknownDeed")) (.ref (C.ad "Possible")) = some false)
    (no_x_Possible_Possible : PySem.W.kitOne C.K (.ref (C.ad "Possible")) (.ref (C.ad "Possible")) = some true)
    (no_x_NotComparable_Possible : PySem.W.kitOne C.K (.ref (C.ad "NotComparable")) (.ref (C.ad "Possible")) = some false)
    (no_x_InvalidWords_Possible : PySem.W.kitOne C.K (.ref (C.ad "InvalidWords")) (.ref (C.ad "Possible")) = some false)
    (no_x_InvalidText_Possible : PySem.W.kitOne C.K (.ref (C.ad "InvalidText")) (.ref (C.ad "Possible")) = some false)
    (no_x_InvalidSize_Possible : PySem.W.kitOne C.K (.ref (C.ad "InvalidSize")) (.ref (C.ad "Possible")) = some false)
    (no_x_InvalidRule_Possible : PySem.W.kitOne C.K (.ref (C.ad "InvalidRule")) (.ref (C.ad "Possible")) = some false)
    (no_x_InvalidMasters_Possible : PySem.W.kitOne C.K (.ref (C.ad "InvalidMasters")) (.ref (C.ad "Possible")) = some false)
    (no_x_InvalidDeed_Possible : PySem.W.kitOne C.K (.ref (C.ad "InvalidDeed")) (.ref (C.ad "Possible")) = some false)
    (no_x_UnknownKind_UnknownDeed : PySem.W.kitOne C.K (.ref (C.ad "UnknownKind")) (.ref (C.ad "UnknownDeed")) = some false)
    (no_x_UnknownIndex_UnknownDeed : PySem.W.kitOne C.K (.ref (C.ad "UnknownIndex")) (.ref (C.ad "UnknownDeed")) = some false)
    (no_x_UnknownDeed_UnknownDeed : PySem.W.kitOne C.K (.ref (C.ad "UnknownDeed")) (.ref (C.ad "UnknownDeed")) = some true)
    (no_x_Possible_UnknownDeed : PySem.W.kitOne C.K (.ref (C.ad "Possible")) (.ref (C.ad "UnknownDeed")) = some false)
    (no_x_NotComparable_UnknownDeed : PySem.W.kitOne C.K (.ref (C.ad "NotComparable")) (.ref (C.ad "UnknownDeed")) = some false)
    (no_x_InvalidWords_UnknownDeed : PySem.W.kitOne C.K (.ref (C.ad "InvalidWords")) (.ref (C.ad "UnknownDeed")) = some false)
    (no_x_InvalidText_UnknownDeed : PySem.W.kitOne C.K (.ref (C.ad "InvalidText")) (.ref (C.ad "UnknownDeed")) = some false)
    (no_x_InvalidSize_UnknownDeed : PySem.W.kitOne C.K (.ref (C.ad "InvalidSize")) (.ref (C.ad "UnknownDeed")) = some false)
    (no_x_InvalidRule_UnknownDeed : PySem.W.kitOne C.K (.ref (C.ad "InvalidRule")) (.ref (C.ad "UnknownDeed")) = some false)
    (no_x_InvalidMasters_UnknownDeed : PySem.W.kitOne C.K (.ref (C.ad "InvalidMasters")) (.ref (C.ad "UnknownDeed")) = some false)
    (no_x_InvalidDeed_UnknownDeed : PySem.W.kitOne C.K (.ref (C.ad "InvalidDeed")) (.ref (C.ad "UnknownDeed")) = some false)
    (no_x_UnknownKind_UnknownIndex : PySem.W.kitOne C.K (.ref (C.ad "UnknownKind")) (.ref (C.ad "UnknownIndex")) = some false)
    (no_x_UnknownIndex_UnknownIndex : PySem.W.kitOne C.K (.ref (C.ad "UnknownIndex")) (.ref (C.ad "UnknownIndex")) = some true)
    (no_x_UnknownDeed_UnknownIndex : PySem.W.kitOne C.K (.ref (C.ad "UnknownDeed")) (.ref (C.ad "UnknownIndex")) = some false)
    (no_x_Possible_UnknownIndex : PySem.W.kitOne C.K (.ref (C.ad "Possible")) (.ref (C.ad "UnknownIndex")) = some false)
    (no_x_NotComparable_UnknownIndex : PySem.W.kitOne C.K (.ref (C.ad "NotComparable")) (.ref (C.ad "UnknownIndex")) = some false)
    (no_x_InvalidWords_UnknownIndex : PySem.W.kitOne C.K (.ref (C.ad "InvalidWords")) (.ref (C.ad "UnknownIndex")) = some false)
    (no_x_InvalidText_UnknownIndex : PySem.W.kitOne C.K (.ref (C.ad "InvalidText")) (.ref (C.ad "UnknownIndex")) = some false)
    (no_x_InvalidSize_UnknownIndex : PySem.W.kitOne C.K (.ref (C.ad "InvalidSize")) (.ref (C.ad "UnknownIndex")) = some false)
    (no_x_InvalidRule_UnknownIndex : PySem.W.kitOne C.K (.ref (C.ad "InvalidRule")) (.ref (C.ad "UnknownIndex")) = some false)
    (no_x_InvalidMasters_UnknownIndex : PySem.W.kitOne C.K (.ref (C.ad "InvalidMasters")) (.ref (C.ad "UnknownIndex")) = some false)
    (no_x_InvalidDeed_UnknownIndex : PySem.W.kitOne C.K (.ref (C.ad "InvalidDeed")) (.ref (C.ad "UnknownIndex")) = some false)
    (no_x_UnknownKind_UnknownKind : PySem.W.kitOne C.K (.ref (C.ad "UnknownKind")) (.ref (C.ad "UnknownKind")) = some true)
    (no_x_UnknownIndex_UnknownKind : PySem.W.kitOne C.K (.ref (C.ad "UnknownIndex")) (.ref (C.ad "UnknownKind")) = some false)
    (no_x_UnknownDeed_UnknownKind : PySem.W.kitOne C.K (.ref (C.ad "UnknownDeed")) (.ref (C.ad "UnknownKind")) = some false)
    (no_x_Possible_UnknownKind : PySem.W.kitOne C.K (.ref (C.ad "Possible")) (.ref (C.ad "UnknownKind")) = some false)
    (no_x_NotComparable_UnknownKind : PySem.W.kitOne C.K (.ref (C.ad "NotComparable")) (.ref (C.ad "UnknownKind")) = some false)
    (no_x_InvalidWords_UnknownKind : PySem.W.kitOne C.K (.ref (C.ad "InvalidWords")) (.ref (C.ad "UnknownKind")) = some false)
    (no_x_InvalidText_UnknownKind : PySem.W.kitOne C.K (.ref (C.ad "InvalidText")) (.ref (C.ad "UnknownKind")) = some false)
    (no_x_InvalidSize_UnknownKind : PySem.W.kitOne C.K (.ref (C.ad "InvalidSize")) (.ref (C.ad "UnknownKind")) = some false)
    (no_x_InvalidRule_UnknownKind : PySem.W.kitOne C.K (.ref (C.ad "InvalidRule")) (.ref (C.ad "UnknownKind")) = some false)
    (no_x_InvalidMasters_UnknownKind : PySem.W.kitOne C.K (.ref (C.ad "InvalidMasters")) (.ref (C.ad "UnknownKind")) = some false)
    (no_x_InvalidDeed_UnknownKind : PySem.W.kitOne C.K (.ref (C.ad "InvalidDeed")) (.ref (C.ad "UnknownKind")) = some false)
    (yn_InvalidDeed_index : PySem.W.findIn C.K (.ref (C.ad "InvalidDeed")) "index" = some none)
    (yn_InvalidRule_point : PySem.W.findIn C.K (.ref (C.ad "InvalidRule")) "point" = some none)
    (yn_InvalidText_line : PySem.W.findIn C.K (.ref (C.ad "InvalidText")) "line" = some none)
    (yn_InvalidText_word : PySem.W.findIn C.K (.ref (C.ad "InvalidText")) "word" = some none)
    (yn_Possible_history : PySem.W.findIn C.K (.ref (C.ad "Possible")) "history" = some none)
    (yn_UnknownDeed_deed : PySem.W.findIn C.K (.ref (C.ad "UnknownDeed")) "deed" = some none)
    (yn_UnknownIndex_index : PySem.W.findIn C.K (.ref (C.ad "UnknownIndex")) "index" = some none)
    (yn_UnknownKind_index : PySem.W.findIn C.K (.ref (C.ad "UnknownKind")) "index" = some none)
    (hz_all : PySem.W.nsIn C.K mainGlobals "all" = some none)
    (hz_int : PySem.W.nsIn C.K mainGlobals "int" = some none)
    (hz_isinstance : PySem.W.nsIn C.K mainGlobals "isinstance" = some none)
    (hz_len : PySem.W.nsIn C.K mainGlobals "len" = some none)
    (hz_list : PySem.W.nsIn C.K mainGlobals "list" = some none)
    (hz_max : PySem.W.nsIn C.K mainGlobals "max" = some none)
    (hz_range : PySem.W.nsIn C.K mainGlobals "range" = some none)
    (a__law_mix : PySem.W.nsIn C.K mainGlobals "_law_mix" = some (some (.ref w__law_mix)))
    (l__law_mix : C.K.lookup w__law_mix = some ⟨oc__law_mix, od__law_mix, .func (PySem.W.fnOf "_law_mix" "_law_mix" (defArgs st__law_mix) (defBody st__law_mix) (defScope st__law_mix) .none kV__law_mix dc__law_mix pm__law_mix an__law_mix cd__law_mix ct__law_mix), sl__law_mix⟩)
    (c__law_mix : PySem.W.codeIn C.K cd__law_mix "_law_mix" = true)
    (k__law_mix : PySem.W.keepIn C.K (.ref w__law_mix) = true)
    (a__law_next : PySem.W.nsIn C.K mainGlobals "_law_next" = some (some (.ref w__law_next)))
    (l__law_next : C.K.lookup w__law_next = some ⟨oc__law_next, od__law_next, .func (PySem.W.fnOf "_law_next" "_law_next" (defArgs st__law_next) (defBody st__law_next) (defScope st__law_next) .none kV__law_next dc__law_next pm__law_next an__law_next cd__law_next ct__law_next), sl__law_next⟩)
    (c__law_next : PySem.W.codeIn C.K cd__law_next "_law_next" = true)
    (k__law_next : PySem.W.keepIn C.K (.ref w__law_next) = true)
    (a__law_bare : PySem.W.nsIn C.K mainGlobals "_law_bare" = some (some (.ref w__law_bare)))
    (l__law_bare : C.K.lookup w__law_bare = some ⟨oc__law_bare, od__law_bare, .func (PySem.W.fnOf "_law_bare" "_law_bare" (defArgs st__law_bare) (defBody st__law_bare) (defScope st__law_bare) .none kV__law_bare dc__law_bare pm__law_bare an__law_bare cd__law_bare ct__law_bare), sl__law_bare⟩)
    (c__law_bare : PySem.W.codeIn C.K cd__law_bare "_law_bare" = true)
    (k__law_bare : PySem.W.keepIn C.K (.ref w__law_bare) = true)
    (a__law_thrown : PySem.W.nsIn C.K mainGlobals "_law_thrown" = some (some (.ref w__law_thrown)))
    (l__law_thrown : C.K.lookup w__law_thrown = some ⟨oc__law_thrown, od__law_thrown, .func (PySem.W.fnOf "_law_thrown" "_law_thrown" (defArgs st__law_thrown) (defBody st__law_thrown) (defScope st__law_thrown) .none kV__law_thrown dc__law_thrown pm__law_thrown an__law_thrown cd__law_thrown ct__law_thrown), sl__law_thrown⟩)
    (c__law_thrown : PySem.W.codeIn C.K cd__law_thrown "_law_thrown" = true)
    (k__law_thrown : PySem.W.keepIn C.K (.ref w__law_thrown) = true)
    (a__law_classes : PySem.W.nsIn C.K mainGlobals "_law_classes" = some (some (.ref w__law_classes)))
    (l__law_classes : C.K.lookup w__law_classes = some ⟨oc__law_classes, od__law_classes, .func (PySem.W.fnOf "_law_classes" "_law_classes" (defArgs st__law_classes) (defBody st__law_classes) (defScope st__law_classes) .none kV__law_classes dc__law_classes pm__law_classes an__law_classes cd__law_classes ct__law_classes), sl__law_classes⟩)
    (c__law_classes : PySem.W.codeIn C.K cd__law_classes "_law_classes" = true)
    (k__law_classes : PySem.W.keepIn C.K (.ref w__law_classes) = true)
    (a__law_parts : PySem.W.nsIn C.K mainGlobals "_law_parts" = some (some (.ref w__law_parts)))
    (l__law_parts : C.K.lookup w__law_parts = some ⟨oc__law_parts, od__law_parts, .func (PySem.W.fnOf "_law_parts" "_law_parts" (defArgs st__law_parts) (defBody st__law_parts) (defScope st__law_parts) .none kV__law_parts dc__law_parts pm__law_parts an__law_parts cd__law_parts ct__law_parts), sl__law_parts⟩)
    (c__law_parts : PySem.W.codeIn C.K cd__law_parts "_law_parts" = true)
    (k__law_parts : PySem.W.keepIn C.K (.ref w__law_parts) = true)
    (a__law_right : PySem.W.nsIn C.K mainGlobals "_law_right" = some (some (.ref w__law_right)))
    (l__law_right : C.K.lookup w__law_right = some ⟨oc__law_right, od__law_right, .func (PySem.W.fnOf "_law_right" "_law_right" (defArgs st__law_right) (defBody st__law_right) (defScope st__law_right) .none kV__law_right dc__law_right pm__law_right an__law_right cd__law_right ct__law_right), sl__law_right⟩)
    (c__law_right : PySem.W.codeIn C.K cd__law_right "_law_right" = true)
    (k__law_right : PySem.W.keepIn C.K (.ref w__law_right) = true)
    (a_law : PySem.W.nsIn C.K mainGlobals "law" = some (some (.ref w_law)))
    (l_law : C.K.lookup w_law = some ⟨oc_law, od_law, .func (PySem.W.fnOf "law" "law" (defArgs st_law) (defBody st_law) (defScope st_law) .none kV_law dc_law pm_law an_law cd_law ct_law), sl_law⟩)
    (c_law : PySem.W.codeIn C.K cd_law "law" = true)
    (k_law : PySem.W.keepIn C.K (.ref w_law) = true) : Fx C where
  b_ValueError := xib_of (PySem.W.mg_none_of X G zb_ValueError) (List.forall_mem_cons.mpr ⟨⟨⟨ya_InvalidDeed, yb_InvalidDeed, yc_InvalidDeed, yd_InvalidDeed, ca_InvalidDeed, cn_InvalidDeed, ct_InvalidDeed, cm_InvalidDeed⟩, no_x_InvalidDeed_ValueError⟩, List.forall_mem_cons.mpr ⟨⟨⟨ya_InvalidMasters, yb_InvalidMasters, yc_InvalidMasters, yd_InvalidMasters, ca_InvalidMasters, cn_InvalidMasters, ct_InvalidMasters, cm_InvalidMasters⟩, no_x_InvalidMasters_ValueError⟩, List.forall_mem_cons.mpr ⟨⟨⟨ya_InvalidRule, yb_InvalidRule, yc_InvalidRule, yd_InvalidRule, ca_InvalidRule, cn_InvalidRule, ct_InvalidRule, cm_InvalidRule⟩, no_x_InvalidRule_ValueError⟩, List.forall_mem_cons.mpr ⟨⟨⟨ya_InvalidSize, yb_InvalidSize, yc_InvalidSize, yd_InvalidSize, ca_InvalidSize, cn_InvalidSize, ct_InvalidSize, cm_InvalidSize⟩, no_x_InvalidSize_ValueError⟩, List.forall_mem_cons.mpr ⟨⟨⟨ya_InvalidText, yb_InvalidText, yc_InvalidText, yd_InvalidText, ca_InvalidText, cn_InvalidText, ct_InvalidText, cm_InvalidText⟩, no_x_InvalidText_ValueError⟩, List.forall_mem_cons.mpr ⟨⟨⟨ya_InvalidWords, yb_InvalidWords, yc_InvalidWords, yd_InvalidWords, ca_InvalidWords, cn_InvalidWords, ct_InvalidWords, cm_InvalidWords⟩, no_x_InvalidWords_ValueError⟩, List.forall_mem_cons.mpr ⟨⟨⟨ya_NotComparable, yb_NotComparable, yc_NotComparable, yd_NotComparable, ca_NotComparable, cn_NotComparable, ct_NotComparable, cm_NotComparable⟩, no_x_NotComparable_ValueError⟩, List.forall_mem_cons.mpr ⟨⟨⟨ya_Possible, yb_Possible, yc_Possible, yd_Possible, ca_Possible, cn_Possible, ct_Possible, cm_Possible⟩, no_x_Possible_ValueError⟩, List.forall_mem_cons.mpr ⟨⟨⟨ya_UnknownDeed, yb_UnknownDeed, yc_UnknownDeed, yd_UnknownDeed, ca_UnknownDeed, cn_UnknownDeed, ct_UnknownDeed, cm_UnknownDeed⟩, no_x_UnknownDeed_ValueError⟩, List.forall_mem_cons.mpr ⟨⟨⟨ya_UnknownIndex, yb_UnknownIndex, yc_UnknownIndex, yd_UnknownIndex, ca_UnknownIndex, cn_UnknownIndex, ct_UnknownIndex, cm_UnknownIndex⟩, no_x_UnknownIndex_ValueError⟩, List.forall_mem_cons.mpr ⟨⟨⟨ya_UnknownKind, yb_UnknownKind, yc_UnknownKind, yd_UnknownKind, ca_UnknownKind, cn_UnknownKind, ct_UnknownKind, cm_UnknownKind⟩, no_x_UnknownKind_ValueError⟩, fun _ z => nomatch z⟩⟩⟩⟩⟩⟩⟩⟩⟩⟩⟩)
  e_InvalidMasters := ⟨⟨_, _, _, _, PySem.F.excBase_ValueError, xi_InvalidMasters⟩, PySem.W.mg_of X G gc_InvalidMasters, ek_InvalidMasters, eb_InvalidMasters, et_InvalidMasters⟩
  e_InvalidSize := ⟨⟨_, _, _, _, PySem.F.excBase_ValueError, xi_InvalidSize⟩, PySem.W.mg_of X G gc_InvalidSize, ek_InvalidSize, eb_InvalidSize, et_InvalidSize⟩
  e_InvalidWords := ⟨⟨_, _, _, _, PySem.F.excBase_ValueError, xi_InvalidWords⟩, PySem.W.mg_of X G gc_InvalidWords, ek_InvalidWords, eb_InvalidWords, et_InvalidWords⟩
  e_NotComparable := ⟨⟨_, _, _, _, PySem.F.excBase_ValueError, xi_NotComparable⟩, PySem.W.mg_of X G gc_NotComparable, ek_NotComparable, eb_NotComparable, et_NotComparable⟩
  m_InvalidDeed__CopyError := m_InvalidDeed__CopyError
  m_InvalidMasters__CopyError := m_InvalidMasters__CopyError
  m_InvalidRule__CopyError := m_InvalidRule__CopyError
  m_InvalidSize__CopyError := m_InvalidSize__CopyError
  m_InvalidText__CopyError := m_InvalidText__CopyError
  m_InvalidWords__CopyError := m_InvalidWords__CopyError
  m_NotComparable__CopyError := m_NotComparable__CopyError
  m_Possible__CopyError := m_Possible__CopyError
  m_UnknownDeed__CopyError := m_UnknownDeed__CopyError
  m_UnknownIndex__CopyError := m_UnknownIndex__CopyError
  m_UnknownKind__CopyError := m_UnknownKind__CopyError
  n_InvalidDeed := ⟨PySem.W.mg_of X G gc_InvalidDeed, ⟨⟨_, _, _, _, _, _, _, _, _, _, _, _, _, _, _, xl_InvalidDeed, rfl⟩, xs_InvalidDeed, eb_InvalidDeed, et_InvalidDeed, ek_InvalidDeed⟩, _, _, _, a_InvalidDeed___init__, ty_InvalidDeed___init__, fn_init1 (fun_mk (st := st_InvalidDeed___init__) l_InvalidDeed___init__ c_InvalidDeed___init__ k_InvalidDeed___init__) sc_InvalidDeed___init__ ⟨⟨_, _, _, _, _, _, _, _, _, _, _, _, _, _, _, xl_InvalidDeed, rfl⟩, xs_InvalidDeed, eb_InvalidDeed, et_InvalidDeed, ek_InvalidDeed⟩ no_f_InvalidDeed_index rfl, ((fun_mk (st := st_InvalidDeed___init__) l_InvalidDeed___init__ c_InvalidDeed___init__ k_InvalidDeed___init__).binds (ps := ["self", "index"]) fun _ _ _ _ _ _ us hl => match us, hl with | [_, _], _ => rfl)⟩
  n_InvalidRule := ⟨PySem.W.mg_of X G gc_InvalidRule, ⟨⟨_, _, _, _, _, _, _, _, _, _, _, _, _, _, _, xl_InvalidRule, rfl⟩, xs_InvalidRule, eb_InvalidRule, et_InvalidRule, ek_InvalidRule⟩, _, _, _, a_InvalidRule___init__, ty_InvalidRule___init__, fn_init1 (fun_mk (st := st_InvalidRule___init__) l_InvalidRule___init__ c_InvalidRule___init__ k_InvalidRule___init__) sc_InvalidRule___init__ ⟨⟨_, _, _, _, _, _, _, _, _, _, _, _, _, _, _, xl_InvalidRule, rfl⟩, xs_InvalidRule, eb_InvalidRule, et_InvalidRule, ek_InvalidRule⟩ no_f_InvalidRule_point rfl, ((fun_mk (st := st_InvalidRule___init__) l_InvalidRule___init__ c_InvalidRule___init__ k_InvalidRule___init__).binds (ps := ["self", "point"]) fun _ _ _ _ _ _ us hl => match us, hl with | [_, _], _ => rfl)⟩
  n_InvalidText := ⟨PySem.W.mg_of X G gc_InvalidText, ⟨⟨_, _, _, _, _, _, _, _, _, _, _, _, _, _, _, xl_InvalidText, rfl⟩, xs_InvalidText, eb_InvalidText, et_InvalidText, ek_InvalidText⟩, _, _, _, a_InvalidText___init__, ty_InvalidText___init__, fn_init2 (fun_mk (st := st_InvalidText___init__) l_InvalidText___init__ c_InvalidText___init__ k_InvalidText___init__) sc_InvalidText___init__ ⟨⟨_, _, _, _, _, _, _, _, _, _, _, _, _, _, _, xl_InvalidText, rfl⟩, xs_InvalidText, eb_InvalidText, et_InvalidText, ek_InvalidText⟩ no_f_InvalidText_line no_f_InvalidText_word rfl, ((fun_mk (st := st_InvalidText___init__) l_InvalidText___init__ c_InvalidText___init__ k_InvalidText___init__).binds (ps := ["self", "line", "word"]) fun _ _ _ _ _ _ us hl => match us, hl with | [_, _, _], _ => rfl)⟩
  n_Possible := ⟨PySem.W.mg_of X G gc_Possible, ⟨⟨_, _, _, _, _, _, _, _, _, _, _, _, _, _, _, xl_Possible, rfl⟩, xs_Possible, eb_Possible, et_Possible, ek_Possible⟩, _, _, _, a_Possible___init__, ty_Possible___init__, fn_init1 (fun_mk (st := st_Possible___init__) l_Possible___init__ c_Possible___init__ k_Possible___init__) sc_Possible___init__ ⟨⟨_, _, _, _, _, _, _, _, _, _, _, _, _, _, _, xl_Possible, rfl⟩, xs_Possible, eb_Possible, et_Possible, ek_Possible⟩ no_f_Possible_history rfl, ((fun_mk (st := st_Possible___init__) l_Possible___init__ c_Possible___init__ k_Possible___init__).binds (ps := ["self", "history"]) fun _ _ _ _ _ _ us hl => match us, hl with | [_, _], _ => rfl)⟩
  n_UnknownDeed := ⟨PySem.W.mg_of X G gc_UnknownDeed, ⟨⟨_, _, _, _, _, _, _, _, _, _, _, _, _, _, _, xl_UnknownDeed, rfl⟩, xs_UnknownDeed, eb_UnknownDeed, et_UnknownDeed, ek_UnknownDeed⟩, _, _, _, a_UnknownDeed___init__, ty_UnknownDeed___init__, fn_init1 (fun_mk (st := st_UnknownDeed___init__) l_UnknownDeed___init__ c_UnknownDeed___init__ k_UnknownDeed___init__) sc_UnknownDeed___init__ ⟨⟨_, _, _, _, _, _, _, _, _, _, _, _, _, _, _, xl_UnknownDeed, rfl⟩, xs_UnknownDeed, eb_UnknownDeed, et_UnknownDeed, ek_UnknownDeed⟩ no_f_UnknownDeed_deed rfl, ((fun_mk (st := st_UnknownDeed___init__) l_UnknownDeed___init__ c_UnknownDeed___init__ k_UnknownDeed___init__).binds (ps := ["self", "deed"]) fun _ _ _ _ _ _ us hl => match us, hl with | [_, _], _ => rfl)⟩
  n_UnknownIndex := ⟨PySem.W.mg_of X G gc_UnknownIndex, ⟨⟨_, _, _, _, _, _, _, _, _, _, _, _, _, _, _, xl_UnknownIndex, rfl⟩, xs_UnknownIndex, eb_UnknownIndex, et_UnknownIndex, ek_UnknownIndex⟩, _, _, _, a_UnknownIndex___init__, ty_UnknownIndex___init__, fn_init1 (fun_mk (st := st_UnknownIndex___init__) l_UnknownIndex___init__ c_UnknownIndex___init__ k_UnknownIndex___init__) sc_UnknownIndex___init__ ⟨⟨_, _, _, _, _, _, _, _, _, _, _, _, _, _, _, xl_UnknownIndex, rfl⟩, xs_UnknownIndex, eb_UnknownIndex, et_UnknownIndex, ek_UnknownIndex⟩ no_f_UnknownIndex_index rfl, ((fun_mk (st := st_UnknownIndex___init__) l_UnknownIndex___init__ c_UnknownIndex___init__ k_UnknownIndex___init__).binds (ps := ["self", "index"]) fun _ _ _ _ _ _ us hl => match us, hl with | [_, _], _ => rfl)⟩
  n_UnknownKind := ⟨PySem.W.mg_of X G gc_UnknownKind, ⟨⟨_, _, _, _, _, _, _, _, _, _, _, _, _, _, _, xl_UnknownKind, rfl⟩, xs_UnknownKind, eb_UnknownKind, et_UnknownKind, ek_UnknownKind⟩, _, _, _, a_UnknownKind___init__, ty_UnknownKind___init__, fn_init1 (fun_mk (st := st_UnknownKind___init__) l_UnknownKind___init__ c_UnknownKind___init__ k_UnknownKind___init__) sc_UnknownKind___init__ ⟨⟨_, _, _, _, _, _, _, _, _, _, _, _, _, _, _, xl_UnknownKind, rfl⟩, xs_UnknownKind, eb_UnknownKind, et_UnknownKind, ek_UnknownKind⟩ no_f_UnknownKind_index rfl, ((fun_mk (st := st_UnknownKind___init__) l_UnknownKind___init__ c_UnknownKind___init__ k_UnknownKind___init__).binds (ps := ["self", "index"]) fun _ _ _ _ _ _ us hl => match us, hl with | [_, _], _ => rfl)⟩
  w_InvalidDeed__CopyError := xi_of (PySem.W.mg_of X G gc_InvalidDeed) (List.forall_mem_cons.mpr ⟨⟨⟨ya_InvalidDeed, yb_InvalidDeed, yc_InvalidDeed, yd_InvalidDeed, ca_InvalidDeed, cn_InvalidDeed, ct_InvalidDeed, cm_InvalidDeed⟩, no_x_InvalidDeed_InvalidDeed⟩, List.forall_mem_cons.mpr ⟨⟨⟨ya_InvalidMasters, yb_InvalidMasters, yc_InvalidMasters, yd_InvalidMasters, ca_InvalidMasters, cn_InvalidMasters, ct_InvalidMasters, cm_InvalidMasters⟩, no_x_InvalidMasters_InvalidDeed⟩, List.forall_mem_cons.mpr ⟨⟨⟨ya_InvalidRule, yb_InvalidRule, yc_InvalidRule, yd_InvalidRule, ca_InvalidRule, cn_InvalidRule, ct_InvalidRule, cm_InvalidRule⟩, no_x_InvalidRule_InvalidDeed⟩, List.forall_mem_cons.mpr ⟨⟨⟨ya_InvalidSize, yb_InvalidSize, yc_InvalidSize, yd_InvalidSize, ca_InvalidSize, cn_InvalidSize, ct_InvalidSize, cm_InvalidSize⟩, no_x_InvalidSize_InvalidDeed⟩, List.forall_mem_cons.mpr ⟨⟨⟨ya_InvalidText, yb_InvalidText, yc_InvalidText, yd_InvalidText, ca_InvalidText, cn_InvalidText, ct_InvalidText, cm_InvalidText⟩, no_x_InvalidText_InvalidDeed⟩, List.forall_mem_cons.mpr ⟨⟨⟨ya_InvalidWords, yb_InvalidWords, yc_InvalidWords, yd_InvalidWords, ca_InvalidWords, cn_InvalidWords, ct_InvalidWords, cm_InvalidWords⟩, no_x_InvalidWords_InvalidDeed⟩, List.forall_mem_cons.mpr ⟨⟨⟨ya_NotComparable, yb_NotComparable, yc_NotComparable, yd_NotComparable, ca_NotComparable, cn_NotComparable, ct_NotComparable, cm_NotComparable⟩, no_x_NotComparable_InvalidDeed⟩, List.forall_mem_cons.mpr ⟨⟨⟨ya_Possible, yb_Possible, yc_Possible, yd_Possible, ca_Possible, cn_Possible, ct_Possible, cm_Possible⟩, no_x_Possible_InvalidDeed⟩, List.forall_mem_cons.mpr ⟨⟨⟨ya_UnknownDeed, yb_UnknownDeed, yc_UnknownDeed, yd_UnknownDeed, ca_UnknownDeed, cn_UnknownDeed, ct_UnknownDeed, cm_UnknownDeed⟩, no_x_UnknownDeed_InvalidDeed⟩, List.forall_mem_cons.mpr ⟨⟨⟨ya_UnknownIndex, yb_UnknownIndex, yc_UnknownIndex, yd_UnknownIndex, ca_UnknownIndex, cn_UnknownIndex, ct_UnknownIndex, cm_UnknownIndex⟩, no_x_UnknownIndex_InvalidDeed⟩, List.forall_mem_cons.mpr ⟨⟨⟨ya_UnknownKind, yb_UnknownKind, yc_UnknownKind, yd_UnknownKind, ca_UnknownKind, cn_UnknownKind, ct_UnknownKind, cm_UnknownKind⟩, no_x_UnknownKind_InvalidDeed⟩, fun _ z => nomatch z⟩⟩⟩⟩⟩⟩⟩⟩⟩⟩⟩)
  w_InvalidMasters__CopyError := xi_of (PySem.W.mg_of X G gc_InvalidMasters) (List.forall_mem_cons.mpr ⟨⟨⟨ya_InvalidDeed, yb_InvalidDeed, yc_InvalidDeed, yd_InvalidDeed, ca_InvalidDeed, cn_InvalidDeed, ct_InvalidDeed, cm_InvalidDeed⟩, no_x_InvalidDeed_InvalidMasters⟩, List.forall_mem_cons.mpr ⟨⟨⟨ya_InvalidMasters, yb_InvalidMasters, yc_InvalidMasters, yd_InvalidMasters, ca_InvalidMasters, cn_InvalidMasters, ct_InvalidMasters, cm_InvalidMasters⟩, no_x_InvalidMasters_InvalidMasters⟩, List.forall_mem_cons.mpr ⟨⟨⟨ya_InvalidRule, yb_InvalidRule, yc_InvalidRule, yd_InvalidRule, ca_InvalidRule, cn_InvalidRule, ct_InvalidRule, cm_InvalidRule⟩, no_x_InvalidRule_InvalidMasters⟩, List.forall_mem_cons.mpr ⟨⟨⟨ya_InvalidSize, yb_InvalidSize, yc_InvalidSize, yd_InvalidSize, ca_InvalidSize, cn_InvalidSize, ct_InvalidSize, cm_InvalidSize⟩, no_x_InvalidSize_InvalidMasters⟩, List.forall_mem_cons.mpr ⟨⟨⟨ya_InvalidText, yb_InvalidText, yc_InvalidText, yd_InvalidText, ca_InvalidText, cn_InvalidText, ct_InvalidText, cm_InvalidText⟩, no_x_InvalidText_InvalidMasters⟩, List.forall_mem_cons.mpr ⟨⟨⟨ya_InvalidWords, yb_InvalidWords, yc_InvalidWords, yd_InvalidWords, ca_InvalidWords, cn_InvalidWords, ct_InvalidWords, cm_InvalidWords⟩, no_x_InvalidWords_InvalidMasters⟩, List.forall_mem_cons.mpr ⟨⟨⟨ya_NotComparable, yb_NotComparable, yc_NotComparable, yd_NotComparable, ca_NotComparable, cn_NotComparable, ct_NotComparable, cm_NotComparable⟩, no_x_NotComparable_InvalidMasters⟩, List.forall_mem_cons.mpr ⟨⟨⟨ya_Possible, yb_Possible, yc_Possible, yd_Possible, ca_Possible, cn_Possible, ct_Possible, cm_Possible⟩, no_x_Possible_InvalidMasters⟩, List.forall_mem_cons.mpr ⟨⟨⟨ya_UnknownDeed, yb_UnknownDeed, yc_UnknownDeed, yd_UnknownDeed, ca_UnknownDeed, cn_UnknownDeed, ct_UnknownDeed, cm_UnknownDeed⟩, no_x_UnknownDeed_InvalidMasters⟩, List.forall_mem_cons.mpr ⟨⟨⟨ya_UnknownIndex, yb_UnknownIndex, yc_UnknownIndex, yd_UnknownIndex, ca_UnknownIndex, cn_UnknownIndex, ct_UnknownIndex, cm_UnknownIndex⟩, no_x_UnknownIndex_InvalidMasters⟩, List.forall_mem_cons.mpr ⟨⟨⟨ya_UnknownKind, yb_UnknownKind, yc_UnknownKind, yd_UnknownKind, ca_UnknownKind, cn_UnknownKind, ct_UnknownKind, cm_UnknownKind⟩, no_x_UnknownKind_InvalidMasters⟩, fun _ z => nomatch z⟩⟩⟩⟩⟩⟩⟩⟩⟩⟩⟩)
  w_InvalidRule__CopyError := xi_of (PySem.W.mg_of X G gc_InvalidRule) (List.forall_mem_cons.mpr ⟨⟨⟨ya_InvalidDeed, yb_InvalidDeed, yc_InvalidDeed, yd_InvalidDeed, ca_InvalidDeed, cn_InvalidDeed, ct_InvalidDeed, cm_InvalidDeed⟩, no_x_InvalidDeed_InvalidRule⟩, List.forall_mem_cons.mpr ⟨⟨⟨ya_InvalidMasters, yb_InvalidMasters, yc_InvalidMasters, yd_InvalidMasters, ca_InvalidMasters, cn_InvalidMasters, ct_InvalidMasters, cm_InvalidMasters⟩, no_x_InvalidMasters_InvalidRule⟩, List.forall_mem_cons.mpr ⟨⟨⟨ya_InvalidRule, yb_InvalidRule, yc_InvalidRule, yd_InvalidRule, ca_InvalidRule, cn_InvalidRule, ct_InvalidRule, cm_InvalidRule⟩, no_x_InvalidRule_InvalidRule⟩, List.forall_mem_cons.mpr ⟨⟨⟨ya_InvalidSize, yb_InvalidSize, yc_InvalidSize, yd_InvalidSize, ca_InvalidSize, cn_InvalidSize, ct_InvalidSize, cm_InvalidSize⟩, no_x_InvalidSize_InvalidRule⟩, List.forall_mem_cons.mpr ⟨⟨⟨ya_InvalidText, yb_InvalidText, yc_InvalidText, yd_InvalidText, ca_InvalidText, cn_InvalidText, ct_InvalidText, cm_InvalidText⟩, no_x_InvalidText_InvalidRule⟩, List.forall_mem_cons.mpr ⟨⟨⟨ya_InvalidWords, yb_InvalidWords, yc_InvalidWords, yd_InvalidWords, ca_InvalidWords, cn_InvalidWords, ct_InvalidWords, cm_InvalidWords⟩, no_x_InvalidWords_InvalidRule⟩, List.forall_mem_cons.mpr ⟨⟨⟨ya_NotComparable, yb_NotComparable, yc_NotComparable, yd_NotComparable, ca_NotComparable, cn_NotComparable, ct_NotComparable, cm_NotComparable⟩, no_x_NotComparable_InvalidRule⟩, List.forall_mem_cons.mpr ⟨⟨⟨ya_Possible, yb_Possible, yc_Possible, yd_Possible, ca_Possible, cn_Possible, ct_Possible, cm_Possible⟩, no_x_Possible_InvalidRule⟩, List.forall_mem_cons.mpr ⟨⟨⟨ya_UnknownDeed, yb_UnknownDeed, yc_UnknownDeed, yd_UnknownDeed, ca_UnknownDeed, cn_UnknownDeed, ct_UnknownDeed, cm_UnknownDeed⟩, no_x_UnknownDeed_InvalidRule⟩, List.forall_mem_cons.mpr ⟨⟨⟨ya_UnknownIndex, yb_UnknownIndex, yc_UnknownIndex, yd_UnknownIndex, ca_UnknownIndex, cn_UnknownIndex, ct_UnknownIndex, cm_UnknownIndex⟩, no_x_UnknownIndex_InvalidRule⟩, List.forall_mem_cons.mpr ⟨⟨⟨ya_UnknownKind, yb_UnknownKind, yc_UnknownKind, yd_UnknownKind, ca_UnknownKind, cn_UnknownKind, ct_UnknownKind, cm_UnknownKind⟩, no_x_UnknownKind_InvalidRule⟩, fun _ z => nomatch z⟩⟩⟩⟩⟩⟩⟩⟩⟩⟩⟩)
  w_InvalidSize__CopyError := xi_of (PySem.W.mg_of X G gc_InvalidSize) (List.forall_mem_cons.mpr ⟨⟨⟨ya_InvalidDeed, yb_InvalidDeed, yc_InvalidDeed, yd_InvalidDeed, ca_InvalidDeed, cn_InvalidDeed, ct_InvalidDeed, cm_InvalidDeed⟩, no_x_InvalidDeed_InvalidSize⟩, List.forall_mem_cons.mpr ⟨⟨⟨ya_InvalidMasters, yb_InvalidMasters, yc_InvalidMasters, yd_InvalidMasters, ca_InvalidMasters, cn_InvalidMasters, ct_InvalidMasters, cm_InvalidMasters⟩, no_x_InvalidMasters_InvalidSize⟩, List.forall_mem_cons.mpr ⟨⟨⟨ya_InvalidRule, yb_InvalidRule, yc_InvalidRule, yd_InvalidRule, ca_InvalidRule, cn_InvalidRule, ct_InvalidRule, cm_InvalidRule⟩, no_x_InvalidRule_InvalidSize⟩, List.forall_mem_cons.mpr ⟨⟨⟨ya_InvalidSize, yb_InvalidSize, yc_InvalidSize, yd_InvalidSize, ca_InvalidSize, cn_InvalidSize, ct_InvalidSize, cm_InvalidSize⟩, no_x_InvalidSize_InvalidSize⟩, List.forall_mem_cons.mpr ⟨⟨⟨ya_InvalidText, yb_InvalidText, yc_InvalidText, yd_InvalidText, ca_InvalidText, cn_InvalidText, ct_InvalidText, cm_InvalidText⟩, no_x_InvalidText_InvalidSize⟩, List.forall_mem_cons.mpr ⟨⟨⟨ya_InvalidWords, yb_InvalidWords, yc_InvalidWords, yd_InvalidWords, ca_InvalidWords, cn_InvalidWords, ct_InvalidWords, cm_InvalidWords⟩, no_x_InvalidWords_InvalidSize⟩, List.forall_mem_cons.mpr ⟨⟨⟨ya_NotComparable, yb_NotComparable, yc_NotComparable, yd_NotComparable, ca_NotComparable, cn_NotComparable, ct_NotComparable, cm_NotComparable⟩, no_x_NotComparable_InvalidSize⟩, List.forall_mem_cons.mpr ⟨⟨⟨ya_Possible, yb_Possible, yc_Possible, yd_Possible, ca_Possible, cn_Possible, ct_Possible, cm_Possible⟩, no_x_Possible_InvalidSize⟩, List.forall_mem_cons.mpr ⟨⟨⟨ya_UnknownDeed, yb_UnknownDeed, yc_UnknownDeed, yd_UnknownDeed, ca_UnknownDeed, cn_UnknownDeed, ct_UnknownDeed, cm_UnknownDeed⟩, no_x_UnknownDeed_InvalidSize⟩, List.forall_mem_cons.mpr ⟨⟨⟨ya_UnknownIndex, yb_UnknownIndex, yc_UnknownIndex, yd_UnknownIndex, ca_UnknownIndex, cn_UnknownIndex, ct_UnknownIndex, cm_UnknownIndex⟩, no_x_UnknownIndex_InvalidSize⟩, List.forall_mem_cons.mpr ⟨⟨⟨ya_UnknownKind, yb_UnknownKind, yc_UnknownKind, yd_UnknownKind, ca_UnknownKind, cn_UnknownKind, ct_UnknownKind, cm_UnknownKind⟩, no_x_UnknownKind_InvalidSize⟩, fun _ z => nomatch z⟩⟩⟩⟩⟩⟩⟩⟩⟩⟩⟩)
  w_InvalidText__CopyError := xi_of (PySem.W.mg_of X G gc_InvalidText) (List.forall_mem_cons.mpr ⟨⟨⟨ya_InvalidDeed, yb_InvalidDeed, yc_InvalidDeed, yd_InvalidDeed, ca_InvalidDeed, cn_InvalidDeed, ct_InvalidDeed, cm_InvalidDeed⟩, no_x_InvalidDeed_InvalidText⟩, List.forall_mem_cons.mpr ⟨⟨⟨ya_InvalidMasters, yb_InvalidMasters, yc_InvalidMasters, yd_InvalidMasters, ca_InvalidMasters, cn_InvalidMasters, ct_InvalidMasters, cm_InvalidMasters⟩, no_x_InvalidMasters_InvalidText⟩, List.forall_mem_cons.mpr ⟨⟨⟨ya_InvalidRule, yb_InvalidRule, yc_InvalidRule, yd_InvalidRule, ca_InvalidRule, cn_InvalidRule, ct_InvalidRule, cm_InvalidRule⟩, no_x_InvalidRule_InvalidText⟩, List.forall_mem_cons.mpr ⟨⟨⟨ya_InvalidSize, yb_InvalidSize, yc_InvalidSize, yd_InvalidSize, ca_InvalidSize, cn_InvalidSize, ct_InvalidSize, cm_InvalidSize⟩, no_x_InvalidSize_InvalidText⟩, List.forall_mem_cons.mpr ⟨⟨⟨ya_InvalidText, yb_InvalidText, yc_InvalidText, yd_InvalidText, ca_InvalidText, cn_InvalidText, ct_InvalidText, cm_InvalidText⟩, no_x_InvalidText_InvalidText⟩, List.forall_mem_cons.mpr ⟨⟨⟨ya_InvalidWords, yb_InvalidWords, yc_InvalidWords, yd_InvalidWords, ca_InvalidWords, cn_InvalidWords, ct_InvalidWords, cm_InvalidWords⟩, no_x_InvalidWords_InvalidText⟩, List.forall_mem_cons.mpr ⟨⟨⟨ya_NotComparable, yb_NotComparable, yc_NotComparable, yd_NotComparable, ca_NotComparable, cn_NotComparable, ct_NotComparable, cm_NotComparable⟩, no_x_NotComparable_InvalidText⟩, List.forall_mem_cons.mpr ⟨⟨⟨ya_Possible, yb_Possible, yc_Possible, yd_Possible, ca_Possible, cn_Possible, ct_Possible, cm_Possible⟩, no_x_Possible_InvalidText⟩, List.forall_mem_cons.mpr ⟨⟨⟨ya_UnknownDeed, yb_UnknownDeed, yc_UnknownDeed, yd_UnknownDeed, ca_UnknownDeed, cn_UnknownDeed, ct_UnknownDeed, cm_UnknownDeed⟩, no_x_UnknownDeed_InvalidText⟩, List.forall_mem_cons.mpr ⟨⟨⟨ya_UnknownIndex, yb_UnknownIndex, yc_UnknownIndex, yd_UnknownIndex, ca_UnknownIndex, cn_UnknownIndex, ct_UnknownIndex, cm_UnknownIndex⟩, no_x_UnknownIndex_InvalidText⟩, List.forall_mem_cons.mpr ⟨⟨⟨ya_UnknownKind, yb_UnknownKind, yc_UnknownKind, yd_UnknownKind, ca_UnknownKind, cn_UnknownKind, ct_UnknownKind, cm_UnknownKind⟩, no_x_UnknownKind_InvalidText⟩, fun _ z => nomatch z⟩⟩⟩⟩⟩⟩⟩⟩⟩⟩⟩)
  w_InvalidWords__CopyError := xi_of (PySem.W.mg_of X G gc_InvalidWords) (List.forall_mem_cons.mpr ⟨⟨⟨ya_InvalidDeed, yb_InvalidDeed, yc_InvalidDeed, yd_InvalidDeed, ca_InvalidDeed, cn_InvalidDeed, ct_InvalidDeed, cm_InvalidDeed⟩, no_x_InvalidDeed_InvalidWords⟩, List.forall_mem_cons.mpr ⟨⟨⟨ya_InvalidMasters, yb_InvalidMasters, yc_InvalidMasters, yd_InvalidMasters, ca_InvalidMasters, cn_InvalidMasters, ct_InvalidMasters, cm_InvalidMasters⟩, no_x_InvalidMasters_InvalidWords⟩, List.forall_mem_cons.mpr ⟨⟨⟨ya_InvalidRule, yb_InvalidRule, yc_InvalidRule, yd_InvalidRule, ca_InvalidRule, cn_InvalidRule, ct_InvalidRule, cm_InvalidRule⟩, no_x_InvalidRule_InvalidWords⟩, List.forall_mem_cons.mpr ⟨⟨⟨ya_InvalidSize, yb_InvalidSize, yc_InvalidSize, yd_InvalidSize, ca_InvalidSize, cn_InvalidSize, ct_InvalidSize, cm_InvalidSize⟩, no_x_InvalidSize_InvalidWords⟩, List.forall_mem_cons.mpr ⟨⟨⟨ya_InvalidText, yb_InvalidText, yc_InvalidText, yd_InvalidText, ca_InvalidText, cn_InvalidText, ct_InvalidText, cm_InvalidText⟩, no_x_InvalidText_InvalidWords⟩, List.forall_mem_cons.mpr ⟨⟨⟨ya_InvalidWords, yb_InvalidWords, yc_InvalidWords, yd_InvalidWords, ca_InvalidWords, cn_InvalidWords, ct_InvalidWords, cm_InvalidWords⟩, no_x_InvalidWords_InvalidWords⟩, List.forall_mem_cons.mpr ⟨⟨⟨ya_NotComparable, yb_NotComparable, yc_NotComparable, yd_NotComparable, ca_NotComparable, cn_NotComparable, ct_NotComparable, cm_NotComparable⟩, no_x_NotComparable_InvalidWords⟩, List.forall_mem_cons.mpr ⟨⟨⟨ya_Possible, yb_Possible, yc_Possible, yd_Possible, ca_Possible, cn_Possible, ct_Possible, cm_Possible⟩, no_x_Possible_InvalidWords⟩, List.forall_mem_cons.mpr ⟨⟨⟨ya_UnknownDeed, yb_UnknownDeed, yc_UnknownDeed, yd_UnknownDeed, ca_UnknownDeed, cn_UnknownDeed, ct_UnknownDeed, cm_UnknownDeed⟩, no_x_UnknownDeed_InvalidWords⟩, List.forall_mem_cons.mpr ⟨⟨⟨ya_UnknownIndex, yb_UnknownIndex, yc_UnknownIndex, yd_UnknownIndex, ca_UnknownIndex, cn_UnknownIndex, ct_UnknownIndex, cm_UnknownIndex⟩, no_x_UnknownIndex_InvalidWords⟩, List.forall_mem_cons.mpr ⟨⟨⟨ya_UnknownKind, yb_UnknownKind, yc_UnknownKind, yd_UnknownKind, ca_UnknownKind, cn_UnknownKind, ct_UnknownKind, cm_UnknownKind⟩, no_x_UnknownKind_InvalidWords⟩, fun _ z => nomatch z⟩⟩⟩⟩⟩⟩⟩⟩⟩⟩⟩)
  w_NotComparable__CopyError := xi_of (PySem.W.mg_of X G gc_NotComparable) (List.forall_mem_cons.mpr ⟨⟨⟨ya_InvalidDeed, yb_InvalidDeed, yc_InvalidDeed, yd_InvalidDeed, ca_InvalidDeed, cn_InvalidDeed, ct_InvalidDeed, cm_InvalidDeed⟩, no_x_InvalidDeed_NotComparable⟩, List.forall_mem_cons.mpr ⟨⟨⟨ya_InvalidMasters, yb_InvalidMasters, yc_InvalidMasters, yd_InvalidMasters, ca_InvalidMasters, cn_InvalidMasters, ct_InvalidMasters, cm_InvalidMasters⟩, no_x_InvalidMasters_NotComparable⟩, List.forall_mem_cons.mpr ⟨⟨⟨ya_InvalidRule, yb_InvalidRule, yc_InvalidRule, yd_InvalidRule, ca_InvalidRule, cn_InvalidRule, ct_InvalidRule, cm_InvalidRule⟩, no_x_InvalidRule_NotComparable⟩, List.forall_mem_cons.mpr ⟨⟨⟨ya_InvalidSize, yb_InvalidSize, yc_InvalidSize, yd_InvalidSize, ca_InvalidSize, cn_InvalidSize, ct_InvalidSize, cm_InvalidSize⟩, no_x_InvalidSize_NotComparable⟩, List.forall_mem_cons.mpr ⟨⟨⟨ya_InvalidText, yb_InvalidText, yc_InvalidText, yd_InvalidText, ca_InvalidText, cn_InvalidText, ct_InvalidText, cm_InvalidText⟩, no_x_InvalidText_NotComparable⟩, List.forall_mem_cons.mpr ⟨⟨⟨ya_InvalidWords, yb_InvalidWords, yc_InvalidWords, yd_InvalidWords, ca_InvalidWords, cn_InvalidWords, ct_InvalidWords, cm_InvalidWords⟩, no_x_InvalidWords_NotComparable⟩, List.forall_mem_cons.mpr ⟨⟨⟨ya_NotComparable, yb_NotComparable, yc_NotComparable, yd_NotComparable, ca_NotComparable, cn_NotComparable, ct_NotComparable, cm_NotComparable⟩, no_x_NotComparable_NotComparable⟩, List.forall_mem_cons.mpr ⟨⟨⟨ya_Possible, yb_Possible, yc_Possible, yd_Possible, ca_Possible, cn_Possible, ct_Possible, cm_Possible⟩, no_x_Possible_NotComparable⟩, List.forall_mem_cons.mpr ⟨⟨⟨ya_UnknownDeed, yb_UnknownDeed, yc_UnknownDeed, yd_UnknownDeed, ca_UnknownDeed, cn_UnknownDeed, ct_UnknownDeed, cm_UnknownDeed⟩, no_x_UnknownDeed_NotComparable⟩, List.forall_mem_cons.mpr ⟨⟨⟨ya_UnknownIndex, yb_UnknownIndex, yc_UnknownIndex, yd_UnknownIndex, ca_UnknownIndex, cn_UnknownIndex, ct_UnknownIndex, cm_UnknownIndex⟩, no_x_UnknownIndex_NotComparable⟩, List.forall_mem_cons.mpr ⟨⟨⟨ya_UnknownKind, yb_UnknownKind, yc_UnknownKind, yd_UnknownKind, ca_UnknownKind, cn_UnknownKind, ct_UnknownKind, cm_UnknownKind⟩, no_x_UnknownKind_NotComparable⟩, fun _ z => nomatch z⟩⟩⟩⟩⟩⟩⟩⟩⟩⟩⟩)
  w_Possible__CopyError := xi_of (PySem.W.mg_of X G gc_Possible) (List.forall_mem_cons.mpr ⟨⟨⟨ya_InvalidDeed, yb_InvalidDeed, yc_InvalidDeed, yd_InvalidDeed, ca_InvalidDeed, cn_InvalidDeed, ct_InvalidDeed, cm_InvalidDeed⟩, no_x_InvalidDeed_Possible⟩, List.forall_mem_cons.mpr ⟨⟨⟨ya_InvalidMasters, yb_InvalidMasters, yc_InvalidMasters, yd_InvalidMasters, ca_InvalidMasters, cn_InvalidMasters, ct_InvalidMasters, cm_InvalidMasters⟩, no_x_InvalidMasters_Possible⟩, List.forall_mem_cons.mpr ⟨⟨⟨ya_InvalidRule, yb_InvalidRule, yc_InvalidRule, yd_InvalidRule, ca_InvalidRule, cn_InvalidRule, ct_InvalidRule, cm_InvalidRule⟩, no_x_InvalidRule_Possible⟩, List.forall_mem_cons.mpr ⟨⟨⟨ya_InvalidSize, yb_InvalidSize, yc_InvalidSize, yd_InvalidSize, ca_InvalidSize, cn_InvalidSize, ct_InvalidSize, cm_InvalidSize⟩, no_x_InvalidSize_Possible⟩, List.forall_mem_cons.mpr ⟨⟨⟨ya_InvalidText, yb_InvalidText, yc_InvalidText, yd_InvalidText, ca_InvalidText, cn_InvalidText, ct_InvalidText, cm_InvalidText⟩, no_x_InvalidText_Possible⟩, List.forall_mem_cons.mpr ⟨⟨⟨ya_InvalidWords, yb_InvalidWords, yc_InvalidWords, yd_InvalidWords, ca_InvalidWords, cn_InvalidWords, ct_InvalidWords, cm_InvalidWords⟩, no_x_InvalidWords_Possible⟩, List.forall_mem_cons.mpr ⟨⟨⟨ya_NotComparable, yb_NotComparable, yc_NotComparable, yd_NotComparable, ca_NotComparable, cn_NotComparable, ct_NotComparable, cm_NotComparable⟩, no_x_NotComparable_Possible⟩, List.forall_mem_cons.mpr ⟨⟨⟨ya_Possible, yb_Possible, yc_Possible, yd_Possible, ca_Possible, cn_Possible, ct_Possible, cm_Possible⟩, no_x_Possible_Possible⟩, List.forall_mem_cons.mpr ⟨⟨⟨ya_UnknownDeed, yb_UnknownDeed, yc_UnknownDeed, yd_UnknownDeed, ca_UnknownDeed, cn_UnknownDeed, ct_UnknownDeed, cm_UnknownDeed⟩, no_x_UnknownDeed_Possible⟩, List.forall_mem_cons.mpr ⟨⟨⟨ya_UnknownIndex, yb_UnknownIndex, yc_UnknownIndex, yd_UnknownIndex, ca_UnknownIndex, cn_UnknownIndex, ct_UnknownIndex, cm_UnknownIndex⟩, no_x_UnknownIndex_Possible⟩, List.forall_mem_cons.mpr ⟨⟨⟨ya_UnknownKind, yb_UnknownKind, yc_UnknownKind, yd_UnknownKind, ca_UnknownKind, cn_UnknownKind, ct_UnknownKind, cm_UnknownKind⟩, no_x_UnknownKind_Possible⟩, fun _ z => nomatch z⟩⟩⟩⟩⟩⟩⟩⟩⟩⟩⟩)
  w_UnknownDeed__CopyError := xi_of (PySem.W.mg_of X G gc_UnknownDeed) (List.forall_mem_cons.mpr ⟨⟨⟨ya_InvalidDeed, yb_InvalidDeed, yc_InvalidDeed, yd_InvalidDeed, ca_InvalidDeed, cn_InvalidDeed, ct_InvalidDeed, cm_InvalidDeed⟩, no_x_InvalidDeed_UnknownDeed⟩, List.forall_mem_cons.mpr ⟨⟨⟨ya_InvalidMasters, yb_InvalidMasters, yc_InvalidMasters, yd_InvalidMasters, ca_InvalidMasters, cn_InvalidMasters, ct_InvalidMasters, cm_InvalidMasters⟩, no_x_InvalidMasters_UnknownDeed⟩, List.forall_mem_cons.mpr ⟨⟨⟨ya_InvalidRule, yb_InvalidRule, yc_InvalidRule, yd_InvalidRule, ca_InvalidRule, cn_InvalidRule, ct_InvalidRule, cm_InvalidRule⟩, no_x_InvalidRule_UnknownDeed⟩, List.forall_mem_cons.mpr ⟨⟨⟨ya_InvalidSize, yb_InvalidSize, yc_InvalidSize, yd_InvalidSize, ca_InvalidSize, cn_InvalidSize, ct_InvalidSize, cm_InvalidSize⟩, no_x_InvalidSize_UnknownDeed⟩, List.forall_mem_cons.mpr ⟨⟨⟨ya_InvalidText, yb_InvalidText, yc_InvalidText, yd_InvalidText, ca_InvalidText, cn_InvalidText, ct_InvalidText, cm_InvalidText⟩, no_x_InvalidText_UnknownDeed⟩, List.forall_mem_cons.mpr ⟨⟨⟨ya_InvalidWords, yb_InvalidWords, yc_InvalidWords, yd_InvalidWords, ca_InvalidWords, cn_InvalidWords, ct_InvalidWords, cm_InvalidWords⟩, no_x_InvalidWords_UnknownDeed⟩, List.forall_mem_cons.mpr ⟨⟨⟨ya_NotComparable, yb_NotComparable, yc_NotComparable, yd_NotComparable, ca_NotComparable, cn_NotComparable, ct_NotComparable, cm_NotComparable⟩, no_x_NotComparable_UnknownDeed⟩, List.forall_mem_cons.mpr ⟨⟨⟨ya_Possible, yb_Possible, yc_Possible, yd_Possible, ca_Possible, cn_Possible, ct_Possible, cm_Possible⟩, no_x_Possible_UnknownDeed⟩, List.forall_mem_cons.mpr ⟨⟨⟨ya_UnknownDeed, yb_UnknownDeed, yc_UnknownDeed, yd_UnknownDeed, ca_UnknownDeed, cn_UnknownDeed, ct_UnknownDeed, cm_UnknownDeed⟩, no_x_UnknownDeed_UnknownDeed⟩, List.forall_mem_cons.mpr ⟨⟨⟨ya_UnknownIndex, yb_UnknownIndex, yc_UnknownIndex, yd_UnknownIndex, ca_UnknownIndex, cn_UnknownIndex, ct_UnknownIndex, cm_UnknownIndex⟩, no_x_UnknownIndex_UnknownDeed⟩, List.forall_mem_cons.mpr ⟨⟨⟨ya_UnknownKind, yb_UnknownKind, yc_UnknownKind, yd_UnknownKind, ca_UnknownKind, cn_UnknownKind, ct_UnknownKind, cm_UnknownKind⟩, no_x_UnknownKind_UnknownDeed⟩, fun _ z => nomatch z⟩⟩⟩⟩⟩⟩⟩⟩⟩⟩⟩)
  w_UnknownIndex__CopyError := xi_of (PySem.W.mg_of X G gc_UnknownIndex) (List.forall_mem_cons.mpr ⟨⟨⟨ya_InvalidDeed, yb_InvalidDeed, yc_InvalidDeed, yd_InvalidDeed, ca_InvalidDeed, cn_InvalidDeed, ct_InvalidDeed, cm_InvalidDeed⟩, no_x_InvalidDeed_UnknownIndex⟩, List.forall_mem_cons.mpr ⟨⟨⟨ya_InvalidMasters, yb_InvalidMasters, yc_InvalidMasters, yd_InvalidMasters, ca_InvalidMasters, cn_InvalidMasters, ct_InvalidMasters, cm_InvalidMasters⟩, no_x_InvalidMasters_UnknownIndex⟩, List.forall_mem_cons.mpr ⟨⟨⟨ya_InvalidRule, yb_InvalidRule, yc_InvalidRule, yd_InvalidRule, ca_InvalidRule, cn_InvalidRule, ct_InvalidRule, cm_InvalidRule⟩, no_x_InvalidRule_UnknownIndex⟩, List.forall_mem_cons.mpr ⟨⟨⟨ya_InvalidSize, yb_InvalidSize, yc_InvalidSize, yd_InvalidSize, ca_InvalidSize, cn_InvalidSize, ct_InvalidSize, cm_InvalidSize⟩, no_x_InvalidSize_UnknownIndex⟩, List.forall_mem_cons.mpr ⟨⟨⟨ya_InvalidText, yb_InvalidText, yc_InvalidText, yd_InvalidText, ca_InvalidText, cn_InvalidText, ct_InvalidText, cm_InvalidText⟩, no_x_InvalidText_UnknownIndex⟩, List.forall_mem_cons.mpr ⟨⟨⟨ya_InvalidWords, yb_InvalidWords, yc_InvalidWords, yd_InvalidWords, ca_InvalidWords, cn_InvalidWords, ct_InvalidWords, cm_InvalidWords⟩, no_x_InvalidWords_UnknownIndex⟩, List.forall_mem_cons.mpr ⟨⟨⟨ya_NotComparable, yb_NotComparable, yc_NotComparable, yd_NotComparable, ca_NotComparable, cn_NotComparable, ct_NotComparable, cm_NotComparable⟩, no_x_NotComparable_UnknownIndex⟩, List.forall_mem_cons.mpr ⟨⟨⟨ya_Possible, yb_Possible, yc_Possible, yd_Possible, ca_Possible, cn_Possible, ct_Possible, cm_Possible⟩, no_x_Possible_UnknownIndex⟩, List.forall_mem_cons.mpr ⟨⟨⟨ya_UnknownDeed, yb_UnknownDeed, yc_UnknownDeed, yd_UnknownDeed, ca_UnknownDeed, cn_UnknownDeed, ct_UnknownDeed, cm_UnknownDeed⟩, no_x_UnknownDeed_UnknownIndex⟩, List.forall_mem_cons.mpr ⟨⟨⟨ya_UnknownIndex, yb_UnknownIndex, yc_UnknownIndex, yd_UnknownIndex, ca_UnknownIndex, cn_UnknownIndex, ct_UnknownIndex, cm_UnknownIndex⟩, no_x_UnknownIndex_UnknownIndex⟩, List.forall_mem_cons.mpr ⟨⟨⟨ya_UnknownKind, yb_UnknownKind, yc_UnknownKind, yd_UnknownKind, ca_UnknownKind, cn_UnknownKind, ct_UnknownKind, cm_UnknownKind⟩, no_x_UnknownKind_UnknownIndex⟩, fun _ z => nomatch z⟩⟩⟩⟩⟩⟩⟩⟩⟩⟩⟩)
  w_UnknownKind__CopyError := xi_of (PySem.W.mg_of X G gc_UnknownKind) (List.forall_mem_cons.mpr ⟨⟨⟨ya_InvalidDeed, yb_InvalidDeed, yc_InvalidDeed, yd_InvalidDeed, ca_InvalidDeed, cn_InvalidDeed, ct_InvalidDeed, cm_InvalidDeed⟩, no_x_InvalidDeed_UnknownKind⟩, List.forall_mem_cons.mpr ⟨⟨⟨ya_InvalidMasters, yb_InvalidMasters, yc_InvalidMasters, yd_InvalidMasters, ca_InvalidMasters, cn_InvalidMasters, ct_InvalidMasters, cm_InvalidMasters⟩, no_x_InvalidMasters_UnknownKind⟩, List.forall_mem_cons.mpr ⟨⟨⟨ya_InvalidRule, yb_InvalidRule, yc_InvalidRule, yd_InvalidRule, ca_InvalidRule, cn_InvalidRule, ct_InvalidRule, cm_InvalidRule⟩, no_x_InvalidRule_UnknownKind⟩, List.forall_mem_cons.mpr ⟨⟨⟨ya_InvalidSize, yb_InvalidSize, yc_InvalidSize, yd_InvalidSize, ca_InvalidSize, cn_InvalidSize, ct_InvalidSize, cm_InvalidSize⟩, no_x_InvalidSize_UnknownKind⟩, List.forall_mem_cons.mpr ⟨⟨⟨ya_InvalidText, yb_InvalidText, yc_InvalidText, yd_InvalidText, ca_InvalidText, cn_InvalidText, ct_InvalidText, cm_InvalidText⟩, no_x_InvalidText_UnknownKind⟩, List.forall_mem_cons.mpr ⟨⟨⟨ya_InvalidWords, yb_InvalidWords, yc_InvalidWords, yd_InvalidWords, ca_InvalidWords, cn_InvalidWords, ct_InvalidWords, cm_InvalidWords⟩, no_x_InvalidWords_UnknownKind⟩, List.forall_mem_cons.mpr ⟨⟨⟨ya_NotComparable, yb_NotComparable, yc_NotComparable, yd_NotComparable, ca_NotComparable, cn_NotComparable, ct_NotComparable, cm_NotComparable⟩, no_x_NotComparable_UnknownKind⟩, List.forall_mem_cons.mpr ⟨⟨⟨ya_Possible, yb_Possible, yc_Possible, yd_Possible, ca_Possible, cn_Possible, ct_Possible, cm_Possible⟩, no_x_Possible_UnknownKind⟩, List.forall_mem_cons.mpr ⟨⟨⟨ya_UnknownDeed, yb_UnknownDeed, yc_UnknownDeed, yd_UnknownDeed, ca_UnknownDeed, cn_UnknownDeed, ct_UnknownDeed, cm_UnknownDeed⟩, no_x_UnknownDeed_UnknownKind⟩, List.forall_mem_cons.mpr ⟨⟨⟨ya_UnknownIndex, yb_UnknownIndex, yc_UnknownIndex, yd_UnknownIndex, ca_UnknownIndex, cn_UnknownIndex, ct_UnknownIndex, cm_UnknownIndex⟩, no_x_UnknownIndex_UnknownKind⟩, List.forall_mem_cons.mpr ⟨⟨⟨ya_UnknownKind, yb_UnknownKind, yc_UnknownKind, yd_UnknownKind, ca_UnknownKind, cn_UnknownKind, ct_UnknownKind, cm_UnknownKind⟩, no_x_UnknownKind_UnknownKind⟩, fun _ z => nomatch z⟩⟩⟩⟩⟩⟩⟩⟩⟩⟩⟩)
  x_CopyError := PySem.W.mg_of X G gc_CopyError
  y_InvalidDeed_index := ⟨⟨ya_InvalidDeed, yb_InvalidDeed, yc_InvalidDeed, yd_InvalidDeed⟩, yn_InvalidDeed_index⟩
  y_InvalidRule_point := ⟨⟨ya_InvalidRule, yb_InvalidRule, yc_InvalidRule, yd_InvalidRule⟩, yn_InvalidRule_point⟩
  y_InvalidText_line := ⟨⟨ya_InvalidText, yb_InvalidText, yc_InvalidText, yd_InvalidText⟩, yn_InvalidText_line⟩
  y_InvalidText_word := ⟨⟨ya_InvalidText, yb_InvalidText, yc_InvalidText, yd_InvalidText⟩, yn_InvalidText_word⟩
  y_Possible_history := ⟨⟨ya_Possible, yb_Possible, yc_Possible, yd_Possible⟩, yn_Possible_history⟩
  y_UnknownDeed_deed := ⟨⟨ya_UnknownDeed, yb_UnknownDeed, yc_UnknownDeed, yd_UnknownDeed⟩, yn_UnknownDeed_deed⟩
  y_UnknownIndex_index := ⟨⟨ya_UnknownIndex, yb_UnknownIndex, yc_UnknownIndex, yd_UnknownIndex⟩, yn_UnknownIndex_index⟩
  y_UnknownKind_index := ⟨⟨ya_UnknownKind, yb_UnknownKind, yc_UnknownKind, yd_UnknownKind⟩, yn_UnknownKind_index⟩
  z_all := PySem.W.mg_none_of X G hz_all
  z_int := PySem.W.mg_none_of X G hz_int
  z_isinstance := PySem.W.mg_none_of X G hz_isinstance
  z_len := PySem.W.mg_none_of X G hz_len
  z_list := PySem.W.mg_none_of X G hz_list
  z_max := PySem.W.mg_none_of X G hz_max
  z_range := PySem.W.mg_none_of X G hz_range
  D__law_mix := ⟨_, _, fun_mk (st := st__law_mix) l__law_mix c__law_mix k__law_mix, ((fun_mk (st := st__law_mix) l__law_mix c__law_mix k__law_mix).binds (ps := ["_law_script", "_law_seed"]) fun _ _ _ _ _ _ us hl => match us, hl with | [_, _], _ => rfl), PySem.W.mg_of X G a__law_mix, k__law_mix⟩
  D__law_next := ⟨_, _, fun_mk (st := st__law_next) l__law_next c__law_next k__law_next, ((fun_mk (st := st__law_next) l__law_next c__law_next k__law_next).binds (ps := ["_law_h", "_law_bound"]) fun _ _ _ _ _ _ us hl => match us, hl with | [_, _], _ => rfl), PySem.W.mg_of X G a__law_next, k__law_next⟩
  D__law_bare := ⟨_, _, fun_mk (st := st__law_bare) l__law_bare c__law_bare k__law_bare, ((fun_mk (st := st__law_bare) l__law_bare c__law_bare k__law_bare).binds (ps := ["_law_k"]) fun _ _ _ _ _ _ us hl => match us, hl with | [_], _ => rfl), PySem.W.mg_of X G a__law_bare, k__law_bare⟩
  D__law_thrown := ⟨_, _, fun_mk (st := st__law_thrown) l__law_thrown c__law_thrown k__law_thrown, ((fun_mk (st := st__law_thrown) l__law_thrown c__law_thrown k__law_thrown).binds (ps := ["_law_k", "_law_one", "_law_two"]) fun _ _ _ _ _ _ us hl => match us, hl with | [_, _, _], _ => rfl), PySem.W.mg_of X G a__law_thrown, k__law_thrown⟩
  D__law_classes := ⟨_, _, fun_mk (st := st__law_classes) l__law_classes c__law_classes k__law_classes, ((fun_mk (st := st__law_classes) l__law_classes c__law_classes k__law_classes).binds (ps := ["_law_e"]) fun _ _ _ _ _ _ us hl => match us, hl with | [_], _ => rfl), PySem.W.mg_of X G a__law_classes, k__law_classes⟩
  D__law_parts := ⟨_, _, fun_mk (st := st__law_parts) l__law_parts c__law_parts k__law_parts, ((fun_mk (st := st__law_parts) l__law_parts c__law_parts k__law_parts).binds (ps := ["_law_k", "_law_e"]) fun _ _ _ _ _ _ us hl => match us, hl with | [_, _], _ => rfl), PySem.W.mg_of X G a__law_parts, k__law_parts⟩
  D__law_right := ⟨_, _, fun_mk (st := st__law_right) l__law_right c__law_right k__law_right, ((fun_mk (st := st__law_right) l__law_right c__law_right k__law_right).binds (ps := ["_law_k", "_law_one", "_law_two"]) fun _ _ _ _ _ _ us hl => match us, hl with | [_, _, _], _ => rfl), PySem.W.mg_of X G a__law_right, k__law_right⟩
  D_law := ⟨_, _, fun_mk (st := st_law) l_law c_law k_law, ((fun_mk (st := st_law) l_law c_law k_law).binds (ps := ["_law_script"]) fun _ _ _ _ _ _ us hl => match us, hl with | [_], _ => rfl), PySem.W.mg_of X G a_law, k_law⟩
/-- where the classes stand -/
def adf (as a_CopyError a_InvalidDeed a_InvalidMasters a_InvalidRule a_InvalidSize a_InvalidText a_InvalidWords a_NotComparable a_Possible a_UnknownDeed a_UnknownIndex a_UnknownKind : Addr) : String → Addr := fun g => if g = "#s" then as else if g = "CopyError" then a_CopyError else if g = "InvalidDeed" then a_InvalidDeed else if g = "InvalidMasters" then a_InvalidMasters else if g = "InvalidRule" then a_InvalidRule else if g = "InvalidSize" then a_InvalidSize else if g = "InvalidText" then a_InvalidText else if g = "InvalidWords" then a_InvalidWords else if g = "NotComparable" then a_NotComparable else if g = "Possible" then a_Possible else if g = "UnknownDeed" then a_UnknownDeed else if g = "UnknownIndex" then a_UnknownIndex else if g = "UnknownKind" then a_UnknownKind else 0
def slf : String → Option (List Str) := fun g => none
theorem adf_CopyError {as a_CopyError a_InvalidDeed a_InvalidMasters a_InvalidRule a_InvalidSize a_InvalidText a_InvalidWords a_NotComparable a_Possible a_UnknownDeed a_UnknownIndex a_UnknownKind : Addr} : adf as a_CopyError a_InvalidDeed a_InvalidMasters a_InvalidRule a_InvalidSize a_InvalidText a_InvalidWords a_NotComparable a_Possible a_UnknownDeed a_UnknownIndex a_UnknownKind "CopyError" = a_CopyError := by
  unfold adf
  rw [if_neg (by decide), if_pos rfl]
theorem adf_InvalidDeed {as a_CopyError a_InvalidDeed a_InvalidMasters a_InvalidRule a_InvalidSize a_InvalidText a_InvalidWords a_NotComparable a_Possible a_UnknownDeed a_UnknownIndex a_UnknownKind : Addr} : adf as a_CopyError a_InvalidDeed a_InvalidMasters a_InvalidRule a_InvalidSize a_InvalidText a_InvalidWords a_NotComparable a_Possible a_UnknownDeed a_UnknownIndex a_UnknownKind "InvalidDeed" = a_InvalidDeed := by
  unfold adf
  rw [if_neg (by decide), if_neg (by decide), if_pos rfl]
theorem adf_InvalidMasters {as a_CopyError a_InvalidDeed a_InvalidMasters a_InvalidRule a_InvalidSize a_InvalidText a_InvalidWords a_NotComparable a_Possible a_UnknownDeed a_UnknownIndex a_UnknownKind : Addr} : adf as a_CopyError a_InvalidDeed a_InvalidMasters a_InvalidRule a_InvalidSize a_InvalidText a_InvalidWords a_NotComparable a_Possible a_UnknownDeed a_UnknownIndex a_UnknownKind "InvalidMasters" = a_InvalidMasters := by
  unfold adf
  rw [if_neg (by decide), if_neg (by decide), if_neg (by decide), if_pos rfl]
theorem adf_InvalidRule {as a_CopyError a_InvalidDeed a_InvalidMasters a_InvalidRule a_InvalidSize a_InvalidText a_InvalidWords a_NotComparable a_Possible a_UnknownDeed a_UnknownIndex a_UnknownKind : Addr} : adf as a_CopyError a_InvalidDeed a_InvalidMasters a_InvalidRule a_InvalidSize a_InvalidText a_InvalidWords a_NotComparable a_Possible a_UnknownDeed a_UnknownIndex a_UnknownKind "InvalidRule" = a_InvalidRule := by
  unfold adf
  rw [if_neg (by decide), if_neg (by decide), if_neg (by decide), if_neg (by decide), if_pos rfl]
theorem adf_InvalidSize {as a_CopyError a_InvalidDeed a_InvalidMasters a_InvalidRule a_InvalidSize a_InvalidText a_InvalidWords a_NotComparable a_Possible a_UnknownDeed a_UnknownIndex a_UnknownKind : Addr} : adf as a_CopyError a_InvalidDeed a_InvalidMasters a_InvalidRule a_InvalidSize a_InvalidText a_InvalidWords a_NotComparable a_Possible a_UnknownDeed a_UnknownIndex a_UnknownKind "InvalidSize" = a_InvalidSize := by
  unfold adf
  rw [if_neg (by decide), if_neg (by decide), if_neg (by decide), if_neg (by decide), if_neg (by decide), if_pos rfl]
theorem adf_InvalidText {as a_CopyError a_InvalidDeed a_InvalidMasters a_InvalidRule a_InvalidSize a_InvalidText a_InvalidWords a_NotComparable a_Possible a_UnknownDeed a_UnknownIndex a_UnknownKind : Addr} : adf as a_CopyError a_InvalidDeed a_InvalidMasters a_InvalidRule a_InvalidSize a_InvalidText a_InvalidWords a_NotComparable a_Possible a_UnknownDeed a_UnknownIndex a_UnknownKind "InvalidText" = a_InvalidText := by
  unfold adf
  rw [if_neg (by decide), if_neg (by decide), if_neg (by decide), if_neg (by decide), if_neg (by decide), if_neg (by decide), if_pos rfl]
theorem adf_InvalidWords {as a_CopyError a_InvalidDeed a_InvalidMasters a_InvalidRule a_InvalidSize a_InvalidText a_InvalidWords a_NotComparable a_Possible a_UnknownDeed a_UnknownIndex a_UnknownKind : Addr} : adf as a_CopyError a_InvalidDeed a_InvalidMasters a_InvalidRule a_InvalidSize a_InvalidText a_InvalidWords a_NotComparable a_Possible a_UnknownDeed a_UnknownIndex a_UnknownKind "InvalidWords" = a_InvalidWords := by
  unfold adf
  rw [if_neg (by decide), if_neg (by decide), if_neg (by decide), if_neg (by decide), if_neg (by decide), if_neg (by decide), if_neg (by decide), if_pos rfl]
theorem adf_NotComparable {as a_CopyError a_InvalidDeed a_InvalidMasters a_InvalidRule a_InvalidSize a_InvalidText a_InvalidWords a_NotComparable a_Possible a_UnknownDeed a_UnknownIndex a_UnknownKind : Addr} : adf as a_CopyError a_InvalidDeed a_InvalidMasters a_InvalidRule a_InvalidSize a_InvalidText a_InvalidWords a_NotComparable a_Possible a_UnknownDeed a_UnknownIndex a_UnknownKind "NotComparable" = a_NotComparable := by
  unfold adf
  rw [if_neg (by decide), if_neg (by decide), if_neg (by decide), if_neg (by decide), if_neg (by decide), if_neg (by decide), if_neg (by decide), if_neg (by decide), if_pos rfl]
theorem adf_Possible {as a_CopyError a_InvalidDeed a_InvalidMasters a_InvalidRule a_InvalidSize a_InvalidText a_InvalidWords a_NotComparable a_Possible a_UnknownDeed a_UnknownIndex a_UnknownKind : Addr} : adf as a_CopyError a_InvalidDeed a_InvalidMasters a_InvalidRule a_InvalidSize a_InvalidText a_InvalidWords a_NotComparable a_Possible a_UnknownDeed a_UnknownIndex a_UnknownKind "Possible" = a_Possible := by
  unfold adf
  rw [if_neg (by decide), if_neg (by decide), if_neg (by decide), if_neg (by decide), if_neg (by decide), if_neg (by decide), if_neg (by decide), if_neg (by decide), if_neg (by decide), if_pos rfl]
theorem adf_UnknownDeed {as a_CopyError a_InvalidDeed a_InvalidMasters a_InvalidRule a_InvalidSize a_InvalidText a_InvalidWords a_NotComparable a_Possible a_UnknownDeed a_UnknownIndex a_UnknownKind : Addr} : adf as a_CopyError a_InvalidDeed a_InvalidMasters a_InvalidRule a_InvalidSize a_InvalidText a_InvalidWords a_NotComparable a_Possible a_UnknownDeed a_UnknownIndex a_UnknownKind "UnknownDeed" = a_UnknownDeed := by
  unfold adf
  rw [if_neg (by decide), if_neg (by decide), if_neg (by decide), if_neg (by decide), if_neg (by decide), if_neg (by decide), if_neg (by decide), if_neg (by decide), if_neg (by decide), if_neg (by decide), if_pos rfl]
theorem adf_UnknownIndex {as a_CopyError a_InvalidDeed a_InvalidMasters a_InvalidRule a_InvalidSize a_InvalidText a_InvalidWords a_NotComparable a_Possible a_UnknownDeed a_UnknownIndex a_UnknownKind : Addr} : adf as a_CopyError a_InvalidDeed a_InvalidMasters a_InvalidRule a_InvalidSize a_InvalidText a_InvalidWords a_NotComparable a_Possible a_UnknownDeed a_UnknownIndex a_UnknownKind "UnknownIndex" = a_UnknownIndex := by
  unfold adf
  rw [if_neg (by decide), if_neg (by decide), if_neg (by decide), if_neg (by decide), if_neg (by decide), if_neg (by decide), if_neg (by decide), if_neg (by decide), if_neg (by decide), if_neg (by decide), if_neg (by decide), if_pos rfl]
theorem adf_UnknownKind {as a_CopyError a_InvalidDeed a_InvalidMasters a_InvalidRule a_InvalidSize a_InvalidText a_InvalidWords a_NotComparable a_Possible a_UnknownDeed a_UnknownIndex a_UnknownKind : Addr} : adf as a_CopyError a_InvalidDeed a_InvalidMasters a_InvalidRule a_InvalidSize a_InvalidText a_InvalidWords a_NotComparable a_Possible a_UnknownDeed a_UnknownIndex a_UnknownKind "UnknownKind" = a_UnknownKind := by
  unfold adf
  rw [if_neg (by decide), if_neg (by decide), if_neg (by decide), if_neg (by decide), if_neg (by decide), if_neg (by decide), if_neg (by decide), if_neg (by decide), if_neg (by decide), if_neg (by decide), if_neg (by decide), if_neg (by decide), if_pos rfl]
theorem adf_s {as a_CopyError a_InvalidDeed a_InvalidMasters a_InvalidRule a_InvalidSize a_InvalidText a_InvalidWords a_NotComparable a_Possible a_UnknownDeed a_UnknownIndex a_UnknownKind : Addr} : adf as a_CopyError a_InvalidDeed a_InvalidMasters a_InvalidRule a_InvalidSize a_InvalidText a_InvalidWords a_NotComparable a_Possible a_UnknownDeed a_UnknownIndex a_UnknownKind "#s" = as := by
  unfold adf
  rw [if_pos rfl]
theorem slf_CopyError : slf "CopyError" = none := by
  unfold slf
  simp
theorem slf_InvalidDeed : slf "InvalidDeed" = none := by
  unfold slf
  simp
theorem slf_InvalidMasters : slf "InvalidMasters" = none := by
  unfold slf
  simp
theorem slf_InvalidRule : slf "InvalidRule" = none := by
  unfold slf
  simp
theorem slf_InvalidSize : slf "InvalidSize" = none := by
  unfold slf
  simp
theorem slf_InvalidText : slf "InvalidText" = none := by
  unfold slf
  simp
theorem slf_InvalidWords : slf "InvalidWords" = none := by
  unfold slf
  simp
theorem slf_NotComparable : slf "NotComparable" = none := by
  unfold slf
  simp
theorem slf_Possible : slf "Possible" = none := by
  unfold slf
  simp
theorem slf_UnknownDeed : slf "UnknownDeed" = none := by
  unfold slf
  simp
theorem slf_UnknownIndex : slf "UnknownIndex" = none := by
  unfold slf
  simp
theorem slf_UnknownKind : slf "UnknownKind" = none := by
  unfold slf
  simp
theorem all_mk {P : Program} {w : World} {K : PySem.W.Frag} {h : PySem.Heap} {mg : Str → Option Value} {fa : Addr} (X : K.In h) (G : h.Ns mainGlobals mg) (hfa : mg "law" = some (.ref fa))
    {a_CopyError a_InvalidDeed a_InvalidMasters a_InvalidRule a_InvalidSize a_InvalidText a_InvalidWords a_NotComparable a_Possible a_UnknownDeed a_UnknownIndex a_UnknownKind : Addr}
    {nm_InvalidDeed qn_InvalidDeed : Str} {N_InvalidDeed : Addr} {bs_InvalidDeed : List Value} {sn_InvalidDeed : List Str} {sub_InvalidDeed : List Value} {ab_InvalidDeed : Bool} {col_InvalidDeed : Option Bool} {dd_InvalidDeed : Option Addr} {k0_InvalidDeed k1_InvalidDeed k2_InvalidDeed k3_InvalidDeed k5_InvalidDeed : Option Value}
    {w_InvalidDeed___init__ : Addr} {od_InvalidDeed___init__ an_InvalidDeed___init__ : Option Addr} {sl_InvalidDeed___init__ : Array (Option Value)} {oc_InvalidDeed___init__ kV_InvalidDeed___init__ dc_InvalidDeed___init__ pm_InvalidDeed___init__ cd_InvalidDeed___init__ ct_InvalidDeed___init__ : Value}
    {nm_InvalidRule qn_InvalidRule : Str} {N_InvalidRule : Addr} {bs_InvalidRule : List Value} {sn_InvalidRule : List Str} {sub_InvalidRule : List Value} {ab_InvalidRule : Bool} {col_InvalidRule : Option Bool} {dd_InvalidRule : Option Addr} {k0_InvalidRule k1_InvalidRule k2_InvalidRule k3_InvalidRule k5_InvalidRule : Option Value}
    {w_InvalidRule___init__ : Addr} {od_InvalidRule___init__ an_InvalidRule___init__ : Option Addr} {sl_InvalidRule___init__ : Array (Option Value)} {oc_InvalidRule___init__ kV_InvalidRule___init__ dc_InvalidRule___init__ pm_InvalidRule___init__ cd_InvalidRule___init__ ct_InvalidRule___init__ : Value}
    {nm_InvalidText qn_InvalidText : Str} {N_InvalidText : Addr} {bs_InvalidText : List Value} {sn_InvalidText : List Str} {sub_InvalidText : List Value} {ab_InvalidText : Bool} {col_InvalidText : Option Bool} {dd_InvalidText : Option Addr} {k0_InvalidText k1_InvalidText k2_InvalidText k3_InvalidText k5_InvalidText : Option Value}
    {w_InvalidText___init__ : Addr} {od_InvalidText___init__ an_InvalidText___init__ : Option Addr} {sl_InvalidText___init__ : Array (Option Value)} {oc_InvalidText___init__ kV_InvalidText___init__ dc_InvalidText___init__ pm_InvalidText___init__ cd_InvalidText___init__ ct_InvalidText___init__ : Value}
    {nm_Possible qn_Possible : Str} {N_Possible : Addr} {bs_Possible : List Value} {sn_Possible : List Str} {sub_Possible : List Value} {ab_Possible : Bool} {col_Possible : Option Bool} {dd_Possible : Option Addr} {k0_Possible k1_Possible k2_Possible k3_Possible k5_Possible : Option Value}
    {w_Possible___init__ : Addr} {od_Possible___init__ an_Possible___init__ : Option Addr} {sl_Possible___init__ : Array (Option Value)} {oc_Possible___init__ kV_Possible___init__ dc_Possible___init__ pm_Possible___init__ cd_Possible___init__ ct_Possible___init__ : Value}
    {nm_UnknownDeed qn_UnknownDeed : Str} {N_UnknownDeed : Addr} {bs_UnknownDeed : List Value} {sn_UnknownDeed : List Str} {sub_UnknownDeed : List Value} {ab_UnknownDeed : Bool} {col_UnknownDeed : Option Bool} {dd_UnknownDeed : Option Addr} {k0_UnknownDeed k1_UnknownDeed k2_UnknownDeed k3_UnknownDeed k5_UnknownDeed : Option Value}
    {w_UnknownDeed___init__ : Addr} {od_UnknownDeed___init__ an_UnknownDeed___init__ : Option Addr} {sl_UnknownDeed___init__ : Array (Option Value)} {oc_UnknownDeed___init__ kV_UnknownDeed___init__ dc_UnknownDeed___init__ pm_UnknownDeed___init__ cd_UnknownDeed___init__ ct_UnknownDeed___init__ : Value}
    {nm_UnknownIndex qn_UnknownIndex : Str} {N_UnknownIndex : Addr} {bs_UnknownIndex : List Value} {sn_UnknownIndex : List Str} {sub_UnknownIndex : List Value} {ab_UnknownIndex : Bool} {col_UnknownIndex : Option Bool} {dd_UnknownIndex : Option Addr} {k0_UnknownIndex k1_UnknownIndex k2_UnknownIndex k3_UnknownIndex k5_UnknownIndex : Option Value}
    {w_UnknownIndex___init__ : Addr} {od_UnknownIndex___init__ an_UnknownIndex___init__ : Option Addr} {sl_UnknownIndex___init__ : Array (Option Value)} {oc_UnknownIndex___init__ kV_UnknownIndex___init__ dc_UnknownIndex___init__ pm_UnknownIndex___init__ cd_UnknownIndex___init__ ct_UnknownIndex___init__ : Value}
    {nm_UnknownKind qn_UnknownKind : Str} {N_UnknownKind : Addr} {bs_UnknownKind : List Value} {sn_UnknownKind : List Str} {sub_UnknownKind : List Value} {ab_UnknownKind : Bool} {col_UnknownKind : Option Bool} {dd_UnknownKind : Option Addr} {k0_UnknownKind k1_UnknownKind k2_UnknownKind k3_UnknownKind k5_UnknownKind : Option Value}
    {w_UnknownKind___init__ : Addr} {od_UnknownKind___init__ an_UnknownKind___init__ : Option Addr} {sl_UnknownKind___init__ : Array (Option Value)} {oc_UnknownKind___init__ kV_UnknownKind___init__ dc_UnknownKind___init__ pm_UnknownKind___init__ cd_UnknownKind___init__ ct_UnknownKind___init__ : Value}
    {w__law_mix : Addr} {od__law_mix an__law_mix : Option Addr} {sl__law_mix : Array (Option Value)} {oc__law_mix kV__law_mix dc__law_mix pm__law_mix cd__law_mix ct__law_mix : Value}
    {w__law_next : Addr} {od__law_next an__law_next : Option Addr} {sl__law_next : Array (Option Value)} {oc__law_next kV__law_next dc__law_next pm__law_next cd__law_next ct__law_next : Value}
    {w__law_bare : Addr} {od__law_bare an__law_bare : Option Addr} {sl__law_bare : Array (Option Value)} {oc__law_bare kV__law_bare dc__law_bare pm__law_bare cd__law_bare ct__law_bare : Value}
    {w__law_thrown : Addr} {od__law_thrown an__law_thrown : Option Addr} {sl__law_thrown : Array (Option Value)} {oc__law_thrown kV__law_thrown dc__law_thrown pm__law_thrown cd__law_thrown ct__law_thrown : Value}
    {w__law_classes : Addr} {od__law_classes an__law_classes : Option Addr} {sl__law_classes : Array (Option Value)} {oc__law_classes kV__law_classes dc__law_classes pm__law_classes cd__law_classes ct__law_classes : Value}
    {w__law_parts : Addr} {od__law_parts an__law_parts : Option Addr} {sl__law_parts : Array (Option Value)} {oc__law_parts kV__law_parts dc__law_parts pm__law_parts cd__law_parts ct__law_parts : Value}
    {w__law_right : Addr} {od__law_right an__law_right : Option Addr} {sl__law_right : Array (Option Value)} {oc__law_right kV__law_right dc__law_right pm__law_right cd__law_right ct__law_right : Value}
    {w_law : Addr} {od_law an_law : Option Addr} {sl_law : Array (Option Value)} {oc_law kV_law dc_law pm_law cd_law ct_law : Value}
    (gc_CopyError : PySem.W.nsIn K mainGlobals "CopyError" = some (some (.ref a_CopyError)))
    (gc_InvalidDeed : PySem.W.nsIn K mainGlobals "InvalidDeed" = some (some (.ref a_InvalidDeed)))
    (gc_InvalidMasters : PySem.W.nsIn K mainGlobals "InvalidMasters" = some (some (.ref a_InvalidMasters)))
    (gc_InvalidRule : PySem.W.nsIn K mainGlobals "InvalidRule" = some (some (.ref a_InvalidRule)))
    (gc_InvalidSize : PySem.W.nsIn K mainGlobals "InvalidSize" = some (some (.ref a_InvalidSize)))
    (gc_InvalidText : PySem.W.nsIn K mainGlobals "InvalidText" = some (some (.ref a_InvalidText)))
    (gc_InvalidWords : PySem.W.nsIn K mainGlobals "InvalidWords" = some (some (.ref a_InvalidWords)))
    (gc_NotComparable : PySem.W.nsIn K mainGlobals "NotComparable" = some (some (.ref a_NotComparable)))
    (gc_Possible : PySem.W.nsIn K mainGlobals "Possible" = some (some (.ref a_Possible)))
    (gc_UnknownDeed : PySem.W.nsIn K mainGlobals "UnknownDeed" = some (some (.ref a_UnknownDeed)))
    (gc_UnknownIndex : PySem.W.nsIn K mainGlobals "UnknownIndex" = some (some (.ref a_UnknownIndex)))
    (gc_UnknownKind : PySem.W.nsIn K mainGlobals "UnknownKind" = some (some (.ref a_UnknownKind)))
    (ya_UnknownKind : PySem.W.findIn K (.ref a_UnknownKind) "__getattribute__" = some (some (.builtin "BaseException.__getattribute__")))
    (yb_UnknownKind : PySem.W.findIn K (.ref a_UnknownKind) "__getattr__" = some none)
    (yc_UnknownKind : PySem.W.subIn K (.ref a_UnknownKind) (.type "BaseException") = some true)
    (yd_UnknownKind : PySem.W.hasDictIn K a_UnknownKind = true)
    (ca_UnknownKind : PySem.W.findIn K (.ref a_UnknownKind) "__class__" = some (some (.builtin "object.__class__")))
    (cn_UnknownKind : PySem.W.specialIn K (.builtin "object.__class__") "__get__" = some (some (.builtin "getset_descriptor.__get__")))
    (ct_UnknownKind : PySem.W.takesIn K (.builtin "object.__class__") = some true)
    (cm_UnknownKind : PySem.W.mroIn K a_UnknownKind (.type "object") = some true)
    (no_x_UnknownKind_ValueError : PySem.W.kitOne K (.ref a_UnknownKind) (.type "ValueError") = some true)
    (ya_UnknownIndex : PySem.W.findIn K (.ref a_UnknownIndex) "__getattribute__" = some (some (.builtin "BaseException.__getattribute__")))
    (yb_UnknownIndex : PySem.W.findIn K (.ref a_UnknownIndex) "__getattr__" = some none)
    (yc_UnknownIndex : PySem.W.subIn K (.ref a_UnknownIndex) (.type "BaseException") = some true)
    (yd_UnknownIndex : PySem.W.hasDictIn K a_UnknownIndex = true)
    (ca_UnknownIndex : PySem.W.findIn K (.ref a_UnknownIndex) "__class__" = some (some (.builtin "object.__class__")))
    (cn_UnknownIndex : PySem.W.specialIn K (.builtin "object.__class__") "__get__" = some (some (.builtin "getset_descriptor.__get__")))
    (ct_UnknownIndex : PySem.W.takesIn K (.builtin "object.__class__") = some true)
    (cm_UnknownIndex : PySem.W.mroIn K a_UnknownIndex (.type "object") = some true)
    (no_x_UnknownIndex_ValueError : PySem.W.kitOne K (.ref a_UnknownIndex) (.type "ValueError") = some true)
    (ya_UnknownDeed : PySem.W.findIn K (.ref a_UnknownDeed) "__getattribute__" = some (some (.builtin "BaseException.__getattribute__")))
    (yb_UnknownDeed : PySem.W.findIn K (.ref a_UnknownDeed) "__getattr__" = some none)
    (yc_UnknownDeed : PySem.W.subIn K (.ref a_UnknownDeed) (.type "BaseException") = some true)
    (yd_UnknownDeed : PySem.W.hasDictIn K a_UnknownDeed = true)
    (ca_UnknownDeed : PySem.W.findIn K (.ref a_UnknownDeed) "__class__" = some (some (.builtin "object.__class__")))
    (cn_UnknownDeed : PySem.W.specialIn K (.builtin "object.__class__") "__get__" = some (some (.builtin "getset_descriptor.__get__")))
    (ct_UnknownDeed : PySem.W.takesIn K (.builtin "object.__class__") = some true)
    (cm_UnknownDeed : PySem.W.mroIn K a_UnknownDeed (.type "object") = some true)
    (no_x_UnknownDeed_ValueError : PySem.W.kitOne K (.ref a_UnknownDeed) (.type "ValueError") = some true)
    (ya_Possible : PySem.W.findIn K (.ref a_Possible) "__getattribute__" = some (some (.builtin "BaseException.__getattribute__")))
    (yb_Possible : PySem.W.findIn K (.ref a_Possible) "__getattr__" = some none)
    (yc_Possible : PySem.W.subIn K (.ref a_Possible) (.type "BaseException") = some true)
    (yd_Possible : PySem.W.hasDictIn K a_Possible = true)
    (ca_Possible : PySem.W.findIn K (.ref a_Possible) "__class__" = some (some (.builtin "object.__class__")))
    (cn_Possible : PySem.W.specialIn K (.builtin "object.__class__") "__get__" = some (some (.builtin "getset_descriptor.__get__")))
    (ct_Possible : PySem.W.takesIn K (.builtin "object.__class__") = some true)
    (cm_Possible : PySem.W.mroIn K a_Possible (.type "object") = some true)
    (no_x_Possible_ValueError : PySem.W.kitOne K (.ref a_Possible) (.type "ValueError") = some true)
    (ya_NotComparable : PySem.W.findIn K (.ref a_NotComparable) "__getattribute__" = some (some (.builtin "BaseException.__getattribute__")))
    (yb_NotComparable : PySem.W.findIn K (.ref a_NotComparable) "__getattr__" = some none)
    (yc_NotComparable : PySem.W.subIn K (.ref a_NotComparable) (.type "BaseException") = some true)
    (yd_NotComparable : PySem.W.hasDictIn K a_NotComparable = true)
    (ca_NotComparable : PySem.W.findIn K (.ref a_NotComparable) "__class__" = some (some (.builtin "object.__class__")))
    (cn_NotComparable : PySem.W.specialIn K (.builtin "object.__class__") "__get__" = some (some (.builtin "getset_descriptor.__get__")))
    (ct_NotComparable : PySem.W.takesIn K (.builtin "object.__class__") = some true)
    (cm_NotComparable : PySem.W.mroIn K a_NotComparable (.type "object") = some true)
    (no_x_NotComparable_ValueError : PySem.W.kitOne K (.ref a_NotComparable) (.type "ValueError") = some true)
    (ya_InvalidWords : PySem.W.findIn K (.ref a_InvalidWords) "__getattribute__" = some (some (.builtin "BaseException.__getattribute__")))
    (yb_InvalidWords : PySem.W.findIn K (.ref a_InvalidWords) "__getattr__" = some none)
    (yc_InvalidWords : PySem.W.subIn K (.ref a_InvalidWords) (.type "BaseException") = some true)
    (yd_InvalidWords : PySem.W.hasDictIn K a_InvalidWords = true)
    (ca_InvalidWords : PySem.W.findIn K (.ref a_InvalidWords) "__class__" = some (some (.builtin "object.__class__")))
    (cn_InvalidWords : PySem.W.specialIn K (.builtin "object.__class__") "__get__" = some (some (.builtin "getset_descriptor.__get__")))
    (ct_InvalidWords : PySem.W.takesIn K (.builtin "object.__class__") = some true)
    (cm_InvalidWords : PySem.W.mroIn K a_InvalidWords (.type "object") = some true)
    (no_x_InvalidWords_ValueError : PySem.W.kitOne K (.ref a_InvalidWords) (.type "ValueError") = some true)
    (ya_InvalidText : PySem.W.findIn K (.ref a_InvalidText) "__getattribute__" = some (some (.builtin "BaseException.__getattribute__")))
    (yb_InvalidText : PySem.W.findIn K (.ref a_InvalidText) "__getattr__" = some none)
    (yc_InvalidText : PySem.W.subIn K (.ref a_InvalidText) (.type "BaseException") = some true)
    (yd_InvalidText : PySem.W.hasDictIn K a_InvalidText = true)
    (ca_InvalidText : PySem.W.findIn K (.ref a_InvalidText) "__class__" = some (some (.builtin "object.__class__")))
    (cn_InvalidText : PySem.W.specialIn K (.builtin "object.__class__") "__get__" = some (some (.builtin "getset_descriptor.__get__")))
    (ct_InvalidText : PySem.W.takesIn K (.builtin "object.__class__") = some true)
    (cm_InvalidText : PySem.W.mroIn K a_InvalidText (.type "object") = some true)
    (no_x_InvalidText_ValueError : PySem.W.kitOne K (.ref a_InvalidText) (.type "ValueError") = some true)
    (ya_InvalidSize : PySem.W.findIn K (.ref a_InvalidSize) "__getattribute__" = some (some (.builtin "BaseException.__getattribute__")))
    (yb_InvalidSize : PySem.W.findIn K (.ref a_InvalidSize) "__getattr__" = some none)
    (yc_InvalidSize : PySem.W.subIn K (.ref a_InvalidSize) (.type "BaseException") = some true)
    (yd_InvalidSize : PySem.W.hasDictIn K a_InvalidSize = true)
    (ca_InvalidSize : PySem.W.findIn K (.ref a_InvalidSize) "__class__" = some (some (.builtin "object.__class__")))
    (cn_InvalidSize : PySem.W.specialIn K (.builtin "object.__class__") "__get__" = some (some (.builtin "getset_descriptor.__get__")))
    (ct_InvalidSize : PySem.W.takesIn K (.builtin "object.__class__") = some true)
    (cm_InvalidSize : PySem.W.mroIn K a_InvalidSize (.type "object") = some true)
    (no_x_InvalidSize_ValueError : PySem.W.kitOne K (.ref a_InvalidSize) (.type "ValueError") = some true)
    (ya_InvalidRule : PySem.W.findIn K (.ref a_InvalidRule) "__getattribute__" = some (some (.builtin "BaseException.__getattribute__")))
    (yb_InvalidRule : PySem.W.findIn K (.ref a_InvalidRule) "__getattr__" = some none)
    (yc_InvalidRule : PySem.W.subIn K (.ref a_InvalidRule) (.type "BaseException") = some true)
    (yd_InvalidRule : PySem.W.hasDictIn K a_InvalidRule = true)
    (ca_InvalidRule : PySem.W.findIn K (.ref a_InvalidRule) "__class__" = some (some (.builtin "object.__class__")))
    (cn_InvalidRule : PySem.W.specialIn K (.builtin "object.__class__") "__get__" = some (some (.builtin "getset_descriptor.__get__")))
    (ct_InvalidRule : PySem.W.takesIn K (.builtin "object.__class__") = some true)
    (cm_InvalidRule : PySem.W.mroIn K a_InvalidRule (.type "object") = some true)
    (no_x_InvalidRule_ValueError : PySem.W.kitOne K (.ref a_InvalidRule) (.type "ValueError") = some true)
    (ya_InvalidMasters : PySem.W.findIn K (.ref a_InvalidMasters) "__getattribute__" = some (some (.builtin "BaseException.__getattribute__")))
    (yb_InvalidMasters : PySem.W.findIn K (.ref a_InvalidMasters) "__getattr__" = some none)
    (yc_InvalidMasters : PySem.W.subIn K (.ref a_InvalidMasters) (.type "BaseException") = some true)
    (yd_InvalidMasters : PySem.W.hasDictIn K a_InvalidMasters = true)
    (ca_InvalidMasters : PySem.W.findIn K (.ref a_InvalidMasters) "__class__" = some (some (.builtin "object.__class__")))
    (cn_InvalidMasters : PySem.W.specialIn K (.builtin "object.__class__") "__get__" = some (some (.builtin "getset_descriptor.__get__")))
    (ct_InvalidMasters : PySem.W.takesIn K (.builtin "object.__class__") = some true)
    (cm_InvalidMasters : PySem.W.mroIn K a_InvalidMasters (.type "object") = some true)
    (no_x_InvalidMasters_ValueError : PySem.W.kitOne K (.ref a_InvalidMasters) (.type "ValueError") = some true)
    (ya_InvalidDeed : PySem.W.findIn K (.ref a_InvalidDeed) "__getattribute__" = some (some (.builtin "BaseException.__getattribute__")))
    (yb_InvalidDeed : PySem.W.findIn K (.ref a_InvalidDeed) "__getattr__" = some none)
    (yc_InvalidDeed : PySem.W.subIn K (.ref a_InvalidDeed) (.type "BaseException") = some true)
    (yd_InvalidDeed : PySem.W.hasDictIn K a_InvalidDeed = true)
    (ca_InvalidDeed : PySem.W.findIn K (.ref a_InvalidDeed) "__class__" = some (some (.builtin "object.__class__")))
    (cn_InvalidDeed : PySem.W.specialIn K (.builtin "object.__class__") "__get__" = some (some (.builtin "getset_descriptor.__get__")))
    (ct_InvalidDeed : PySem.W.takesIn K (.builtin "object.__class__") = some true)
    (cm_InvalidDeed : PySem.W.mroIn K a_InvalidDeed (.type "object") = some true)
    (no_x_InvalidDeed_ValueError : PySem.W.kitOne K (.ref a_InvalidDeed) (.type "ValueError") = some true)
    (zb_ValueError : PySem.W.nsIn K mainGlobals "ValueError" = some none)
    (xi_InvalidMasters : PySem.W.excIn K a_InvalidMasters [.type "ValueError", .type "Exception", .type "BaseException", .type "object"] "ValueError.__new__" = true)
    (ek_InvalidMasters : PySem.W.keepIn K (.ref a_InvalidMasters) = true)
    (eb_InvalidMasters : PySem.W.subIn K (.ref a_InvalidMasters) (.type "BaseException") = some true)
    (et_InvalidMasters : PySem.W.typeIn K (.ref a_InvalidMasters) = some (.type "type"))
    (xi_InvalidSize : PySem.W.excIn K a_InvalidSize [.type "ValueError", .type "Exception", .type "BaseException", .type "object"] "ValueError.__new__" = true)
    (ek_InvalidSize : PySem.W.keepIn K (.ref a_InvalidSize) = true)
    (eb_InvalidSize : PySem.W.subIn K (.ref a_InvalidSize) (.type "BaseException") = some true)
    (et_InvalidSize : PySem.W.typeIn K (.ref a_InvalidSize) = some (.type "type"))
    (xi_InvalidWords : PySem.W.excIn K a_InvalidWords [.type "ValueError", .type "Exception", .type "BaseException", .type "object"] "ValueError.__new__" = true)
    (ek_InvalidWords : PySem.W.keepIn K (.ref a_InvalidWords) = true)
    (eb_InvalidWords : PySem.W.subIn K (.ref a_InvalidWords) (.type "BaseException") = some true)
    (et_InvalidWords : PySem.W.typeIn K (.ref a_InvalidWords) = some (.type "type"))
    (xi_NotComparable : PySem.W.excIn K a_NotComparable [.type "ValueError", .type "Exception", .type "BaseException", .type "object"] "ValueError.__new__" = true)
    (ek_NotComparable : PySem.W.keepIn K (.ref a_NotComparable) = true)
    (eb_NotComparable : PySem.W.subIn K (.ref a_NotComparable) (.type "BaseException") = some true)
    (et_NotComparable : PySem.W.typeIn K (.ref a_NotComparable) = some (.type "type"))
    (m_InvalidDeed__CopyError : PySem.W.exmOne K (.ref a_InvalidDeed) (.ref a_CopyError) = some true)
    (m_InvalidMasters__CopyError : PySem.W.exmOne K (.ref a_InvalidMasters) (.ref a_CopyError) = some true)
    (m_InvalidRule__CopyError : PySem.W.exmOne K (.ref a_InvalidRule) (.ref a_CopyError) = some true)
    (m_InvalidSize__CopyError : PySem.W.exmOne K (.ref a_InvalidSize) (.ref a_CopyError) = some true)
    (m_InvalidText__CopyError : PySem.W.exmOne K (.ref a_InvalidText) (.ref a_CopyError) = some true)
    (m_InvalidWords__CopyError : PySem.W.exmOne K (.ref a_InvalidWords) (.ref a_CopyError) = some true)
    (m_NotComparable__CopyError : PySem.W.exmOne K (.ref a_NotComparable) (.ref a_CopyError) = some true)
    (m_Possible__CopyError : PySem.W.exmOne K (.ref a_Possible) (.ref a_CopyError) = some true)
    (m_UnknownDeed__CopyError : PySem.W.exmOne K (.ref a_UnknownDeed) (.ref a_CopyError) = some true)
    (m_UnknownIndex__CopyError : PySem.W.exmOne K (.ref a_UnknownIndex) (.ref a_CopyError) = some true)
    (m_UnknownKind__CopyError : PySem.W.exmOne K (.ref a_UnknownKind) (.ref a_CopyError) = some true)
    (xl_InvalidDeed : K.lookup a_InvalidDeed = some (PySem.excClassObj nm_InvalidDeed qn_InvalidDeed a_InvalidDeed N_InvalidDeed bs_InvalidDeed [.ref a_CopyError, .type "ValueError", .type "Exception", .type "BaseException", .type "object"] true sn_InvalidDeed sub_InvalidDeed ab_InvalidDeed col_InvalidDeed dd_InvalidDeed k0_InvalidDeed k1_InvalidDeed k2_InvalidDeed k3_InvalidDeed k5_InvalidDeed "ValueError.__new__"))
    (xs_InvalidDeed : PySem.W.findIn K (.ref a_InvalidDeed) "__setattr__" = some (some (.builtin "object.__setattr__")))
    (ek_InvalidDeed : PySem.W.keepIn K (.ref a_InvalidDeed) = true)
    (eb_InvalidDeed : PySem.W.subIn K (.ref a_InvalidDeed) (.type "BaseException") = some true)
    (et_InvalidDeed : PySem.W.typeIn K (.ref a_InvalidDeed) = some (.type "type"))
    (a_InvalidDeed___init__ : PySem.W.findIn K (.ref a_InvalidDeed) "__init__" = some (some (.ref w_InvalidDeed___init__)))
    (ty_InvalidDeed___init__ : PySem.W.typeIn K (.ref w_InvalidDeed___init__) = some (.type "function"))
    (l_InvalidDeed___init__ : K.lookup w_InvalidDeed___init__ = some ⟨oc_InvalidDeed___init__, od_InvalidDeed___init__, .func (PySem.W.fnOf "__init__" "InvalidDeed.__init__" (defArgs st_InvalidDeed___init__) (defBody st_InvalidDeed___init__) (defScope st_InvalidDeed___init__) .none kV_InvalidDeed___init__ dc_InvalidDeed___init__ pm_InvalidDeed___init__ an_InvalidDeed___init__ cd_InvalidDeed___init__ ct_InvalidDeed___init__), sl_InvalidDeed___init__⟩)
    (c_InvalidDeed___init__ : PySem.W.codeIn K cd_InvalidDeed___init__ "InvalidDeed.__init__" = true)
    (k_InvalidDeed___init__ : PySem.W.keepIn K (.ref w_InvalidDeed___init__) = true)
    (no_f_InvalidDeed_index : PySem.W.findIn K (.ref a_InvalidDeed) "index" = some none)
    (xl_InvalidRule : K.lookup a_InvalidRule = some (PySem.excClassObj nm_InvalidRule qn_InvalidRule a_InvalidRule N_InvalidRule bs_InvalidRule [.ref a_CopyError, .type "ValueError", .type "Exception", .type "BaseException", .type "object"] true sn_InvalidRule sub_InvalidRule ab_InvalidRule col_InvalidRule dd_InvalidRule k0_InvalidRule k1_InvalidRule k2_InvalidRule k3_InvalidRule k5_InvalidRule "ValueError.__new__"))
    (xs_InvalidRule : PySem.W.findIn K (.ref a_InvalidRule) "__setattr__" = some (some (.builtin "object.__setattr__")))
    (ek_InvalidRule : PySem.W.keepIn K (.ref a_InvalidRule) = true)
    (eb_InvalidRule : PySem.W.subIn K (.ref a_InvalidRule) (.type "BaseException") = some true)
    (et_InvalidRule : PySem.W.typeIn K (.ref a_InvalidRule) = some (.type "type"))
    (a_InvalidRule___init__ : PySem.W.findIn K (.ref a_InvalidRule) "__init__" = some (some (.ref w_InvalidRule___init__)))
    (ty_InvalidRule___init__ : PySem.W.typeIn K (.ref w_InvalidRule___init__) = some (.type "function"))
    (l_InvalidRule___init__ : K.lookup w_InvalidRule___init__ = some ⟨oc_InvalidRule___init__, od_InvalidRule___init__, .func (PySem.W.fnOf "__init__" "InvalidRule.__init__" (defArgs st_InvalidRule___init__) (defBody st_InvalidRule___init__) (defScope st_InvalidRule___init__) .none kV_InvalidRule___init__ dc_InvalidRule___init__ pm_InvalidRule___init__ an_InvalidRule___init__ cd_InvalidRule___init__ ct_InvalidRule___init__), sl_InvalidRule___init__⟩)
    (c_InvalidRule___init__ : PySem.W.codeIn K cd_InvalidRule___init__ "InvalidRule.__init__" = true)
    (k_InvalidRule___init__ : PySem.W.keepIn K (.ref w_InvalidRule___init__) = true)
    (no_f_InvalidRule_point : PySem.W.findIn K (.ref a_InvalidRule) "point" = some none)
    (xl_InvalidText : K.lookup a_InvalidText = some (PySem.excClassObj nm_InvalidText qn_InvalidText a_InvalidText N_InvalidText bs_InvalidText [.ref a_CopyError, .type "ValueError", .type "Exception", .type "BaseException", .type "object"] true sn_InvalidText sub_InvalidText ab_InvalidText col_InvalidText dd_InvalidText k0_InvalidText k1_InvalidText k2_InvalidText k3_InvalidText k5_InvalidText "ValueError.__new__"))
    (xs_InvalidText : PySem.W.findIn K (.ref a_InvalidText) "__setattr__" = some (some (.builtin "object.__setattr__")))
    (ek_InvalidText : PySem.W.keepIn K (.ref a_InvalidText) = true)
    (eb_InvalidText : PySem.W.subIn K (.ref a_InvalidText) (.type "BaseException") = some true)
    (et_InvalidText : PySem.W.typeIn K (.ref a_InvalidText) = some (.type "type"))
    (a_InvalidText___init__ : PySem.W.findIn K (.ref a_InvalidText) "__init__" = some (some (.ref w_InvalidText___init__)))
    (ty_InvalidText___init__ : PySem.W.typeIn K (.ref w_InvalidText___init__) = some (.type "function"))
    (l_InvalidText___init__ : K.lookup w_InvalidText___init__ = some ⟨oc_InvalidText___init__, od_InvalidText___init__, .func (PySem.W.fnOf "__init__" "InvalidText.__init__" (defArgs st_InvalidText___init__) (defBody st_InvalidText___init__) (defScope st_InvalidText___init__) .none kV_InvalidText___init__ dc_InvalidText___init__ pm_InvalidText___init__ an_InvalidText___init__ cd_InvalidText___init__ ct_InvalidText___init__), sl_InvalidText___init__⟩)
    (c_InvalidText___init__ : PySem.W.codeIn K cd_InvalidText___init__ "InvalidText.__init__" = true)
    (k_InvalidText___init__ : PySem.W.keepIn K (.ref w_InvalidText___init__) = true)
    (no_f_InvalidText_line : PySem.W.findIn K (.ref a_InvalidText) "line" = some none)
    (no_f_InvalidText_word : PySem.W.findIn K (.ref a_InvalidText) "word" = some none)
    (xl_Possible : K.lookup a_Possible = some (PySem.excClassObj nm_Possible qn_Possible a_Possible N_Possible bs_Possible [.ref a_CopyError, .type "ValueError", .type "Exception", .type "BaseException", .type "object"] true sn_Possible sub_Possible ab_Possible col_Possible dd_Possible k0_Possible k1_Possible k2_Possible k3_Possible k5_Possible "ValueError.__new__"))
    (xs_Possible : PySem.W.findIn K (.ref a_Possible) "__setattr__" = some (some (.builtin "object.__setattr__")))
    (ek_Possible : PySem.W.keepIn K (.ref a_Possible) = true)
    (eb_Possible : PySem.W.subIn K (.ref a_Possible) (.type "BaseException") = some true)
    (et_Possible : PySem.W.typeIn K (.ref a_Possible) = some (.type "type"))
    (a_Possible___init__ : PySem.W.findIn K (.ref a_Possible) "__init__" = some (some (.ref w_Possible___init__)))
    (ty_Possible___init__ : PySem.W.typeIn K (.ref w_Possible___init__) = some (.type "function"))
    (l_Possible___init__ : K.lookup w_Possible___init__ = some ⟨oc_Possible___init__, od_Possible___init__, .func (PySem.W.fnOf "__init__" "Possible.__init__" (defArgs st_Possible___init__) (defBody st_Possible___init__) (defScope st_Possible___init__) .none kV_Possible___init__ dc_Possible___init__ pm_Possible___init__ an_Possible___init__ cd_Possible___init__ ct_Possible___init__), sl_Possible___init__⟩)
    (c_Possible___init__ : PySem.W.codeIn K cd_Possible___init__ "Possible.__init__" = true)
    (k_Possible___init__ : PySem.W.keepIn K (.ref w_Possible___init__) = true)
    (no_f_Possible_history : PySem.W.findIn K (.ref a_Possible) "history" = some none)
    (xl_UnknownDeed : K.lookup a_UnknownDeed = some (PySem.excClassObj nm_UnknownDeed qn_UnknownDeed a_UnknownDeed N_UnknownDeed bs_UnknownDeed [.ref a_CopyError, .type "ValueError", .type "Exception", .type "BaseException", .type "object"] true sn_UnknownDeed sub_UnknownDeed ab_UnknownDeed col_UnknownDeed dd_UnknownDeed k0_UnknownDeed k1_UnknownDeed k2_UnknownDeed k3_UnknownDeed k5_UnknownDeed "ValueError.__new__"))
    (xs_UnknownDeed : PySem.W.findIn K (.ref a_UnknownDeed) "__setattr__" = some (some (.builtin "object.__setattr__")))
    (ek_UnknownDeed : PySem.W.keepIn K (.ref a_UnknownDeed) = true)
    (eb_UnknownDeed : PySem.W.subIn K (.ref a_UnknownDeed) (.type "BaseException") = some true)
    (et_UnknownDeed : PySem.W.typeIn K (.ref a_UnknownDeed) = some (.type "type"))
    (a_UnknownDeed___init__ : PySem.W.findIn K (.ref a_UnknownDeed) "__init__" = some (some (.ref w_UnknownDeed___init__)))
    (ty_UnknownDeed___init__ : PySem.W.typeIn K (.ref w_UnknownDeed___init__) = some (.type "function"))
    (l_UnknownDeed___init__ : K.lookup w_UnknownDeed___init__ = some ⟨oc_UnknownDeed___init__, od_UnknownDeed___init__, .func (PySem.W.fnOf "__init__" "UnknownDeed.__init__" (defArgs st_UnknownDeed___init__) (defBody st_UnknownDeed___init__) (defScope st_UnknownDeed___init__) .none kV_UnknownDeed___init__ dc_UnknownDeed___init__ pm_UnknownDeed___init__ an_UnknownDeed___init__ cd_UnknownDeed___init__ ct_UnknownDeed___init__), sl_UnknownDeed___init__⟩)
    (c_UnknownDeed___init__ : PySem.W.codeIn K cd_UnknownDeed___init__ "UnknownDeed.__init__" = true)
    (k_UnknownDeed___init__ : PySem.W.keepIn K (.ref w_UnknownDeed___init__) = true)
    (no_f_UnknownDeed_deed : PySem.W.findIn K (.ref a_UnknownDeed) "deed" = some none)
    (xl_UnknownIndex : K.lookup a_UnknownIndex = some (PySem.excClassObj nm_UnknownIndex qn_UnknownIndex a_UnknownIndex N_UnknownIndex bs_UnknownIndex [.ref a_CopyError, .type "ValueError", .type "Exception", .type "BaseException", .type "object"] true sn_UnknownIndex sub_UnknownIndex ab_UnknownIndex col_UnknownIndex dd_UnknownIndex k0_UnknownIndex k1_UnknownIndex k2_UnknownIndex k3_UnknownIndex k5_UnknownIndex "ValueError.__new__"))
    (xs_UnknownIndex : PySem.W.findIn K (.ref a_UnknownIndex) "__setattr__" = some (some (.builtin "object.__setattr__")))
    (ek_UnknownIndex : PySem.W.keepIn K (.ref a_UnknownIndex) = true)
    (eb_UnknownIndex : PySem.W.subIn K (.ref a_UnknownIndex) (.type "BaseException") = some true)
    (et_UnknownIndex : PySem.W.typeIn K (.ref a_UnknownIndex) = some (.type "type"))
    (a_UnknownIndex___init__ : PySem.W.findIn K (.ref a_UnknownIndex) "__init__" = some (some (.ref w_UnknownIndex___init__)))
    (ty_UnknownIndex___init__ : PySem.W.typeIn K (.ref w_UnknownIndex___init__) = some (.type "function"))
    (l_UnknownIndex___init__ : K.lookup w_UnknownIndex___init__ = some ⟨oc_UnknownIndex___init__, od_UnknownIndex___init__, .func (PySem.W.fnOf "__init__" "UnknownIndex.__init__" (defArgs st_UnknownIndex___init__) (defBody st_UnknownIndex___init__) (defScope st_UnknownIndex___init__) .none kV_UnknownIndex___init__ dc_UnknownIndex___init__ pm_UnknownIndex___init__ an_UnknownIndex___init__ cd_UnknownIndex___init__ ct_UnknownIndex___init__), sl_UnknownIndex___init__⟩)
    (c_UnknownIndex___init__ : PySem.W.codeIn K cd_UnknownIndex___init__ "UnknownIndex.__init__" = true)
    (k_UnknownIndex___init__ : PySem.W.keepIn K (.ref w_UnknownIndex___init__) = true)
    (no_f_UnknownIndex_index : PySem.W.findIn K (.ref a_UnknownIndex) "index" = some none)
    (xl_UnknownKind : K.lookup a_UnknownKind = some (PySem.excClassObj nm_UnknownKind qn_UnknownKind a_UnknownKind N_UnknownKind bs_UnknownKind [.ref a_CopyError, .type "ValueError", .type "Exception", .type "BaseException", .type "object"] true sn_UnknownKind sub_UnknownKind ab_UnknownKind col_UnknownKind dd_UnknownKind k0_UnknownKind k1_UnknownKind k2_UnknownKind k3_UnknownKind k5_UnknownKind "ValueError.__new__"))
    (xs_UnknownKind : PySem.W.findIn K (.ref a_UnknownKind) "__setattr__" = some (some (.builtin "object.__setattr__")))
    (ek_UnknownKind : PySem.W.keepIn K (.ref a_UnknownKind) = true)
    (eb_UnknownKind : PySem.W.subIn K (.ref a_UnknownKind) (.type "BaseException") = some true)
    (et_UnknownKind : PySem.W.typeIn K (.ref a_UnknownKind) = some (.type "type"))
    (a_UnknownKind___init__ : PySem.W.findIn K (.ref a_UnknownKind) "__init__" = some (some (.ref w_UnknownKind___init__)))
    (ty_UnknownKind___init__ : PySem.W.typeIn K (.ref w_UnknownKind___init__) = some (.type "function"))
    (l_UnknownKind___init__ : K.lookup w_UnknownKind___init__ = some ⟨oc_UnknownKind___init__, od_UnknownKind___init__, .func (PySem.W.fnOf "__init__" "UnknownKind.__init__" (defArgs st_UnknownKind___init__) (defBody st_UnknownKind___init__) (defScope st_UnknownKind___init__) .none kV_UnknownKind___init__ dc_UnknownKind___init__ pm_UnknownKind___init__ an_UnknownKind___init__ cd_UnknownKind___init__ ct_UnknownKind___init__), sl_UnknownKind___init__⟩)
    (c_UnknownKind___init__ : PySem.W.codeIn K cd_UnknownKind___init__ "UnknownKind.__init__" = true)
    (k_UnknownKind___init__ : PySem.W.keepIn K (.ref w_UnknownKind___init__) = true)
    (no_f_UnknownKind_index : PySem.W.findIn K (.ref a_UnknownKind) "index" = some none)
    (no_x_UnknownKind_InvalidDeed : PySem.W.kitOne K (.ref a_UnknownKind) (.ref a_InvalidDeed) = some false)
    (no_x_UnknownIndex_InvalidDeed : PySem.W.kitOne K (.ref a_UnknownIndex) (.ref a_InvalidDeed) = some false)
    (no_x_UnknownDeed_InvalidDeed : PySem.W.kitOne K (.ref a_UnknownDeed) (.ref a_InvalidDeed) = some false)
    (no_x_Possible_InvalidDeed : PySem.W.kitOne K (.ref a_Possible) (.ref a_InvalidDeed) = some false)
    (no_x_NotComparable_InvalidDeed : PySem.W.kitOne K (.ref a_NotComparable) (.ref a_InvalidDeed) = some false)
    (no_x_InvalidWords_InvalidDeed : PySem.W.kitOne K (.ref a_InvalidWords) (.ref a_InvalidDeed) = some false)
    (no_x_InvalidText_InvalidDeed : PySem.W.kitOne K (.ref a_InvalidText) (.ref a_InvalidDeed) = some false)
    (no_x_InvalidSize_InvalidDeed : PySem.W.kitOne K (.ref a_InvalidSize) (.ref a_InvalidDeed) = some false)
    (no_x_InvalidRule_InvalidDeed : PySem.W.kitOne K (.ref a_InvalidRule) (.ref a_InvalidDeed) = some false)
    (no_x_InvalidMasters_InvalidDeed : PySem.W.kitOne K (.ref a_InvalidMasters) (.ref a_InvalidDeed) = some false)
    (no_x_InvalidDeed_InvalidDeed : PySem.W.kitOne K (.ref a_InvalidDeed) (.ref a_InvalidDeed) = some true)
    (no_x_UnknownKind_InvalidMasters : PySem.W.kitOne K (.ref a_UnknownKind) (.ref a_InvalidMasters) = some false)
    (no_x_UnknownIndex_InvalidMasters : PySem.W.kitOne K (.ref a_UnknownIndex) (.ref a_InvalidMasters) = some false)
    (no_x_UnknownDeed_InvalidMasters : PySem.W.kitOne K (.ref a_UnknownDeed) (.ref a_InvalidMasters) = some false)
    (no_x_Possible_InvalidMasters : PySem.W.kitOne K (.ref a_Possible) (.ref a_InvalidMasters) = some false)
    (no_x_NotComparable_InvalidMasters : PySem.W.kitOne K (.ref a_NotComparable) (.ref a_InvalidMasters) = some false)
    (no_x_InvalidWords_InvalidMasters : PySem.W.kitOne K (.ref a_InvalidWords) (.ref a_InvalidMasters) = some false)
    (no_x_InvalidText_InvalidMasters : PySem.W.kitOne K (.ref a_InvalidText) (.ref a_InvalidMasters) = some false)
    (no_x_InvalidSize_InvalidMasters : PySem.W.kitOne K (.ref a_InvalidSize) (.ref a_InvalidMasters) = some false)
    (no_x_InvalidRule_InvalidMasters : PySem.W.kitOne K (.ref a_InvalidRule) (.ref a_InvalidMasters) = some false)
    (no_x_InvalidMasters_InvalidMasters : PySem.W.kitOne K (.ref a_InvalidMasters) (.ref a_InvalidMasters) = some true)
    (no_x_InvalidDeed_InvalidMasters : PySem.W.kitOne K (.ref a_InvalidDeed) (.ref a_InvalidMasters) = some false)
    (no_x_UnknownKind_InvalidRule : PySem.W.kitOne K (.ref a_UnknownKind) (.ref a_InvalidRule) = some false)
    (no_x_UnknownIndex_InvalidRule : PySem.W.kitOne K (.ref a_UnknownIndex) (.ref a_InvalidRule) = some false)
    (no_x_UnknownDeed_InvalidRule : PySem.W.kitOne K (.ref a_UnknownDeed) (.ref a_InvalidRule) = some false)
    (no_x_Possible_InvalidRule : PySem.W.kitOne K (.ref a_Possible) (.ref a_InvalidRule) = some false)
    (no_x_NotComparable_InvalidRule : PySem.W.kitOne K (.ref a_NotComparable) (.ref a_InvalidRule) = some false)
    (no_x_InvalidWords_InvalidRule : PySem.W.kitOne K (.ref a_InvalidWords) (.ref a_InvalidRule) = some false)
    (no_x_InvalidText_InvalidRule : PySem.W.kitOne K (.ref a_InvalidText) (.ref a_InvalidRule) = some false)
    (no_x_InvalidSize_InvalidRule : PySem.W.kitOne K (.ref a_InvalidSize) (.ref a_InvalidRule) = some false)
    (no_x_InvalidRule_InvalidRule : PySem.W.kitOne K (.ref a_InvalidRule) (.ref a_InvalidRule) = some true)
    (no_x_InvalidMasters_InvalidRule : PySem.W.kitOne K (.ref a_InvalidMasters) (.ref a_InvalidRule) = some false)
    (no_x_InvalidDeed_InvalidRule : PySem.W.kitOne K (.ref a_InvalidDeed) (.ref a_InvalidRule) = some false)
    (no_x_UnknownKind_InvalidSize : PySem.W.kitOne K (.ref a_UnknownKind) (.ref a_InvalidSize) = some false)
    (no_x_UnknownIndex_InvalidSize : PySem.W.kitOne K (.ref a_UnknownIndex) (.ref a_InvalidSize) = some false)
    (no_x_UnknownDeed_InvalidSize : PySem.W.kitOne K (.ref a_UnknownDeed) (.ref a_InvalidSize) = some false)
    (no_x_Possible_InvalidSize : PySem.W.kitOne K (.ref a_Possible) (.ref a_InvalidSize) = some false)
    (no_x_NotComparable_InvalidSize : PySem.W.kitOne K (.ref a_NotComparable) (.ref a_InvalidSize) = some false)
    (no_x_InvalidWords_InvalidSize : PySem.W.kitOne K (.ref a_InvalidWords) (.ref a_InvalidSize) = some false)
    (no_x_InvalidText_InvalidSize : PySem.W.kitOne K (.ref a_InvalidText) (.ref a_InvalidSize) = some false)
    (no_x_InvalidSize_InvalidSize : PySem.W.kitOne K (.ref a_InvalidSize) (.ref a_InvalidSize) = some true)
    (no_x_InvalidRule_InvalidSize : PySem.W.kitOne K (.ref a_InvalidRule) (.ref a_InvalidSize) = some false)
    (no_x_InvalidMasters_InvalidSize : PySem.W.kitOne K (.ref a_InvalidMasters) (.ref a_InvalidSize) = some false)
    (no_x_InvalidDeed_InvalidSize : PySem.W.kitOne K (.ref a_InvalidDeed) (.ref a_InvalidSize) = some false)
    (no_x_UnknownKind_InvalidText : PySem.W.kitOne K (.ref a_UnknownKind) (.ref a_InvalidText) = some false)
    (no_x_UnknownIndex_InvalidText : PySem.W.kitOne K (.ref a_UnknownIndex) (.ref a_InvalidText) = some false)
    (no_x_UnknownDeed_InvalidText : PySem.W.kitOne K (.ref a_UnknownDeed) (.ref a_InvalidText) = some false)
    (no_x_Possible_InvalidText : PySem.W.kitOne K (.ref a_Possible) (.ref a_InvalidText) = some false)
    (no_x_NotComparable_InvalidText : PySem.W.kitOne K (.ref a_NotComparable) (.ref a_InvalidText) = some false)
    (no_x_InvalidWords_InvalidText : PySem.W.kitOne K (.ref a_InvalidWords) (.ref a_InvalidText) = some false)
    (no_x_InvalidText_InvalidText : PySem.W.kitOne K (.ref a_InvalidText) (.ref a_InvalidText) = some true)
    (no_x_InvalidSize_InvalidText : PySem.W.kitOne K (.ref a_InvalidSize) (.ref a_InvalidText) = some false)
    (no_x_InvalidRule_InvalidText : PySem.W.kitOne K (.ref a_InvalidRule) (.ref a_InvalidText) = some false)
    (no_x_InvalidMasters_InvalidText : PySem.W.kitOne K (.ref a_InvalidMasters) (.ref a_InvalidText) = some false)
    (no_x_InvalidDeed_InvalidText : PySem.W.kitOne K (.ref a_InvalidDeed) (.ref a_InvalidText) = some false)
    (no_x_UnknownKind_InvalidWords : PySem.W.kitOne K (.ref a_UnknownKind) (.ref a_InvalidWords) = some false)
    (no_x_UnknownIndex_InvalidWords : PySem.W.kitOne K (.ref a_UnknownIndex) (.ref a_InvalidWords) = some false)
    (no_x_UnknownDeed_InvalidWords : PySem.W.kitOne K (.ref a_UnknownDeed) (.ref a_InvalidWords) = some false)
    (no_x_Possible_InvalidWords : PySem.W.kitOne K (.ref a_Possible) (.ref a_InvalidWords) = some false)
    (no_x_NotComparable_InvalidWords : PySem.W.kitOne K (.ref a_NotComparable) (.ref a_InvalidWords) = some false)
    (no_x_InvalidWords_InvalidWords : PySem.W.kitOne K (.ref a_InvalidWords) (.ref a_InvalidWords) = some true)
    (no_x_InvalidText_InvalidWords : PySem.W.kitOne K (.ref a_InvalidText) (.ref a_InvalidWords) = some false)
    (no_x_InvalidSize_InvalidWords : PySem.W.kitOne K (.ref a_InvalidSize) (.ref a_InvalidWords) = some false)
    (no_x_InvalidRule_InvalidWords : PySem.W.kitOne K (.ref a_InvalidRule) (.ref a_InvalidWords) = some false)
    (no_x_InvalidMasters_InvalidWords : PySem.W.kitOne K (.ref a_InvalidMasters) (.ref a_InvalidWords) = some false)
    (no_x_InvalidDeed_InvalidWords : PySem.W.kitOne K (.ref a_InvalidDeed) (.ref a_InvalidWords) = some false)
    (no_x_UnknownKind_NotComparable : PySem.W.kitOne K (.ref a_UnknownKind) (.ref a_NotComparable) = some false)
    (no_x_UnknownIndex_NotComparable : PySem.W.kitOne K (.ref a_UnknownIndex) (.ref a_NotComparable) = some false)
    (no_x_UnknownDeed_NotComparable : PySem.W.kitOne K (.ref a_UnknownDeed) (.ref a_NotComparable) = some false)
    (no_x_Possible_NotComparable : PySem.W.kitOne K (.ref a_Possible) (.ref a_NotComparable) = some false)
    (no_x_NotComparable_NotComparable : PySem.W.kitOne K (.ref a_NotComparable) (.ref a_NotComparable) = some true)
    (no_x_InvalidWords_NotComparable : PySem.W.kitOne K (.ref a_InvalidWords) (.ref a_NotComparable) = some false)
    (no_x_InvalidText_NotComparable : PySem.W.kitOne K (.ref a_InvalidText) (.ref a_NotComparable) = some false)
    (no_x_InvalidSize_NotComparable : PySem.W.kitOne K (.ref a_InvalidSize) (.ref a_NotComparable) = some false)
    (no_x_InvalidRule_NotComparable : PySem.W.kitOne K (.ref a_InvalidRule) (.ref a_NotComparable) = some false)
    (no_x_InvalidMasters_NotComparable : PySem.W.kitOne K (.ref a_InvalidMasters) (.ref a_NotComparable) = some false)
    (no_x_InvalidDeed_NotComparable : PySem.W.kitOne K (.ref a_InvalidDeed) (.ref a_NotComparable) = some false)
    (no_x_UnknownKind_Possible : PySem.W.kitOne K (.ref a_UnknownKind) (.ref a_Possible) = some false)
    (no_x_UnknownIndex_Possible : PySem.W.kitOne K (.ref a_UnknownIndex) (.ref a_Possible) = some false)
    (no_x_UnknownDeed_Possible : PySem.W.kitOne K (.ref a_UnknownDeed) (.ref a_Possible) = some false)
    (no_x_Possible_Possible : PySem.W.kitOne K (.ref a_Possible) (.ref a_Possible) = some true)
    (no_x_NotComparable_Possible : PySem.W.kitOne K (.ref a_NotComparable) (.ref a_Possible) = some false)
    (no_x_InvalidWords_Possible : PySem.W.kitOne K (.ref a_InvalidWords) (.ref a_Possible) = some false)
    (no_x_InvalidText_Possible : PySem.W.kitOne K (.ref a_InvalidText) (.ref a_Possible) = some false)
    (no_x_InvalidSize_Possible : PySem.W.kitOne K (.ref a_InvalidSize) (.ref a_Possible) = some false)
    (no_x_InvalidRule_Possible : PySem.W.kitOne K (.ref a_InvalidRule) (.ref a_Possible) = some false)
    (no_x_InvalidMasters_Possible : PySem.W.kitOne K (.ref a_InvalidMasters) (.ref a_Possible) = some false)
    (no_x_InvalidDeed_Possible : PySem.W.kitOne K (.ref a_InvalidDeed) (.ref a_Possible) = some false)
    (no_x_UnknownKind_UnknownDeed : PySem.W.kitOne K (.ref a_UnknownKind) (.ref a_UnknownDeed) = some false)
    (no_x_UnknownIndex_UnknownDeed : PySem.W.kitOne K (.ref a_UnknownIndex) (.ref a_UnknownDeed) = some false)
    (no_x_UnknownDeed_UnknownDeed : PySem.W.kitOne K (.ref a_UnknownDeed) (.ref a_UnknownDeed) = some true)
    (no_x_Possible_UnknownDeed : PySem.W.kitOne K (.ref a_Possible) (.ref a_UnknownDeed) = some false)
    (no_x_NotComparable_UnknownDeed : PySem.W.kitOne K (.ref a_NotComparable) (.ref a_UnknownDeed) = some false)
    (no_x_InvalidWords_UnknownDeed : PySem.W.kitOne K (.ref a_InvalidWords) (.ref a_UnknownDeed) = some false)
    (no_x_InvalidText_UnknownDeed : PySem.W.kitOne K (.ref a_InvalidText) (.ref a_UnknownDeed) = some false)
    (no_x_InvalidSize_UnknownDeed : PySem.W.kitOne K (.ref a_InvalidSize) (.ref a_UnknownDeed) = some false)
    (no_x_InvalidRule_UnknownDeed : PySem.W.kitOne K (.ref a_InvalidRule) (.ref a_UnknownDeed) = some false)
    (no_x_InvalidMasters_UnknownDeed : PySem.W.kitOne K (.ref a_InvalidMasters) (.ref a_UnknownDeed) = some false)
    (no_x_InvalidDeed_UnknownDeed : PySem.W.kitOne K (.ref a_InvalidDeed) (.ref a_UnknownDeed) = some false)
    (no_x_UnknownKind_UnknownIndex : PySem.W.kitOne K (.ref a_UnknownKind) (.ref a_UnknownIndex) = some false)
    (no_x_UnknownIndex_UnknownIndex : PySem.W.kitOne K (.ref a_UnknownIndex) (.ref a_UnknownIndex) = some true)
    (no_x_UnknownDeed_UnknownIndex : PySem.W.kitOne K (.ref a_UnknownDeed) (.ref a_UnknownIndex) = some false)
    (no_x_Possible_UnknownIndex : PySem.W.kitOne K (.ref a_Possible) (.ref a_UnknownIndex) = some false)
    (no_x_NotComparable_UnknownIndex : PySem.W.kitOne K (.ref a_NotComparable) (.ref a_UnknownIndex) = some false)
    (no_x_InvalidWords_UnknownIndex : PySem.W.kitOne K (.ref a_InvalidWords) (.ref a_UnknownIndex) = some false)
    (no_x_InvalidText_UnknownIndex : PySem.W.kitOne K (.ref a_InvalidText) (.ref a_UnknownIndex) = some false)
    (no_x_InvalidSize_UnknownIndex : PySem.W.kitOne K (.ref a_InvalidSize) (.ref a_UnknownIndex) = some false)
    (no_x_InvalidRule_UnknownIndex : PySem.W.kitOne K (.ref a_InvalidRule) (.ref a_UnknownIndex) = some false)
    (no_x_InvalidMasters_UnknownIndex : PySem.W.kitOne K (.ref a_InvalidMasters) (.ref a_UnknownIndex) = some false)
    (no_x_InvalidDeed_UnknownIndex : PySem.W.kitOne K (.ref a_InvalidDeed) (.ref a_UnknownIndex) = some false)
    (no_x_UnknownKind_UnknownKind : PySem.W.kitOne K (.ref a_UnknownKind) (.ref a_UnknownKind) = some true)
    (no_x_UnknownIndex_UnknownKind : PySem.W.kitOne K (.ref a_UnknownIndex) (.ref a_UnknownKind) = some false)
    (no_x_UnknownDeed_UnknownKind : PySem.W.kitOne K (.ref a_UnknownDeed) (.ref a_UnknownKind) = some false)
    (no_x_Possible_UnknownKind : PySem.W.kitOne K (.ref a_Possible) (.ref a_UnknownKind) = some false)
    (no_x_NotComparable_UnknownKind : PySem.W.kitOne K (.ref a_NotComparable) (.ref a_UnknownKind) = some false)
    (no_x_InvalidWords_UnknownKind : PySem.W.kitOne K (.ref a_InvalidWords) (.ref a_UnknownKind) = some false)
    (no_x_InvalidText_UnknownKind : PySem.W.kitOne K (.ref a_InvalidText) (.ref a_UnknownKind) = some false)
    (no_x_InvalidSize_UnknownKind : PySem.W.kitOne K (.ref a_InvalidSize) (.ref a_UnknownKind) = some false)
    (no_x_InvalidRule_UnknownKind : PySem.W.kitOne K (.ref a_InvalidRule) (.ref a_UnknownKind) = some false)
    (no_x_InvalidMasters_UnknownKind : PySem.W.kitOne K (.ref a_InvalidMasters) (.ref a_UnknownKind) = some false)
    (no_x_InvalidDeed_UnknownKind : PySem.W.kitOne K (.ref a_InvalidDeed) (.ref a_UnknownKind) = some false)
    (yn_InvalidDeed_index : PySem.W.findIn K (.ref a_InvalidDeed) "index" = some none)
    (yn_InvalidRule_point : PySem.W.findIn K (.ref a_InvalidRule) "point" = some none)
    (yn_InvalidText_line : PySem.W.findIn K (.ref a_InvalidText) "line" = some none)
    (yn_InvalidText_word : PySem.W.findIn K (.ref a_InvalidText) "word" = some none)
    (yn_Possible_history : PySem.W.findIn K (.ref a_Possible) "history" = some none)
    (yn_UnknownDeed_deed : PySem.W.findIn K (.ref a_UnknownDeed) "deed" = some none)
    (yn_UnknownIndex_index : PySem.W.findIn K (.ref a_UnknownIndex) "index" = some none)
    (yn_UnknownKind_index : PySem.W.findIn K (.ref a_UnknownKind) "index" = some none)
    (hz_all : PySem.W.nsIn K mainGlobals "all" = some none)
    (hz_int : PySem.W.nsIn K mainGlobals "int" = some none)
    (hz_isinstance : PySem.W.nsIn K mainGlobals "isinstance" = some none)
    (hz_len : PySem.W.nsIn K mainGlobals "len" = some none)
    (hz_list : PySem.W.nsIn K mainGlobals "list" = some none)
    (hz_max : PySem.W.nsIn K mainGlobals "max" = some none)
    (hz_range : PySem.W.nsIn K mainGlobals "range" = some none)
    (a__law_mix : PySem.W.nsIn K mainGlobals "_law_mix" = some (some (.ref w__law_mix)))
    (l__law_mix : K.lookup w__law_mix = some ⟨oc__law_mix, od__law_mix, .func (PySem.W.fnOf "_law_mix" "_law_mix" (defArgs st__law_mix) (defBody st__law_mix) (defScope st__law_mix) .none kV__law_mix dc__law_mix pm__law_mix an__law_mix cd__law_mix ct__law_mix), sl__law_mix⟩)
    (c__law_mix : PySem.W.codeIn K cd__law_mix "_law_mix" = true)
    (k__law_mix : PySem.W.keepIn K (.ref w__law_mix) = true)
    (a__law_next : PySem.W.nsIn K mainGlobals "_law_next" = some (some (.ref w__law_next)))
    (l__law_next : K.lookup w__law_next = some ⟨oc__law_next, od__law_next, .func (PySem.W.fnOf "_law_next" "_law_next" (defArgs st__law_next) (defBody st__law_next) (defScope st__law_next) .none kV__law_next dc__law_next pm__law_next an__law_next cd__law_next ct__law_next), sl__law_next⟩)
    (c__law_next : PySem.W.codeIn K cd__law_next "_law_next" = true)
    (k__law_next : PySem.W.keepIn K (.ref w__law_next) = true)
    (a__law_bare : PySem.W.nsIn K mainGlobals "_law_bare" = some (some (.ref w__law_bare)))
    (l__law_bare : K.lookup w__law_bare = some ⟨oc__law_bare, od__law_bare, .func (PySem.W.fnOf "_law_bare" "_law_bare" (defArgs st__law_bare) (defBody st__law_bare) (defScope st__law_bare) .none kV__law_bare dc__law_bare pm__law_bare an__law_bare cd__law_bare ct__law_bare), sl__law_bare⟩)
    (c__law_bare : PySem.W.codeIn K cd__law_bare "_law_bare" = true)
    (k__law_bare : PySem.W.keepIn K (.ref w__law_bare) = true)
    (a__law_thrown : PySem.W.nsIn K mainGlobals "_law_thrown" = some (some (.ref w__law_thrown)))
    (l__law_thrown : K.lookup w__law_thrown = some ⟨oc__law_thrown, od__law_thrown, .func (PySem.W.fnOf "_law_thrown" "_law_thrown" (defArgs st__law_thrown) (defBody st__law_thrown) (defScope st__law_thrown) .none kV__law_thrown dc__law_thrown pm__law_thrown an__law_thrown cd__law_thrown ct__law_thrown), sl__law_thrown⟩)
    (c__law_thrown : PySem.W.codeIn K cd__law_thrown "_law_thrown" = true)
    (k__law_thrown : PySem.W.keepIn K (.ref w__law_thrown) = true)
    (a__law_classes : PySem.W.nsIn K mainGlobals "_law_classes" = some (some (.ref w__law_classes)))
    (l__law_classes : K.lookup w__law_classes = some ⟨oc__law_classes, od__law_classes, .func (PySem.W.fnOf "_law_classes" "_law_classes" (defArgs st__law_classes) (defBody st__law_classes) (defScope st__law_classes) .none kV__law_classes dc__law_classes pm__law_classes an__law_classes cd__law_classes ct__law_classes), sl__law_classes⟩)
    (c__law_classes : PySem.W.codeIn K cd__law_classes "_law_classes" = true)
    (k__law_classes : PySem.W.keepIn K (.ref w__law_classes) = true)
    (a__law_parts : PySem.W.nsIn K mainGlobals "_law_parts" = some (some (.ref w__law_parts)))
    (l__law_parts : K.lookup w__law_parts = some ⟨oc__law_parts, od__law_parts, .func (PySem.W.fnOf "_law_parts" "_law_parts" (defArgs st__law_parts) (defBody st__law_parts) (defScope st__law_parts) .none kV__law_parts dc__law_parts pm__law_parts an__law_parts cd__law_parts ct__law_parts), sl__law_parts⟩)
    (c__law_parts : PySem.W.codeIn K cd__law_parts "_law_parts" = true)
    (k__law_parts : PySem.W.keepIn K (.ref w__law_parts) = true)
    (a__law_right : PySem.W.nsIn K mainGlobals "_law_right" = some (some (.ref w__law_right)))
    (l__law_right : K.lookup w__law_right = some ⟨oc__law_right, od__law_right, .func (PySem.W.fnOf "_law_right" "_law_right" (defArgs st__law_right) (defBody st__law_right) (defScope st__law_right) .none kV__law_right dc__law_right pm__law_right an__law_right cd__law_right ct__law_right), sl__law_right⟩)
    (c__law_right : PySem.W.codeIn K cd__law_right "_law_right" = true)
    (k__law_right : PySem.W.keepIn K (.ref w__law_right) = true)
    (a_law : PySem.W.nsIn K mainGlobals "law" = some (some (.ref w_law)))
    (l_law : K.lookup w_law = some ⟨oc_law, od_law, .func (PySem.W.fnOf "law" "law" (defArgs st_law) (defBody st_law) (defScope st_law) .none kV_law dc_law pm_law an_law cd_law ct_law), sl_law⟩)
    (c_law : PySem.W.codeIn K cd_law "law" = true)
    (k_law : PySem.W.keepIn K (.ref w_law) = true) :
    ∃ (ad : Addr → String → Addr) (sl : String → Option (List Str)) (fd : FuncData), (∀ (s : Shared) (v : Value), BindsTo s fd ⟨[v], []⟩ [("_law_script", v)]) ∧ ∀ base : PySem.Heap, K.In base → base.Ns mainGlobals mg → FnOk P w K mg base (L2.CX P w) 5 fa fd ["_law_script"] (spLaw (fun as ns => ⟨P, w, K, mg, base, ad as, sl, ns⟩) f_law) := by
  have e := hfa.symm.trans (PySem.W.mg_of X G a_law)
  cases e
  refine ⟨fun as => adf as a_CopyError a_InvalidDeed a_InvalidMasters a_InvalidRule a_InvalidSize a_InvalidText a_InvalidWords a_NotComparable a_Possible a_UnknownDeed a_UnknownIndex a_UnknownKind, slf, PySem.W.fnOf "law" "law" (defArgs st_law) (defBody st_law) (defScope st_law) .none kV_law dc_law pm_law an_law cd_law ct_law, fun s v => .of_eq rfl, fun base hb hn => fn_law (fun as ns => adf_s (a_CopyError := a_CopyError) (a_InvalidDeed := a_InvalidDeed) (a_InvalidMasters := a_InvalidMasters) (a_InvalidRule := a_InvalidRule) (a_InvalidSize := a_InvalidSize) (a_InvalidText := a_InvalidText) (a_InvalidWords := a_InvalidWords) (a_NotComparable := a_NotComparable) (a_Possible := a_Possible) (a_UnknownDeed := a_UnknownDeed) (a_UnknownIndex := a_UnknownIndex) (a_UnknownKind := a_UnknownKind)) (fun as ns => ⟨rfl, rfl, rfl, rfl, rfl, rfl⟩) fun as ns => ok_law (C := ⟨P, w, K, mg, base, adf as a_CopyError a_InvalidDeed a_InvalidMasters a_InvalidRule a_InvalidSize a_InvalidText a_InvalidWords a_NotComparable a_Possible a_UnknownDeed a_UnknownIndex a_UnknownKind, slf, ns⟩) ?_ (fun_mk (st := st_law) l_law c_law k_law)⟩
  have e_CopyError : (⟨P, w, K, mg, base, adf as a_CopyError a_InvalidDeed a_InvalidMasters a_InvalidRule a_InvalidSize a_InvalidText a_InvalidWords a_NotComparable a_Possible a_UnknownDeed a_UnknownIndex a_UnknownKind, slf, ns⟩ : Cz).ad "CopyError" = a_CopyError := adf_CopyError (as := as) (a_CopyError := a_CopyError) (a_InvalidDeed := a_InvalidDeed) (a_InvalidMasters := a_InvalidMasters) (a_InvalidRule := a_InvalidRule) (a_InvalidSize := a_InvalidSize) (a_InvalidText := a_InvalidText) (a_InvalidWords := a_InvalidWords) (a_NotComparable := a_NotComparable) (a_Possible := a_Possible) (a_UnknownDeed := a_UnknownDeed) (a_UnknownIndex := a_UnknownIndex) (a_UnknownKind := a_UnknownKind)
  have e_InvalidDeed : (⟨P, w, K, mg, base, adf as a_CopyError a_InvalidDeed a_InvalidMasters a_InvalidRule a_InvalidSize a_InvalidText a_InvalidWords a_NotComparable a_Possible a_UnknownDeed a_UnknownIndex a_UnknownKind, slf, ns⟩ : Cz).ad "InvalidDeed" = a_InvalidDeed := adf_InvalidDeed (as := as) (a_CopyError := a_CopyError) (a_InvalidDeed := a_InvalidDeed) (a_InvalidMasters := a_InvalidMasters) (a_InvalidRule := a_InvalidRule) (a_InvalidSize := a_InvalidSize) (a_InvalidText := a_InvalidText) (a_InvalidWords := a_InvalidWords) (a_NotComparable := a_NotComparable) (a_Possible := a_Possible) (a_UnknownDeed := a_UnknownDeed) (a_UnknownIndex := a_UnknownIndex) (a_UnknownKind := a_UnknownKind)
  have e_InvalidMasters : (⟨P, w, K, mg, base, adf as a_CopyError a_InvalidDeed a_InvalidMasters a_InvalidRule a_InvalidSize a_InvalidText a_InvalidWords a_NotComparable a_Possible a_UnknownDeed a_UnknownIndex a_UnknownKind, slf, ns⟩ : Cz).ad "InvalidMasters" = a_InvalidMasters := adf_InvalidMasters (as := as) (a_CopyError := a_CopyError) (a_InvalidDeed := a_InvalidDeed) (a_InvalidMasters := a_InvalidMasters) (a_InvalidRule := a_InvalidRule) (a_InvalidSize := a_InvalidSize) (a_InvalidText := a_InvalidText) (a_InvalidWords := a_InvalidWords) (a_NotComparable := a_NotComparable) (a_Possible := a_Possible) (a_UnknownDeed := a_UnknownDeed) (a_UnknownIndex := a_UnknownIndex) (a_UnknownKind := a_UnknownKind)
  have e_InvalidRule : (⟨P, w, K, mg, base, adf as a_CopyError a_InvalidDeed a_InvalidMasters a_InvalidRule a_InvalidSize a_InvalidText a_InvalidWords a_NotComparable a_Possible a_UnknownDeed a_UnknownIndex a_UnknownKind, slf, ns⟩ : Cz).ad "InvalidRule" = a_InvalidRule := adf_InvalidRule (as := as) (a_CopyError := a_CopyError) (a_InvalidDeed := a_InvalidDeed) (a_InvalidMasters := a_InvalidMasters) (a_InvalidRule := a_InvalidRule) (a_InvalidSize := a_InvalidSize) (a_InvalidText := a_InvalidText) (a_InvalidWords := a_InvalidWords) (a_NotComparable := a_NotComparable) (a_Possible := a_Possible) (a_UnknownDeed := a_UnknownDeed) (a_UnknownIndex := a_UnknownIndex) (a_UnknownKind := a_UnknownKind)
  have e_InvalidSize : (⟨P, w, K, mg, base, adf as a_CopyError a_InvalidDeed a_InvalidMasters a_InvalidRule a_InvalidSize a_InvalidText a_InvalidWords a_NotComparable a_Possible a_UnknownDeed a_UnknownIndex a_UnknownKind, slf, ns⟩ : Cz).ad "InvalidSize" = a_InvalidSize := adf_InvalidSize (as := as) (a_CopyError := a_CopyError) (a_InvalidDeed := a_InvalidDeed) (a_InvalidMasters := a_InvalidMasters) (a_InvalidRule := a_InvalidRule) (a_InvalidSize := a_InvalidSize) (a_InvalidText := a_InvalidText) (a_InvalidWords := a_InvalidWords) (a_NotComparable := a_NotComparable) (a_Possible := a_Possible) (a_UnknownDeed := a_UnknownDeed) (a_UnknownIndex := a_UnknownIndex) (a_UnknownKind := a_UnknownKind)
  have e_InvalidText : (⟨P, w, K, mg, base, adf as a_CopyError a_InvalidDeed a_InvalidMasters a_InvalidRule a_InvalidSize a_InvalidText a_InvalidWords a_NotComparable a_Possible a_UnknownDeed a_UnknownIndex a_UnknownKind, slf, ns⟩ : Cz).ad "InvalidText" = a_InvalidText := adf_InvalidText (as := as) (a_CopyError := a_CopyError) (a_InvalidDeed := a_InvalidDeed) (a_InvalidMasters := a_InvalidMasters) (a_InvalidRule := a_InvalidRule) (a_InvalidSize := a_InvalidSize) (a_InvalidText := a_InvalidText) (a_InvalidWords := a_InvalidWords) (a_NotComparable := a_NotComparable) (a_Possible := a_Possible) (a_UnknownDeed := a_UnknownDeed) (a_UnknownIndex := a_UnknownIndex) (a_UnknownKind := a_UnknownKind)
  have e_InvalidWords : (⟨P, w, K, mg, base, adf as a_CopyError a_InvalidDeed a_InvalidMasters a_InvalidRule a_InvalidSize a_InvalidText a_InvalidWords a_NotComparable a_Possible a_UnknownDeed a_UnknownIndex a_UnknownKind, slf, ns⟩ : Cz).ad "InvalidWords" = a_InvalidWords := adf_InvalidWords (as := as) (a_CopyError := a_CopyError) (a_InvalidDeed := a_InvalidDeed) (a_InvalidMasters := a_InvalidMasters) (a_InvalidRule := a_InvalidRule) (a_InvalidSize := a_InvalidSize) (a_InvalidText := a_InvalidText) (a_InvalidWords := a_InvalidWords) (a_NotComparable := a_NotComparable) (a_Possible := a_Possible) (a_UnknownDeed := a_UnknownDeed) (a_UnknownIndex := a_UnknownIndex) (a_UnknownKind := a_UnknownKind)
  have e_NotComparable : (⟨P, w, K, mg, base, adf as a_CopyError a_InvalidDeed a_InvalidMasters a_InvalidRule a_InvalidSize a_InvalidText a_InvalidWords a_NotComparable a_Possible a_UnknownDeed a_UnknownIndex a_UnknownKind, slf, ns⟩ : Cz).ad "NotComparable" = a_NotComparable := adf_NotComparable (as := as) (a_CopyError := a_CopyError) (a_InvalidDeed := a_InvalidDeed) (a_InvalidMasters := a_InvalidMasters) (a_InvalidRule := a_InvalidRule) (a_InvalidSize := a_InvalidSize) (a_InvalidText := a_InvalidText) (a_InvalidWords := a_InvalidWords) (a_NotComparable := a_NotComparable) (a_Possible := a_Possible) (a_UnknownDeed := a_UnknownDeed) (a_UnknownIndex := a_UnknownIndex) (a_UnknownKind := a_UnknownKind)
  have e_Possible : (⟨P, w, K, mg, base, adf as a_CopyError a_InvalidDeed a_InvalidMasters a_InvalidRule a_InvalidSize a_InvalidText a_InvalidWords a_NotComparable a_Possible a_UnknownDeed a_UnknownIndex a_UnknownKind, slf, ns⟩ : Cz).ad "Possible" = a_Possible := adf_Possible (as := as) (a_CopyError := a_CopyError) (a_InvalidDeed := a_InvalidDeed) (a_InvalidMasters := a_InvalidMasters) (a_InvalidRule := a_InvalidRule) (a_InvalidSize := a_InvalidSize) (a_InvalidText := a_InvalidText) (a_InvalidWords := a_InvalidWords) (a_NotComparable := a_NotComparable) (a_Possible := a_Possible) (a_UnknownDeed := a_UnknownDeed) (a_UnknownIndex := a_UnknownIndex) (a_UnknownKind := a_UnknownKind)
  have e_UnknownDeed : (⟨P, w, K, mg, base, adf as a_CopyError a_InvalidDeed a_InvalidMasters a_InvalidRule a_InvalidSize a_InvalidText a_InvalidWords a_NotComparable a_Possible a_UnknownDeed a_UnknownIndex a_UnknownKind, slf, ns⟩ : Cz).ad "UnknownDeed" = a_UnknownDeed := adf_UnknownDeed (as := as) (a_CopyError := a_CopyError) (a_InvalidDeed := a_InvalidDeed) (a_InvalidMasters := a_InvalidMasters) (a_InvalidRule := a_InvalidRule) (a_InvalidSize := a_InvalidSize) (a_InvalidText := a_InvalidText) (a_InvalidWords := a_InvalidWords) (a_NotComparable := a_NotComparable) (a_Possible := a_Possible) (a_UnknownDeed := a_UnknownDeed) (a_UnknownIndex := a_UnknownIndex) (a_UnknownKind := a_UnknownKind)
  have e_UnknownIndex : (⟨P, w, K, mg, base, adf as a_CopyError a_InvalidDeed a_InvalidMasters a_InvalidRule a_InvalidSize a_InvalidText a_InvalidWords a_NotComparable a_Possible a_UnknownDeed a_UnknownIndex a_UnknownKind, slf, ns⟩ : Cz).ad "UnknownIndex" = a_UnknownIndex := adf_UnknownIndex (as := as) (a_CopyError := a_CopyError) (a_InvalidDeed := a_InvalidDeed) (a_InvalidMasters := a_InvalidMasters) (a_InvalidRule := a_InvalidRule) (a_InvalidSize := a_InvalidSize) (a_InvalidText := a_InvalidText) (a_InvalidWords := a_InvalidWords) (a_NotComparable := a_NotComparable) (a_Possible := a_Possible) (a_UnknownDeed := a_UnknownDeed) (a_UnknownIndex := a_UnknownIndex) (a_UnknownKind := a_UnknownKind)
  have e_UnknownKind : (⟨P, w, K, mg, base, adf as a_CopyError a_InvalidDeed a_InvalidMasters a_InvalidRule a_InvalidSize a_InvalidText a_InvalidWords a_NotComparable a_Possible a_UnknownDeed a_UnknownIndex a_UnknownKind, slf, ns⟩ : Cz).ad "UnknownKind" = a_UnknownKind := adf_UnknownKind (as := as) (a_CopyError := a_CopyError) (a_InvalidDeed := a_InvalidDeed) (a_InvalidMasters := a_InvalidMasters) (a_InvalidRule := a_InvalidRule) (a_InvalidSize := a_InvalidSize) (a_InvalidText := a_InvalidText) (a_InvalidWords := a_InvalidWords) (a_NotComparable := a_NotComparable) (a_Possible := a_Possible) (a_UnknownDeed := a_UnknownDeed) (a_UnknownIndex := a_UnknownIndex) (a_UnknownKind := a_UnknownKind)
  exact fx_mk (C := ⟨P, w, K, mg, base, adf as a_CopyError a_InvalidDeed a_InvalidMasters a_InvalidRule a_InvalidSize a_InvalidText a_InvalidWords a_NotComparable a_Possible a_UnknownDeed a_UnknownIndex a_UnknownKind, slf, ns⟩) (h := h) X G slf_CopyError slf_InvalidDeed slf_InvalidMasters slf_InvalidRule slf_InvalidSize slf_InvalidText slf_InvalidWords slf_NotComparable slf_Possible slf_UnknownDeed slf_UnknownIndex slf_UnknownKind (by rw [e_CopyError]; exact gc_CopyError) (by rw [e_InvalidDeed]; exact gc_InvalidDeed) (by rw [e_InvalidMasters]; exact gc_InvalidMasters) (by rw [e_InvalidRule]; exact gc_InvalidRule) (by rw [e_InvalidSize]; exact gc_InvalidSize) (by rw [e_InvalidText]; exact gc_InvalidText) (by rw [e_InvalidWords]; exact gc_InvalidWords) (by rw [e_NotComparable]; exact gc_NotComparable) (by rw [e_Possible]; exact gc_Possible) (by rw [e_UnknownDeed]; exact gc_UnknownDeed) (by rw [e_UnknownIndex]; exact gc_UnknownIndex) (by rw [e_UnknownKind]; exact gc_UnknownKind) (by rw [e_UnknownKind]; exact ya_UnknownKind) (by rw [e_UnknownKind]; exact yb_UnknownKind) (by rw [e_UnknownKind]; exact yc_UnknownKind) (by rw [e_UnknownKind]; exact yd_UnknownKind) (by rw [e_UnknownKind]; exact ca_UnknownKind) cn_UnknownKind ct_UnknownKind (by rw [e_UnknownKind]; exact cm_UnknownKind) (by rw [e_UnknownKind]; exact no_x_UnknownKind_ValueError) (by rw [e_UnknownIndex]; exact ya_UnknownIndex) (by rw [e_UnknownIndex]; exact yb_UnknownIndex) (by rw [e_UnknownIndex]; exact yc_UnknownIndex) (by rw [e_UnknownIndex]; exact yd_UnknownIndex) (by rw [e_UnknownIndex]; exact ca_UnknownIndex) cn_UnknownIndex ct_UnknownIndex (by rw [e_UnknownIndex]; exact cm_UnknownIndex) (by rw [e_UnknownIndex]; exact no_x_UnknownIndex_ValueError) (by rw [e_UnknownDeed]; exact ya_UnknownDeed) (by rw [e_UnknownDeed]; exact yb_UnknownDeed) (by rw [e_UnknownDeed]; exact yc_UnknownDeed) (by rw [e_UnknownDeed]; exact yd_UnknownDeed) (by rw [e_UnknownDeed]; exact ca_UnknownDeed) cn_UnknownDeed ct_UnknownDeed (by rw [e_UnknownDeed]; exact cm_UnknownDeed) (by rw [e_UnknownDeed]; exact no_x_UnknownDeed_ValueError) (by rw [e_Possible]; exact ya_Possible) (by rw [e_Possible]; exact yb_Possible) (by rw [e_Possible]; exact yc_Possible) (by rw [e_Possible]; exact yd_Possible) (by rw [e_Possible]; exact ca_Possible) cn_Possible ct_Possible (by rw [e_Possible]; exact cm_Possible) (by rw [e_Possible]; exact no_x_Possible_ValueError) (by rw [e_NotComparable]; exact ya_NotComparable) (by rw [e_NotComparable]; exact yb_NotComparable) (by rw [e_NotComparable]; exact yc_NotComparable) (by rw [e_NotComparable]; exact yd_NotComparable) (by rw [e_NotComparable]; exact ca_NotComparable) cn_NotComparable ct_NotComparable (by rw [e_NotComparable]; exact cm_NotComparable) (by rw [e_NotComparable]; exact no_x_NotComparable_ValueError) (by rw [e_InvalidWords]; exact ya_InvalidWords) (by rw [e_InvalidWords]; exact yb_InvalidWords) (by rw [e_InvalidWords]; exact yc_InvalidWords) (by rw [e_InvalidWords]; exact yd_InvalidWords) (by rw [e_InvalidWords]; exact ca_InvalidWords) cn_InvalidWords ct_InvalidWords (by rw [e_InvalidWords]; exact cm_InvalidWords) (by rw [e_InvalidWords]; exact no_x_InvalidWords_ValueError) (by rw [e_InvalidText]; exact ya_InvalidText) (by rw [e_InvalidText]; exact yb_InvalidText) (by rw [e_InvalidText]; exact yc_InvalidText) (by rw [e_InvalidText]; exact yd_InvalidText) (by rw [e_InvalidText]; exact ca_InvalidText) cn_InvalidText ct_InvalidText (by rw [e_InvalidText]; exact cm_InvalidText) (by rw [e_InvalidText]; exact no_x_InvalidText_ValueError) (by rw [e_InvalidSize]; exact ya_InvalidSize) (by rw [e_InvalidSize]; exact yb_InvalidSize) (by rw [e_InvalidSize]; exact yc_InvalidSize) (by rw [e_InvalidSize]; exact yd_InvalidSize) (by rw [e_InvalidSize]; exact ca_InvalidSize) cn_InvalidSize ct_InvalidSize (by rw [e_InvalidSize]; exact cm_InvalidSize) (by rw [e_InvalidSize]; exact no_x_InvalidSize_ValueError) (by rw [e_InvalidRule]; exact ya_InvalidRule) (by rw [e_InvalidRule]; exact yb_InvalidRule) (by rw [e_InvalidRule]; exact yc_InvalidRule) (by rw [e_InvalidRule]; exact yd_InvalidRule) (by rw [e_InvalidRule]; exact ca_InvalidRule) cn_InvalidRule ct_InvalidRule (by rw [e_InvalidRule]; exact cm_InvalidRule) (by rw [e_InvalidRule]; exact no_x_InvalidRule_ValueError) (by rw [e_InvalidMasters]; exact ya_InvalidMasters) (by rw [e_InvalidMasters]; exact yb_InvalidMasters) (by rw [e_InvalidMasters]; exact yc_InvalidMasters) (by rw [e_InvalidMasters]; exact yd_InvalidMasters) (by rw [e_InvalidMasters]; exact ca_InvalidMasters) cn_InvalidMasters ct_InvalidMasters (by rw [e_InvalidMasters]; exact cm_InvalidMasters) (by rw [e_InvalidMasters]; exact no_x_InvalidMasters_ValueError) (by rw [e_InvalidDeed]; exact ya_InvalidDeed) (by rw [e_InvalidDeed]; exact yb_InvalidDeed) (by rw [e_InvalidDeed]; exact yc_InvalidDeed) (by rw [e_InvalidDeed]; exact yd_InvalidDeed) (by rw [e_InvalidDeed]; exact ca_InvalidDeed) cn_InvalidDeed ct_InvalidDeed (by rw [e_InvalidDeed]; exact cm_InvalidDeed) (by rw [e_InvalidDeed]; exact no_x_InvalidDeed_ValueError) zb_ValueError (by rw [e_InvalidMasters]; exact xi_InvalidMasters) (by rw [e_InvalidMasters]; exact ek_InvalidMasters) (by rw [e_InvalidMasters]; exact eb_InvalidMasters) (by rw [e_InvalidMasters]; exact et_InvalidMasters) (by rw [e_InvalidSize]; exact xi_InvalidSize) (by rw [e_InvalidSize]; exact ek_InvalidSize) (by rw [e_InvalidSize]; exact eb_InvalidSize) (by rw [e_InvalidSize]; exact et_InvalidSize) (by rw [e_InvalidWords]; exact xi_InvalidWords) (by rw [e_InvalidWords]; exact ek_InvalidWords) (by rw [e_InvalidWords]; exact eb_InvalidWords) (by rw [e_InvalidWords]; exact et_InvalidWords) (by rw [e_NotComparable]; exact xi_NotComparable) (by rw [e_NotComparable]; exact ek_NotComparable) (by rw [e_NotComparable]; exact eb_NotComparable) (by rw [e_NotComparable]; exact et_NotComparable) (by rw [e_CopyError, e_InvalidDeed]; exact m_InvalidDeed__CopyError) (by rw [e_CopyError, e_InvalidMasters]; exact m_InvalidMasters__CopyError) (by rw [e_CopyError, e_InvalidRule]; exact m_InvalidRule__CopyError) (by rw [e_CopyError, e_InvalidSize]; exact m_InvalidSize__CopyError) (by rw [e_CopyError, e_InvalidText]; exact m_InvalidText__CopyError) (by rw [e_CopyError, e_InvalidWords]; exact m_InvalidWords__CopyError) (by rw [e_CopyError, e_NotComparable]; exact m_NotComparable__CopyError) (by rw [e_CopyError, e_Possible]; exact m_Possible__CopyError) (by rw [e_CopyError, e_UnknownDeed]; exact m_UnknownDeed__CopyError) (by rw [e_CopyError, e_UnknownIndex]; exact m_UnknownIndex__CopyError) (by rw [e_CopyError, e_UnknownKind]; exact m_UnknownKind__CopyError) (by rw [e_CopyError, e_InvalidDeed]; exact xl_InvalidDeed) (by rw [e_InvalidDeed]; exact xs_InvalidDeed) (by rw [e_InvalidDeed]; exact ek_InvalidDeed) (by rw [e_InvalidDeed]; exact eb_InvalidDeed) (by rw [e_InvalidDeed]; exact et_InvalidDeed) (by rw [e_InvalidDeed]; exact a_InvalidDeed___init__) ty_InvalidDeed___init__ l_InvalidDeed___init__ c_InvalidDeed___init__ k_InvalidDeed___init__ (by rw [e_InvalidDeed]; exact no_f_InvalidDeed_index) (by rw [e_CopyError, e_InvalidRule]; exact xl_InvalidRule) (by rw [e_InvalidRule]; exact xs_InvalidRule) (by rw [e_InvalidRule]; exact ek_InvalidRule) (by rw [e_InvalidRule]; exact eb_InvalidRule) (by rw [e_InvalidRule]; exact et_InvalidRule) (by rw [e_InvalidRule]; exact a_InvalidRule___init__) ty_InvalidRule___init__ l_InvalidRule___init__ c_InvalidRule___init__ k_InvalidRule___init__ (by rw [e_InvalidRule]; exact no_f_InvalidRule_point) (by rw [e_CopyError, e_InvalidText]; exact xl_InvalidText) (by rw [e_InvalidText]; exact xs_InvalidText) (by rw [e_InvalidText]; exact ek_InvalidText) (by rw [e_InvalidText]; exact eb_InvalidText) (by rw [e_InvalidText]; exact et_InvalidText) (by rw [e_InvalidText]; exact a_InvalidText___init__) ty_InvalidText___init__ l_InvalidText___init__ c_InvalidText___init__ k_InvalidText___init__ (by rw [e_InvalidText]; exact no_f_InvalidText_line) (by rw [e_InvalidText]; exact no_f_InvalidText_word) (by rw [e_CopyError, e_Possible]; exact xl_Possible) (by rw [e_Possible]; exact xs_Possible) (by rw [e_Possible]; exact ek_Possible) (by rw [e_Possible]; exact eb_Possible) (by rw [e_Possible]; exact et_Possible) (by rw [e_Possible]; exact a_Possible___init__) ty_Possible___init__ l_Possible___init__ c_Possible___init__ k_Possible___init__ (by rw [e_Possible]; exact no_f_Possible_history) (by rw [e_CopyError, e_UnknownDeed]; exact xl_UnknownDeed) (by rw [e_UnknownDeed]; exact xs_UnknownDeed) (by rw [e_UnknownDeed]; exact ek_UnknownDeed) (by rw [e_UnknownDeed]; exact eb_UnknownDeed) (by rw [e_UnknownDeed]; exact et_UnknownDeed) (by rw [e_UnknownDeed]; exact a_UnknownDeed___init__) ty_UnknownDeed___init__ l_UnknownDeed___init__ c_UnknownDeed___init__ k_UnknownDeed___init__ (by rw [e_UnknownDeed]; exact no_f_UnknownDeed_deed) (by rw [e_CopyError, e_UnknownIndex]; exact xl_UnknownIndex) (by rw [e_UnknownIndex]; exact xs_UnknownIndex) (by rw [e_UnknownIndex]; exact ek_UnknownIndex) (by rw [e_UnknownIndex]; exact eb_UnknownIndex) (by rw [e_UnknownIndex]; exact et_UnknownIndex) (by rw [e_UnknownIndex]; exact a_UnknownIndex___init__) ty_UnknownIndex___init__ l_UnknownIndex___init__ c_UnknownIndex___init__ k_UnknownIndex___init__ (by rw [e_UnknownIndex]; exact no_f_UnknownIndex_index) (by rw [e_CopyError, e_UnknownKind]; exact xl_UnknownKind) (by rw [e_UnknownKind]; exact xs_UnknownKind) (by rw [e_UnknownKind]; exact ek_UnknownKind) (by rw [e_UnknownKind]; exact eb_UnknownKind) (by rw [e_UnknownKind]; exact et_UnknownKind) (by rw [e_UnknownKind]; exact a_UnknownKind___init__) ty_UnknownKind___init__ l_UnknownKind___init__ c_UnknownKind___init__ k_UnknownKind___init__ (by rw [e_UnknownKind]; exact no_f_UnknownKind_index) (by rw [e_InvalidDeed, e_UnknownKind]; exact no_x_UnknownKind_InvalidDeed) (by rw [e_InvalidDeed, e_UnknownIndex]; exact no_x_UnknownIndex_InvalidDeed) (by rw [e_InvalidDeed, e_UnknownDeed]; exact no_x_UnknownDeed_InvalidDeed) (by rw [e_InvalidDeed, e_Possible]; exact no_x_Possible_InvalidDeed) (by rw [e_InvalidDeed, e_NotComparable]; exact no_x_NotComparable_InvalidDeed) (by rw [e_InvalidDeed, e_InvalidWords]; exact no_x_InvalidWords_InvalidDeed) (by rw [e_InvalidDeed, e_InvalidText]; exact no_x_InvalidText_InvalidDeed) (by rw [e_InvalidDeed, e_InvalidSize]; exact no_x_InvalidSize_InvalidDeed) (by rw [e_InvalidDeed, e_InvalidRule]; exact no_x_InvalidRule_InvalidDeed) (by rw [e_InvalidDeed, e_InvalidMasters]; exact no_x_InvalidMasters_InvalidDeed) (by rw [e_InvalidDeed]; exact no_x_InvalidDeed_InvalidDeed) (by rw [e_InvalidMasters, e_UnknownKind]; exact no_x_UnknownKind_InvalidMasters) (by rw [e_InvalidMasters, e_UnknownIndex]; exact no_x_UnknownIndex_InvalidMasters) (by rw [e_InvalidMasters, e_UnknownDeed]; exact no_x_UnknownDeed_InvalidMasters) (by rw [e_InvalidMasters, e_Possible]; exact no_x_Possible_InvalidMasters) (by rw [e_InvalidMasters, e_NotComparable]; exact no_x_NotComparable_InvalidMasters) (by rw [e_InvalidMasters, e_InvalidWords]; exact no_x_InvalidWords_InvalidMasters) (by rw [e_InvalidMasters, e_InvalidText]; exact no_x_InvalidText_InvalidMasters) (by rw [e_InvalidMasters, e_InvalidSize]; exact no_x_InvalidSize_InvalidMasters) (by rw [e_InvalidMasters, e_InvalidRule]; exact no_x_InvalidRule_InvalidMasters) (by rw [e_InvalidMasters]; exact no_x_InvalidMasters_InvalidMasters) (by rw [e_InvalidDeed, e_InvalidMasters]; exact no_x_InvalidDeed_InvalidMasters) (by rw [e_InvalidRule, e_UnknownKind]; exact no_x_UnknownKind_InvalidRule) (by rw [e_InvalidRule, e_UnknownIndex]; exact no_x_UnknownIndex_InvalidRule) (by rw [e_InvalidRule, e_UnknownDeed]; exact no_x_UnknownDeed_InvalidRule) (by rw [e_InvalidRule, e_Possible]; exact no_x_Possible_InvalidRule) (by rw [e_InvalidRule, e_NotComparable]; exact no_x_NotComparable_InvalidRule) (by rw [e_InvalidRule, e_InvalidWords]; exact no_x_InvalidWords_InvalidRule) (by rw [e_InvalidRule, e_InvalidText]; exact no_x_InvalidText_InvalidRule) (by rw [e_InvalidRule, e_InvalidSize]; exact no_x_InvalidSize_InvalidRule) (by rw [e_InvalidRule]; exact no_x_InvalidRule_InvalidRule) (by rw [e_InvalidMasters, e_InvalidRule]; exact no_x_InvalidMasters_InvalidRule) (by rw [e_InvalidDeed, e_InvalidRule]; exact no_x_InvalidDeed_InvalidRule) (by rw [e_InvalidSize, e_UnknownKind]; exact no_x_UnknownKind_InvalidSize) (by rw [e_InvalidSize, e_UnknownIndex]; exact no_x_UnknownIndex_InvalidSize) (by rw [e_InvalidSize, e_UnknownDeed]; exact no_x_UnknownDeed_InvalidSize) (by rw [e_InvalidSize, e_Possible]; exact no_x_Possible_InvalidSize) (by rw [e_InvalidSize, e_NotComparable]; exact no_x_NotComparable_InvalidSize) (by rw [e_InvalidSize, e_InvalidWords]; exact no_x_InvalidWords_InvalidSize) (by rw [e_InvalidSize, e_InvalidText]; exact no_x_InvalidText_InvalidSize) (by rw [e_InvalidSize]; exact no_x_InvalidSize_InvalidSize) (by rw [e_InvalidRule, e_InvalidSize]; exact no_x_InvalidRule_InvalidSize) (by rw [e_InvalidMasters, e_InvalidSize]; exact no_x_InvalidMasters_InvalidSize) (by rw [e_InvalidDeed, e_InvalidSize]; exact no_x_InvalidDeed_InvalidSize) (by rw [e_InvalidText, e_UnknownKind]; exact no_x_UnknownKind_InvalidText) (by rw [e_InvalidText, e_UnknownIndex]; exact no_x_UnknownIndex_InvalidText) (by rw [e_InvalidText, e_UnknownDeed]; exact no_x_UnknownDeed_InvalidText) (by rw [e_InvalidText, e_Possible]; exact no_x_Possible_InvalidText) (by rw [e_InvalidText, e_NotComparable]; exact no_x_NotComparable_InvalidText) (by rw [e_InvalidText, e_InvalidWords]; exact no_x_InvalidWords_InvalidText) (by rw [e_InvalidText]; exact no_x_InvalidText_InvalidText) (by rw [e_InvalidSize, e_InvalidText]; exact no_x_InvalidSize_InvalidText) (by rw [e_InvalidRule, e_InvalidText]; exact no_x_InvalidRule_InvalidText) (by rw [e_InvalidMasters, e_InvalidText]; exact no_x_InvalidMasters_InvalidText) (by rw [e_InvalidDeed, e_InvalidText]; exact no_x_InvalidDeed_InvalidText) (by rw [e_InvalidWords, e_UnknownKind]; exact no_x_UnknownKind_InvalidWords) (by rw [e_InvalidWords, e_UnknownIndex]; exact no_x_UnknownIndex_InvalidWords) (by rw [e_InvalidWords, e_UnknownDeed]; exact no_x_UnknownDeed_InvalidWords) (by rw [e_InvalidWords, e_Possible]; exact no_x_Possible_InvalidWords) (by rw [e_InvalidWords, e_NotComparable]; exact no_x_NotComparable_InvalidWords) (by rw [e_InvalidWords]; exact no_x_InvalidWords_InvalidWords) (by rw [e_InvalidText, e_InvalidWords]; exact no_x_InvalidText_InvalidWords) (by rw [e_InvalidSize, e_InvalidWords]; exact no_x_InvalidSize_InvalidWords) (by rw [e_InvalidRule, e_InvalidWords]; exact no_x_InvalidRule_InvalidWords) (by rw [e_InvalidMasters, e_InvalidWords]; exact no_x_InvalidMasters_InvalidWords) (by rw [e_InvalidDeed, e_InvalidWords]; exact no_x_InvalidDeed_InvalidWords) (by rw [e_NotComparable, e_UnknownKind]; exact no_x_UnknownKind_NotComparable) (by rw [e_NotComparable, e_UnknownIndex]; exact no_x_UnknownIndex_NotComparable) (by rw [e_NotComparable, e_UnknownDeed]; exact no_x_UnknownDeed_NotComparable) (by rw [e_NotComparable, e_Possible]; exact no_x_Possible_NotComparable) (by rw [e_NotComparable]; exact no_x_NotComparable_NotComparable) (by rw [e_InvalidWords, e_NotComparable]; exact no_x_InvalidWords_NotComparable) (by rw [e_InvalidText, e_NotComparable]; exact no_x_InvalidText_NotComparable) (by rw [e_InvalidSize, e_NotComparable]; exact no_x_InvalidSize_NotComparable) (by rw [e_InvalidRule, e_NotComparable]; exact no_x_InvalidRule_NotComparable) (by rw [e_InvalidMasters, e_NotComparable]; exact no_x_InvalidMasters_NotComparable) (by rw [e_InvalidDeed, e_NotComparable]; exact no_x_InvalidDeed_NotComparable) (by rw [e_Possible, e_UnknownKind]; exact no_x_UnknownKind_Possible) (by rw [e_Possible, e_UnknownIndex]; exact no_x_UnknownIndex_Possible) (by rw [e_Possible, e_UnknownDeed]; exact no_x_UnknownDeed_Possible) (by rw [e_Possible]; exact no_x_Possible_Possible) (by rw [e_NotComparable, e_Possible]; exact no_x_NotComparable_Possible) (by rw [e_InvalidWords, e_Possible]; exact no_x_InvalidWords_Possible) (by rw [e_InvalidText, e_Possible]; exact no_x_InvalidText_Possible) (by rw [e_InvalidSize, e_Possible]; exact no_x_InvalidSize_Possible) (by rw [e_InvalidRule, e_Possible]; exact no_x_InvalidRule_Possible) (by rw [e_InvalidMasters, e_Possible]; exact no_x_InvalidMasters_Possible) (by rw [e_InvalidDeed, e_Possible]; exact no_x_InvalidDeed_Possible) (by rw [e_UnknownDeed, e_UnknownKind]; exact no_x_UnknownKind_UnknownDeed) (by rw [e_UnknownDeed, e_UnknownIndex]; exact no_x_UnknownIndex_UnknownDeed) (by rw [e_UnknownDeed]; exact no_x_UnknownDeed_UnknownDeed) (by rw [e_Possible, e_UnknownDeed]; exact no_x_Possible_UnknownDeed) (by rw [e_NotComparable, e_UnknownDeed]; exact no_x_NotComparable_UnknownDeed) (by rw [e_InvalidWords, e_UnknownDeed]; exact no_x_InvalidWords_UnknownDeed) (by rw [e_InvalidText, e_UnknownDeed]; exact no_x_InvalidText_UnknownDeed) (by rw [e_InvalidSize, e_UnknownDeed]; exact no_x_InvalidSize_UnknownDeed) (by rw [e_InvalidRule, e_UnknownDeed]; exact no_x_InvalidRule_UnknownDeed) (by rw [e_InvalidMasters, e_UnknownDeed]; exact no_x_InvalidMasters_UnknownDeed) (by rw [e_InvalidDeed, e_UnknownDeed]; exact no_x_InvalidDeed_UnknownDeed) (by rw [e_UnknownIndex, e_UnknownKind]; exact no_x_UnknownKind_UnknownIndex) (by rw [e_UnknownIndex]; exact no_x_UnknownIndex_UnknownIndex) (by rw [e_UnknownDeed, e_UnknownIndex]; exact no_x_UnknownDeed_UnknownIndex) (by rw [e_Possible, e_UnknownIndex]; exact no_x_Possible_UnknownIndex) (by rw [e_NotComparable, e_UnknownIndex]; exact no_x_NotComparable_UnknownIndex) (by rw [e_InvalidWords, e_UnknownIndex]; exact no_x_InvalidWords_UnknownIndex) (by rw [e_InvalidText, e_UnknownIndex]; exact no_x_InvalidText_UnknownIndex) (by rw [e_InvalidSize, e_UnknownIndex]; exact no_x_InvalidSize_UnknownIndex) (by rw [e_InvalidRule, e_UnknownIndex]; exact no_x_InvalidRule_UnknownIndex) (by rw [e_InvalidMasters, e_UnknownIndex]; exact no_x_InvalidMasters_UnknownIndex) (by rw [e_InvalidDeed, e_UnknownIndex]; exact no_x_InvalidDeed_UnknownIndex) (by rw [e_UnknownKind]; exact no_x_UnknownKind_UnknownKind) (by rw [e_UnknownIndex, e_UnknownKind]; exact no_x_UnknownIndex_UnknownKind) (by rw [e_UnknownDeed, e_UnknownKind]; exact no_x_UnknownDeed_UnknownKind) (by rw [e_Possible, e_UnknownKind]; exact no_x_Possible_UnknownKind) (by rw [e_NotComparable, e_UnknownKind]; exact no_x_NotComparable_UnknownKind) (by rw [e_InvalidWords, e_UnknownKind]; exact no_x_InvalidWords_UnknownKind) (by rw [e_InvalidText, e_UnknownKind]; exact no_x_InvalidText_UnknownKind) (by rw [e_InvalidSize, e_UnknownKind]; exact no_x_InvalidSize_UnknownKind) (by rw [e_InvalidRule, e_UnknownKind]; exact no_x_InvalidRule_UnknownKind) (by rw [e_InvalidMasters, e_UnknownKind]; exact no_x_InvalidMasters_UnknownKind) (by rw [e_InvalidDeed, e_UnknownKind]; exact no_x_InvalidDeed_UnknownKind) (by rw [e_InvalidDeed]; exact yn_InvalidDeed_index) (by rw [e_InvalidRule]; exact yn_InvalidRule_point) (by rw [e_InvalidText]; exact yn_InvalidText_line) (by rw [e_InvalidText]; exact yn_InvalidText_word) (by rw [e_Possible]; exact yn_Possible_history) (by rw [e_UnknownDeed]; exact yn_UnknownDeed_deed) (by rw [e_UnknownIndex]; exact yn_UnknownIndex_index) (by rw [e_UnknownKind]; exact yn_UnknownKind_index) hz_all hz_int hz_isinstance hz_len hz_list hz_max hz_range a__law_mix l__law_mix c__law_mix k__law_mix a__law_next l__law_next c__law_next k__law_next a__law_bare l__law_bare c__law_bare k__law_bare a__law_thrown l__law_thrown c__law_thrown k__law_thrown a__law_classes l__law_classes c__law_classes k__law_classes a__law_parts l__law_parts c__law_parts k__law_parts a__law_right l__law_right c__law_right k__law_right a_law l_law c_law k_law
end K19
/-! Ev: runs of the plain functions as equations; what stays in the heap; loops by invariants. -/
namespace PA
open PySem (Str PyData)
/-- all but S stays -/
structure Fr (S : List Nat) (h h' : Heap) : Prop where
  le : h.length ≤ h'.length
  at_ : ∀ (l : Nat) (o : AO), l ∉ S → h[l]? = some o → h'[l]? = some o
section
variable {S S' : List Nat} {h h1 h2 : Heap}
theorem Fr.refl : Fr S h h := ⟨Nat.le_refl _, fun _ _ _ e => e⟩
theorem Fr.trans (a : Fr S h h1) (b : Fr S h1 h2) : Fr S h h2 := ⟨Nat.le_trans a.le b.le, fun l o n e => b.at_ l o n (a.at_ l o n e)⟩
theorem lt_of_at {l : Nat} {o : AO} (e : h[l]? = some o) : l < h.length := (List.getElem?_eq_some_iff.mp e).1
/-- one after the other: what the second changes is allowed, or new -/
theorem Fr.comp (a : Fr S h h1) (b : Fr S' h1 h2) (k : ∀ l ∈ S', l < h.length → l ∈ S) : Fr S h h2 :=
  ⟨Nat.le_trans a.le b.le, fun l o n e => b.at_ l o (fun z => n (k l z (lt_of_at e))) (a.at_ l o n e)⟩
theorem Fr.mono (a : Fr S h h1) (k : ∀ l ∈ S, l ∈ S') : Fr S' h h1 := ⟨a.le, fun l o n e => a.at_ l o (fun z => n (k l z)) e⟩
theorem Fr.of0 (a : Fr [] h h1) : Fr S h h1 := a.mono fun _ z => nomatch z
theorem Fr.push (g : Heap) : Fr S h (h ++ g) := ⟨by simp, fun l o n e => by rw [List.getElem?_append_left (lt_of_at e)]; exact e⟩
theorem Fr.set {l : Nat} {o : AO} : Fr [l] h (h.set l o) := ⟨by simp, fun k p n e => by
  rw [List.getElem?_set_ne (fun z => n (by rw [z]; exact List.mem_singleton.mpr rfl))]; exact e⟩
theorem at_push {o : AO} : (h ++ [o])[h.length]? = some o := by simp
theorem at_set {l : Nat} {o p : AO} (e : h[l]? = some p) : (h.set l o)[l]? = some o := List.getElem?_set_self (lt_of_at e)
theorem at_set_ne {l k : Nat} {o p : AO} (n : k ≠ l) (e : h[k]? = some p) : (h.set l o)[k]? = some p := by
  rw [List.getElem?_set_ne (fun z => n z.symm)]; exact e
end
/-- a walk that goes on to its end -/
theorem iter_ok {items : Heap → Option (List AV)} {xs : List AV} {g : Tg} {body : SS} (I : Nat → Env → Heap → Prop) (hit : ∀ i ρ h, i ≤ xs.length → I i ρ h → items h = some xs)
    (step : ∀ i x ρ h, xs[i]? = some x → I i ρ h → ∃ ρ1, g x ρ = some ρ1 ∧ ∃ ρ2 h2, (body ρ1 h = .nx ρ2 h2 ∨ body ρ1 h = .ct ρ2 h2) ∧ I (i + 1) ρ2 h2) :
    ∀ (k i : Nat) (ρ : Env) (h : Heap), xs.length < k + i → i ≤ xs.length → I i ρ h → ∃ ρ' h', sIter items g body k i ρ h = .nx ρ' h' ∧ I xs.length ρ' h' := by
  intro k
  induction k with
  | zero => intro i ρ h h1 h2 _; omega
  | succ k ih =>
    intro i ρ h h1 h2 hi
    unfold sIter
    rw [hit i ρ h h2 hi]
    dsimp only
    cases e : xs[i]? with
    | none =>
      have : i = xs.length := by have := List.getElem?_eq_none_iff.mp e; omega
      subst this
      exact ⟨ρ, h, rfl, hi⟩
    | some x =>
      have hlt := (List.getElem?_eq_some_iff.mp e).1
      obtain ⟨ρ1, e1, ρ2, h2, e2, p⟩ := step i x ρ h e hi
      dsimp only
      rw [e1]
      dsimp only
      rcases e2 with e2 | e2 <;> rw [e2] <;> exact ih (i + 1) ρ2 h2 (by omega) hlt p
/-- a comprehension's turns -/
theorem comp_ok {items : Heap → Option (List AV)} {xs : List AV} {g : Tg} {t : BB} {e : EE} {ρ : Env} (I : Nat → List AV → Heap → Prop) (hit : ∀ i acc h, i ≤ xs.length → I i acc h → items h = some xs)
    (step : ∀ i x acc h, xs[i]? = some x → I i acc h → ∃ ρ1, g x ρ = some ρ1 ∧ ((∃ h1, t ρ1 h = .ok false h1 ∧ I (i + 1) acc h1) ∨ ∃ h1 y h2, t ρ1 h = .ok true h1 ∧ e ρ1 h1 = .ok y h2 ∧ I (i + 1) (acc ++ [y]) h2)) :
    ∀ (k i : Nat) (acc : List AV) (h : Heap), xs.length < k + i → i ≤ xs.length → acc.length + (xs.length - i) ≤ szl → I i acc h → ∃ acc' h', lcIter items g t e ρ k i acc h = .ok acc' h' ∧ I xs.length acc' h' := by
  intro k
  induction k with
  | zero => intro i ρ h h1 h2 _ _; omega
  | succ k ih =>
    intro i acc h h1 h2 hs hi
    unfold lcIter
    rw [hit i acc h h2 hi]
    dsimp only
    cases e0 : xs[i]? with
    | none =>
      have : i = xs.length := by have := List.getElem?_eq_none_iff.mp e0; omega
      subst this
      exact ⟨acc, h, rfl, hi⟩
    | some x =>
      have hlt := (List.getElem?_eq_some_iff.mp e0).1
      obtain ⟨ρ1, e1, p⟩ := step i x acc h e0 hi
      dsimp only
      rw [e1]
      dsimp only
      rcases p with ⟨h1, e2, p⟩ | ⟨h1, y, h2, e2, e3, p⟩
      · rw [e2]; exact ih (i + 1) acc h1 (by omega) hlt (by omega) p
      · rw [e2]
        dsimp only
        rw [e3]
        dsimp only
        rw [if_pos (by omega)]
        exact ih (i + 1) (acc ++ [y]) h2 (by omega) hlt (by rw [List.length_append]; show acc.length + 1 + _ ≤ _; omega) p
/-- a comprehension that leaves the heap alone -/
theorem comp_pure {items : Heap → Option (List AV)} {xs : List AV} {g : Tg} {t : BB} {e : EE} {ρ : Env} {h : Heap} (p : AV → Bool) (f : AV → AV) (hit : items h = some xs) (hl : xs.length ≤ 16777216)
    (step : ∀ x ∈ xs, ∃ ρ1, g x ρ = some ρ1 ∧ t ρ1 h = .ok (p x) h ∧ (p x = true → e ρ1 h = .ok (f x) h)) : lcIter items g t e ρ fuel 0 [] h = .ok ((xs.filter p).map f) h := by
  obtain ⟨acc', h', e1, e2, e3⟩ := comp_ok (t := t) (e := e) (ρ := ρ) (xs := xs) (g := g) (items := items) (fun i acc h' => h' = h ∧ acc = ((xs.take i).filter p).map f) (fun i acc h' _ q => by rw [q.1]; exact hit)
    (fun i x acc h' hx q => by
      obtain ⟨ρ1, a, b, c⟩ := step x (List.mem_of_getElem? hx)
      obtain ⟨rfl, rfl⟩ := q
      have et : xs.take (i + 1) = xs.take i ++ [x] := by rw [List.take_add_one, hx]; rfl
      refine ⟨ρ1, a, ?_⟩
      cases z : p x with
      | false => exact .inl ⟨h', by rw [b, z], rfl, by rw [et, List.filter_append, List.filter_cons_of_neg (by simp [z])]; simp⟩
      | true => exact .inr ⟨h', f x, h', by rw [b, z], c z, rfl, by rw [et, List.filter_append, List.filter_cons_of_pos z]; simp⟩)
    fuel 0 [] h (by unfold fuel; omega) (Nat.zero_le _) (by unfold szl; simp; omega) ⟨rfl, rfl⟩
  rw [e1, e2, e3, List.take_length]
theorem lcomp_pure {it : II} {items : Heap → Option (List AV)} {xs : List AV} {g : Tg} {t : BB} {e : EE} {vs : List Nat} {ρ : Env} {h0 h : Heap} (p : AV → Bool) (f : AV → AV) (hi : it ρ h0 = .ok items h) (hit : items h = some xs) (hl : xs.length ≤ 16777216)
    (step : ∀ x ∈ xs, ∃ ρ1, g x (wipeA ρ vs) = some ρ1 ∧ t ρ1 h = .ok (p x) h ∧ (p x = true → e ρ1 h = .ok (f x) h)) : lComp it g t e vs ρ h0 = .ok ((xs.filter p).map f) h := by
  unfold lComp bnd
  rw [hi]
  exact comp_pure p f hit hl step
/-- .. with no test -/
theorem lcomp_map {it : II} {items : Heap → Option (List AV)} {xs : List AV} {g : Tg} {e : EE} {vs : List Nat} {ρ : Env} {h0 h : Heap} (f : AV → AV) (hi : it ρ h0 = .ok items h) (hit : items h = some xs) (hl : xs.length ≤ 16777216)
    (step : ∀ x ∈ xs, ∃ ρ1, g x (wipeA ρ vs) = some ρ1 ∧ e ρ1 h = .ok (f x) h) : lComp it g tYes e vs ρ h0 = .ok (xs.map f) h := by
  rw [lcomp_pure (fun _ => true) f hi hit hl fun x hx => by obtain ⟨ρ1, a, b⟩ := step x hx; exact ⟨ρ1, a, rfl, fun _ => b⟩]
  rw [List.filter_eq_self.mpr (fun _ _ => rfl)]
/-- a dict comprehension that leaves the heap alone -/
theorem dc_run {items : Heap → Option (List AV)} {xs : List AV} {g : Tg} {ek ev : EE} {ρ : Env} {h : Heap} (fk fv : AV → AV) (hit : items h = some xs)
    (step : ∀ x ∈ xs, ∃ ρ1, g x ρ = some ρ1 ∧ ek ρ1 h = .ok (fk x) h ∧ ev ρ1 h = .ok (fv x) h ∧ isKey (fk x) = true) :
    ∀ (k i : Nat) (acc : List (AV × AV)), xs.length < k + i → i ≤ xs.length → acc.length ≤ i → xs.length ≤ 100000 → dcIter items g tYes ek ev ρ k i acc h = .ok ((xs.drop i).foldl (fun a x => dPut a (fk x) (fv x)) acc) h := by
  intro k
  induction k with
  | zero => intro i acc h1 h2 _ _; omega
  | succ k ih =>
    intro i acc h1 h2 h3 h4
    unfold dcIter
    rw [hit]
    dsimp only
    cases e : xs[i]? with
    | none =>
      rw [List.drop_eq_nil_of_le (List.getElem?_eq_none_iff.mp e)]
      rfl
    | some x =>
      obtain ⟨hlt, hx⟩ := List.getElem?_eq_some_iff.mp e
      obtain ⟨ρ1, a, b, c, d⟩ := step x (List.mem_of_getElem? e)
      dsimp only
      rw [a]
      dsimp only
      unfold tYes
      dsimp only
      rw [b]
      dsimp only
      rw [c]
      dsimp only
      rw [if_pos ⟨d, by omega⟩, List.drop_eq_getElem_cons hlt, hx]
      refine (ih (i + 1) _ (by omega) (by omega) ?_ h4).trans rfl
      unfold dPut
      split
      · rw [List.length_map]; omega
      · rw [List.length_append]; show acc.length + 1 ≤ _; omega
theorem dc_pure {it : II} {items : Heap → Option (List AV)} {xs : List AV} {g : Tg} {ek ev : EE} {vs : List Nat} {ρ : Env} {h : Heap} (fk fv : AV → AV) (hi : it ρ h = .ok items h) (hit : items h = some xs) (hl : xs.length ≤ 100000)
    (step : ∀ x ∈ xs, ∃ ρ1, g x (wipeA ρ vs) = some ρ1 ∧ ek ρ1 h = .ok (fk x) h ∧ ev ρ1 h = .ok (fv x) h ∧ isKey (fk x) = true) : eDc it g tYes ek ev vs ρ h = .ok (.loc h.length) (h ++ [.dct (xs.foldl (fun a x => dPut a (fk x) (fv x)) [])]) := by
  unfold eDc bnd
  rw [hi]
  dsimp only
  rw [dc_run fk fv hit step fuel 0 [] (by unfold fuel; omega) (Nat.zero_le _) (Nat.zero_le _) hl]
  rfl
theorem bls_all : ∀ (bs : List Bool), blsOf (bs.map .bl) = some bs
  | [] => rfl
  | b :: r => by show (blsOf (r.map .bl)).map (b :: ·) = _; rw [bls_all r]; rfl
theorem inF_str {s : Str} {os : List Str} : inF (.str s) (os.map .str) = decide (s ∈ os) := by
  unfold inF
  rw [List.any_map]
  induction os with
  | nil => rfl
  | cons y r ih =>
    rw [List.any_cons, ih]
    show ((y == s) || decide (s ∈ r)) = _
    by_cases z : y = s
    · subst z; simp
    · have z' : ¬ s = y := fun q => z q.symm
      simp [z, z']
theorem flat_strs (os : List Str) : (os.map AV.str).all flat = true := by
  rw [List.all_map]
  exact List.all_eq_true.mpr fun _ _ => rfl
theorem inF_in {s : Str} {os : List Str} (h : s ∈ os) : inF (.str s) (os.map .str) = true := by rw [inF_str]; exact decide_eq_true h
/-- == of data -/
theorem eqA_of {h : Heap} {x y : AV} {d e : PyData} (h1 : datH h 40 x = some d) (h2 : datH h 40 y = some e) (s1 : PySem.SeqAt.shaped d = true) (s2 : PySem.SeqAt.shaped e = true) : eqA h x y = some (PyData.eqv d e) := by
  unfold eqA
  rw [h1, h2]
  dsimp only
  rw [if_pos (by rw [s1, s2]; rfl)]
abbrev sok (x : Str) : Prop := PyData.strOk x = true
theorem shaped_str {a : Str} (h : sok a) : PySem.SeqAt.shaped (.str a) = true := by
  unfold PySem.SeqAt.shaped
  simp only [PyData.canLay0, PyData.depth, h]
  rfl
theorem eqA_str {h : Heap} {a b : Str} (ha : sok a) (hb : sok b) : eqA h (.str a) (.str b) = some (decide (a = b)) := (eqA_of (d := .str a) (e := .str b) rfl rfl (shaped_str ha) (shaped_str hb)).trans (by simp only [PyData.eqv]; congr 1)
theorem eqA_int {h : Heap} {a b : Int} : eqA h (.int a) (.int b) = some (decide (a = b)) := (eqA_of (d := .int a) (e := .int b) rfl rfl rfl rfl).trans (by simp only [PyData.eqv]; congr 1)
theorem eqA_same {h : Heap} {x y : AV} {d : PyData} (h1 : datH h 40 x = some d) (h2 : datH h 40 y = some d) (s1 : PySem.SeqAt.shaped d = true) : eqA h x y = some true := by
  rw [eqA_of h1 h2 s1 s1, PySem.SeqAt.eqv_refl d (PySem.SeqAt.canLay_of_shaped s1)]
theorem sok_append {a b : Str} (ha : sok a) (hb : sok b) : sok (a ++ b) := by
  unfold sok PyData.strOk at *
  show (a.cps ++ b.cps).all _ = true
  rw [Array.all_append, ha, hb]; rfl
theorem sok_join {s : Str} (hs : sok s) : ∀ xs : List Str, (∀ x ∈ xs, sok x) → sok (Str.join s xs)
  | [], _ => (by decide +kernel : PyData.strOk Str.empty = true)
  | [x], h => h x (List.mem_singleton.mpr rfl)
  | x :: y :: r, h => sok_append (sok_append (h x List.mem_cons_self) hs) (sok_join hs (y :: r) fun z hz => h z (List.mem_cons_of_mem _ hz))
theorem txt_join (s : Str) (xs : List Str) : PySem.Txt.join s xs = Str.join s xs := PySem.StrLaws.glued_eq_join s xs
end PA
/-! EvS: each construct at a heap, for simp. -/
namespace PA
open PySem (Str PyData)
@[simp] theorem ofString_inj {s t : String} : (Str.ofString s = Str.ofString t) ↔ s = t := by
  constructor
  · intro h
    rw [Str.ofString_eq_toList, Str.ofString_eq_toList] at h
    have h1 : s.toList.map Char.toNat = t.toList.map Char.toNat := by
      have := congrArg (fun x : Str => x.cps.toList) h
      simpa using this
    have h2 : s.toList = t.toList := by
      refine List.map_inj_right (f := Char.toNat) ?_ |>.mp h1
      intro a b e
      exact Char.toNat_inj.mp e
    exact String.toList_inj.mp h2
  · intro h; rw [h]
@[simp] theorem beq_ofString {s t : String} : (Str.ofString s == Str.ofString t) = (s == t) := by
  rw [Bool.eq_iff_iff, beq_iff_eq, beq_iff_eq]
  exact ofString_inj
@[simp] theorem lookup_nil {k : Str} : List.lookup k ([] : List (Str × AV)) = none := rfl
@[simp] theorem lookup_cons {k a : Str} {v : AV} {r : List (Str × AV)} : List.lookup k ((a, v) :: r) = if k == a then some v else List.lookup k r := by
  rw [List.lookup_cons]
  cases k == a <;> rfl
@[simp] theorem lg_0 : Nat.log2 0 < 1920 := by decide +kernel
@[simp] theorem lg_1 : Nat.log2 1 < 1920 := by decide +kernel
@[simp] theorem lg_2 : Nat.log2 2 < 1920 := by decide +kernel
@[simp] theorem lg_3 : Nat.log2 3 < 1920 := by decide +kernel
def ts (i : Int) : Str := (toString i : String)
@[simp] theorem flat_non : flat .non = true := rfl
@[simp] theorem flat_bl {b : Bool} : flat (.bl b) = true := rfl
@[simp] theorem flat_int {b : Int} : flat (.int b) = true := rfl
@[simp] theorem flat_str {b : Str} : flat (.str b) = true := rfl
section
variable {α β : Type} {ρ : Env} {h : Heap}
@[simp] theorem szl_eq : szl = 16777216 := rfl
@[simp] theorem ev_bnd {m : Heap → Res α} {k : α → Heap → Res β} : bnd m k h = match m h with
  | .ok a h' => k a h'
  | .exc e h' => .exc e h'
  | .bad => .bad := rfl
@[simp] theorem ev_var {i : Nat} : eVar i ρ h = match ρ[i]? with
  | some (some v) => .ok v h
  | _ => .bad := rfl
@[simp] theorem ev_C {v : AV} : eC v ρ h = .ok v h := rfl
@[simp] theorem ev_lNil : lNil ρ h = .ok [] h := rfl
@[simp] theorem ev_lCons {e : EE} {l : LL} : lCons e l ρ h = match e ρ h with
  | .ok v h1 => (match l ρ h1 with
    | .ok vs h2 => .ok (v :: vs) h2
    | .exc x h2 => .exc x h2
    | .bad => .bad)
  | .exc x h1 => .exc x h1
  | .bad => .bad := by
  unfold lCons bnd
  cases e ρ h with
  | ok v h1 =>
    dsimp only
    cases l ρ h1 <;> rfl
  | _ => rfl
@[simp] theorem ev_lStar {e : EE} {l : LL} : lStar e l ρ h = match e ρ h with
  | .ok v h1 => (match seqOf h1 v with
    | some xs => (match l ρ h1 with
      | .ok vs h2 => .ok (xs ++ vs) h2
      | .exc x h2 => .exc x h2
      | .bad => .bad)
    | none => .bad)
  | .exc x h1 => .exc x h1
  | .bad => .bad := by
  unfold lStar bnd
  cases e ρ h with
  | ok v h1 =>
    dsimp only
    cases seqOf h1 v with
    | none => rfl
    | some xs =>
      dsimp only
      cases l ρ h1 <;> rfl
  | _ => rfl
@[simp] theorem ev_tup {l : LL} : eTup l ρ h = match l ρ h with
  | .ok vs h1 => if vs.length ≤ 16777216 then .ok (.tup vs) h1 else .bad
  | .exc x h1 => .exc x h1
  | .bad => .bad := by
  unfold eTup bnd
  cases l ρ h <;> rfl
@[simp] theorem ev_lst {l : LL} : eLst l ρ h = match l ρ h with
  | .ok vs h1 => if vs.length ≤ 16777216 then .ok (.loc h1.length) (h1 ++ [.lst vs]) else .bad
  | .exc x h1 => .exc x h1
  | .bad => .bad := by
  unfold eLst bnd
  cases l ρ h <;> rfl
@[simp] theorem ev_bin {o : O2} {a b : EE} : eBin o a b ρ h = match a ρ h with
  | .ok x h1 => (match b ρ h1 with
    | .ok y h2 => o x y h2
    | .exc x h2 => .exc x h2
    | .bad => .bad)
  | .exc x h1 => .exc x h1
  | .bad => .bad := by
  unfold eBin bnd
  cases a ρ h with
  | ok v h1 =>
    dsimp only
    cases b ρ h1 <;> rfl
  | _ => rfl
@[simp] theorem ev_tB {e : EE} : tB e ρ h = match e ρ h with
  | .ok (.bl b) h1 => .ok b h1
  | .exc x h1 => .exc x h1
  | _ => .bad := by
  unfold tB bnd
  cases e ρ h with
  | ok v h1 => cases v <;> rfl
  | _ => rfl
@[simp] theorem ev_tNot {t : BB} : tNot t ρ h = match t ρ h with
  | .ok b h1 => .ok (!b) h1
  | .exc x h1 => .exc x h1
  | .bad => .bad := by
  unfold tNot bnd
  cases t ρ h <;> rfl
@[simp] theorem ev_tAnd {t u : BB} : tAnd t u ρ h = match t ρ h with
  | .ok true h1 => u ρ h1
  | .ok false h1 => .ok false h1
  | .exc x h1 => .exc x h1
  | .bad => .bad := by
  unfold tAnd bnd
  cases t ρ h with
  | ok v h1 => cases v <;> rfl
  | _ => rfl
@[simp] theorem ev_tOr {t u : BB} : tOr t u ρ h = match t ρ h with
  | .ok true h1 => .ok true h1
  | .ok false h1 => u ρ h1
  | .exc x h1 => .exc x h1
  | .bad => .bad := by
  unfold tOr bnd
  cases t ρ h with
  | ok v h1 => cases v <;> rfl
  | _ => rfl
@[simp] theorem ev_tYes : tYes ρ h = .ok true h := rfl
@[simp] theorem ev_not {e : EE} : eNot e ρ h = match e ρ h with
  | .ok (.bl b) h1 => .ok (.bl (!b)) h1
  | .exc x h1 => .exc x h1
  | _ => .bad := by
  unfold eNot bnd
  cases e ρ h with
  | ok v h1 => cases v <;> rfl
  | _ => rfl
@[simp] theorem ev_and {a b : EE} : eAnd a b ρ h = match a ρ h with
  | .ok (.bl true) h1 => b ρ h1
  | .ok (.bl false) h1 => .ok (.bl false) h1
  | .exc x h1 => .exc x h1
  | _ => .bad := by
  unfold eAnd bnd
  cases a ρ h with
  | ok v h1 => cases v with
    | bl b => cases b <;> rfl
    | _ => rfl
  | _ => rfl
@[simp] theorem ev_or {a b : EE} : eOr a b ρ h = match a ρ h with
  | .ok (.bl true) h1 => .ok (.bl true) h1
  | .ok (.bl false) h1 => b ρ h1
  | .exc x h1 => .exc x h1
  | _ => .bad := by
  unfold eOr bnd
  cases a ρ h with
  | ok v h1 => cases v with
    | bl b => cases b <;> rfl
    | _ => rfl
  | _ => rfl
@[simp] theorem ev_if {t : BB} {a b : EE} : eIf t a b ρ h = match t ρ h with
  | .ok true h1 => a ρ h1
  | .ok false h1 => b ρ h1
  | .exc x h1 => .exc x h1
  | .bad => .bad := by
  unfold eIf bnd
  cases t ρ h with
  | ok v h1 => cases v <;> rfl
  | _ => rfl
@[simp] theorem ev_chain {o o' : O2} {a b c : EE} : eChain o o' a b c ρ h = match a ρ h with
  | .ok x h1 => (match b ρ h1 with
    | .ok y h2 => (match o x y h2 with
      | .ok (.bl true) h3 => (match c ρ h3 with
        | .ok z h4 => o' y z h4
        | .exc x h4 => .exc x h4
        | .bad => .bad)
      | .ok (.bl false) h3 => .ok (.bl false) h3
      | .exc x h3 => .exc x h3
      | _ => .bad)
    | .exc x h2 => .exc x h2
    | .bad => .bad)
  | .exc x h1 => .exc x h1
  | .bad => .bad := by
  unfold eChain bnd
  cases a ρ h with
  | ok x h1 =>
    dsimp only
    cases b ρ h1 with
    | ok y h2 =>
      dsimp only
      cases o x y h2 with
      | ok v h3 => cases v with
        | bl b =>
          cases b with
          | false => rfl
          | true =>
            dsimp only
            cases c ρ h3 <;> rfl
        | _ => rfl
      | _ => rfl
    | _ => rfl
  | _ => rfl
@[simp] theorem ev_attr {c : String} {f : Str} {e : EE} : eAttr c f e ρ h = match e ρ h with
  | .ok (.loc l) h1 => (match h1[l]? with
    | some (.ins c' fs) => if c' = c then (match fs.lookup f with
      | some x => .ok x h1
      | none => .bad) else .bad
    | _ => .bad)
  | .exc x h1 => .exc x h1
  | _ => .bad := by
  unfold eAttr bnd
  cases e ρ h with
  | ok v h1 => cases v <;> rfl
  | _ => rfl
@[simp] theorem ev_call {F : FF} {l : LL} : eCall F l ρ h = match l ρ h with
  | .ok vs h1 => F vs h1
  | .exc x h1 => .exc x h1
  | .bad => .bad := by
  unfold eCall bnd
  cases l ρ h <;> rfl
@[simp] theorem ev_meth {c : String} {m : Str} {F : FF} {e : EE} {l : LL} : eMeth c m F e l ρ h = match e ρ h with
  | .ok v h1 => if (isIns c h1 v && noFld m h1 v) = true then (match l ρ h1 with
    | .ok vs h2 => F (v :: vs) h2
    | .exc x h2 => .exc x h2
    | .bad => .bad) else .bad
  | .exc x h1 => .exc x h1
  | .bad => .bad := by
  unfold eMeth bnd
  cases e ρ h with
  | ok v h1 =>
    dsimp only
    split
    · cases l ρ h1 <;> rfl
    · rfl
  | _ => rfl
@[simp] theorem ev_methS {c : String} {F : FF} {e : EE} {l : LL} : eMethS c F e l ρ h = match e ρ h with
  | .ok v h1 => if isIns c h1 v = true then (match l ρ h1 with
    | .ok vs h2 => F (v :: vs) h2
    | .exc x h2 => .exc x h2
    | .bad => .bad) else .bad
  | .exc x h1 => .exc x h1
  | .bad => .bad := by
  unfold eMethS bnd
  cases e ρ h with
  | ok v h1 =>
    dsimp only
    split
    · cases l ρ h1 <;> rfl
    · rfl
  | _ => rfl
@[simp] theorem ev_prop {c : String} {F : FF} {e : EE} : eProp c F e ρ h = match e ρ h with
  | .ok v h1 => if isIns c h1 v = true then noExc (F [v] h1) else .bad
  | .exc x h1 => .exc x h1
  | .bad => .bad := by
  unfold eProp bnd
  cases e ρ h <;> rfl
@[simp] theorem noExc_ok {a : α} : noExc (.ok a h) = .ok a h := rfl
@[simp] theorem ev_make {c : String} {F : FF} {l : LL} : eMake c F l ρ h = match l ρ h with
  | .ok vs h1 => (match F (.loc h1.length :: vs) (h1 ++ [.ins c []]) with
    | .ok .non h' => .ok (.loc h1.length) h'
    | .ok _ _ => .bad
    | .exc e h' => .exc e h'
    | .bad => .bad)
  | .exc x h1 => .exc x h1
  | .bad => .bad := by
  unfold eMake bnd
  cases l ρ h with
  | ok vs h1 =>
    dsimp only <;> (cases F (.loc h1.length :: vs) (h1 ++ [.ins c []]) with
      | ok v h2 => cases v <;> rfl
      | _ => rfl)
  | _ => rfl
@[simp] theorem ev_newD : eNewD ρ h = .ok (.loc h.length) (h ++ [.dct []]) := rfl
@[simp] theorem isIns_loc {c : String} {l : Nat} : isIns c h (.loc l) = match h[l]? with
    | some (.ins c' _) => decide (c' = c)
    | _ => false := rfl
@[simp] theorem noFld_loc {m : Str} {l : Nat} : noFld m h (.loc l) = match h[l]? with
    | some (.ins _ fs) => (fs.lookup m).isNone
    | _ => false := rfl
@[simp] theorem get_app {g : Heap} {l : Nat} (e : (h[l]?).isSome = true) : (h ++ g)[l]? = h[l]? := by
  cases z : h[l]? with
  | none => rw [z] at e; cases e
  | some o => rw [List.getElem?_append_left (lt_of_at z)]; exact z
@[simp] theorem get_len {g : Heap} : (h ++ g)[h.length]? = g[0]? := by rw [List.getElem?_append_right (Nat.le_refl _), Nat.sub_self]
@[simp] theorem get_len1 {g : Heap} {i : Nat} : (h ++ g)[h.length + i]? = g[i]? := by rw [List.getElem?_append_right (Nat.le_add_right _ _), Nat.add_sub_cancel_left]
@[simp] theorem get_set {l : Nat} {o : AO} (e : (h[l]?).isSome = true) : (h.set l o)[l]? = some o := by
  cases z : h[l]? with
  | none => rw [z] at e; cases e
  | some p => exact at_set z
@[simp] theorem set_app {g : Heap} {o : AO} : (h ++ g).set h.length o = h ++ g.set 0 o := by rw [List.set_append_right _ _ (Nat.le_refl _), Nat.sub_self]
@[simp] theorem set_app1 {g : Heap} {i : Nat} {o : AO} : (h ++ g).set (h.length + i) o = h ++ g.set i o := by rw [List.set_append_right _ _ (Nat.le_add_right _ _), Nat.add_sub_cancel_left]
/-! operators -/
@[simp] theorem o_addII {i j : Int} : oAdd (.int i) (.int j) h = .ok (.int (i + j)) h := rfl
@[simp] theorem o_addSS {s t : Str} : oAdd (.str s) (.str t) h = if s.length + t.length ≤ 16777216 then .ok (.str (s ++ t)) h else .bad := rfl
@[simp] theorem o_addTT {xs ys : List AV} : oAdd (.tup xs) (.tup ys) h = if xs.length + ys.length ≤ 16777216 then .ok (.tup (xs ++ ys)) h else .bad := rfl
@[simp] theorem o_addLL {a b : Nat} : oAdd (.loc a) (.loc b) h = match h[a]?, h[b]? with
    | some (.lst xs), some (.lst ys) => if xs.length + ys.length ≤ 16777216 then .ok (.loc h.length) (h ++ [.lst (xs ++ ys)]) else .bad
    | _, _ => .bad := rfl
@[simp] theorem o_addI {i j : Int} : oAddI (.int i) (.int j) h = .ok (.int (i + j)) h := rfl
@[simp] theorem o_sub {i j : Int} : oSub (.int i) (.int j) h = .ok (.int (i - j)) h := rfl
@[simp] theorem o_mulII {i j : Int} : oMul (.int i) (.int j) h = if (-(2 ^ 64) < i ∧ i < 2 ^ 64) ∨ (-(2 ^ 64) < j ∧ j < 2 ^ 64) then .ok (.int (i * j)) h else .bad := rfl
@[simp] theorem o_mulSI {s : Str} {j : Int} : oMul (.str s) (.int j) h = if 0 ≤ j ∧ j ≤ 1000 ∧ s.length ≤ 1000 then .ok (.str (PySem.Txt.mul s j)) h else .bad := rfl
@[simp] theorem o_mod {i j : Int} : oMod (.int i) (.int j) h = if 0 < j then .ok (.int (i % j)) h else .bad := rfl
@[simp] theorem o_div {i j : Int} : oDiv (.int i) (.int j) h = if 0 < j ∧ j < 1073741824 then .ok (.int (i / j)) h else .bad := rfl
@[simp] theorem o_pow {i j : Int} : oPow (.int i) (.int j) h = if 0 ≤ j ∧ j ≤ 1000 ∧ -1000 ≤ i ∧ i ≤ 1000 then .ok (.int (i ^ j.toNat)) h else .bad := rfl
@[simp] theorem o_eq {x y : AV} : oEq x y h = match eqA h x y with
  | some b => .ok (.bl b) h
  | none => .bad := rfl
@[simp] theorem o_ne {x y : AV} : oNe x y h = match eqA h x y with
  | some b => .ok (.bl (!b)) h
  | none => .bad := rfl
@[simp] theorem o_lt {i j : Int} : oLt (.int i) (.int j) h = .ok (.bl (decide (i < j))) h := rfl
@[simp] theorem o_le {i j : Int} : oLe (.int i) (.int j) h = .ok (.bl (decide (i ≤ j))) h := rfl
@[simp] theorem o_gt {i j : Int} : oGt (.int i) (.int j) h = .ok (.bl (decide (j < i))) h := rfl
@[simp] theorem o_ge {i j : Int} : oGe (.int i) (.int j) h = .ok (.bl (decide (j ≤ i))) h := rfl
@[simp] theorem o_isN {x : AV} : oIsN x .non h = .ok (.bl x.isNon) h := rfl
@[simp] theorem o_notN {x : AV} : oNotN x .non h = .ok (.bl (!x.isNon)) h := rfl
@[simp] theorem isNon_non : AV.isNon .non = true := rfl
@[simp] theorem isNon_int {i : Int} : AV.isNon (.int i) = false := rfl
@[simp] theorem o_ix {x : AV} {i : Int} : oIx x (.int i) h = match seqOf h x with
    | some xs => (match atI xs i with
      | some v => .ok v h
      | none => .bad)
    | none => .bad := rfl
theorem atI_nat {xs : List AV} (n : Nat) : atI xs (n : Int) = xs[n]? := by
  unfold atI ixN
  rw [if_pos (Int.natCast_nonneg n)]
  by_cases h : (n : Int) < xs.length
  · rw [if_pos h]; rfl
  · rw [if_neg h]
    exact (List.getElem?_eq_none_iff.mpr (by omega)).symm
@[simp] theorem atI_0 {xs : List AV} : atI xs 0 = xs[0]? := atI_nat 0
@[simp] theorem atI_1 {xs : List AV} : atI xs 1 = xs[1]? := atI_nat 1
@[simp] theorem atI_2 {xs : List AV} : atI xs 2 = xs[2]? := atI_nat 2
@[simp] theorem atI_3 {xs : List AV} : atI xs 3 = xs[3]? := atI_nat 3
@[simp] theorem atI_4 {xs : List AV} : atI xs 4 = xs[4]? := atI_nat 4
@[simp] theorem atI_5 {xs : List AV} : atI xs 5 = xs[5]? := atI_nat 5
theorem atI_in {xs : List AV} {i : Int} (h0 : 0 ≤ i) (h1 : i < xs.length) : ∃ v, atI xs i = some v ∧ xs[i.toNat]? = some v := by
  have e : i = (i.toNat : Int) := (Int.toNat_of_nonneg h0).symm
  have hl : i.toNat < xs.length := by omega
  have e2 : atI xs i = xs[i.toNat]? := by
    conv => lhs; rw [e]
    exact atI_nat _
  exact ⟨xs[i.toNat], e2.trans (List.getElem?_eq_getElem hl), List.getElem?_eq_getElem hl⟩
theorem ixN_nat {n k : Nat} (h : k < n) : ixN n (k : Int) = some k := by
  unfold ixN
  rw [if_pos (Int.natCast_nonneg k), if_pos (by omega)]
  rfl
theorem ixN_in {n : Nat} {i : Int} (h0 : 0 ≤ i) (h1 : i < n) : ixN n i = some i.toNat := by
  unfold ixN
  rw [if_pos h0, if_pos h1]
@[simp] theorem ixN_0 {n : Nat} : ixN n 0 = if 0 < n then some 0 else none := by
  by_cases h : 0 < n
  · rw [if_pos h]; exact ixN_nat h
  · rw [if_neg h]; unfold ixN; rw [if_pos (by decide), if_neg (by omega)]
@[simp] theorem ixN_1 {n : Nat} : ixN n 1 = if 1 < n then some 1 else none := by
  by_cases h : 1 < n
  · rw [if_pos h]; exact ixN_nat h
  · rw [if_neg h]; unfold ixN; rw [if_pos (by decide), if_neg (by omega)]
@[simp] theorem ixN_2 {n : Nat} : ixN n 2 = if 2 < n then some 2 else none := by
  by_cases h : 2 < n
  · rw [if_pos h]; exact ixN_nat h
  · rw [if_neg h]; unfold ixN; rw [if_pos (by decide), if_neg (by omega)]
@[simp] theorem ixN_3 {n : Nat} : ixN n 3 = if 3 < n then some 3 else none := by
  by_cases h : 3 < n
  · rw [if_pos h]; exact ixN_nat h
  · rw [if_neg h]; unfold ixN; rw [if_pos (by decide), if_neg (by omega)]
@[simp] theorem ixN_4 {n : Nat} : ixN n 4 = if 4 < n then some 4 else none := by
  by_cases h : 4 < n
  · rw [if_pos h]; exact ixN_nat h
  · rw [if_neg h]; unfold ixN; rw [if_pos (by decide), if_neg (by omega)]
@[simp] theorem ixN_5 {n : Nat} : ixN n 5 = if 5 < n then some 5 else none := by
  by_cases h : 5 < n
  · rw [if_pos h]; exact ixN_nat h
  · rw [if_neg h]; unfold ixN; rw [if_pos (by decide), if_neg (by omega)]
@[simp] theorem seq_tup {xs : List AV} : seqOf h (.tup xs) = some xs := rfl
@[simp] theorem seq_loc {l : Nat} : seqOf h (.loc l) = match h[l]? with
    | some (.lst xs) => some xs
    | _ => none := rfl
@[simp] theorem o_in {x y : AV} : oIn x y h = match seqOf h y with
  | some xs => if (flat x && xs.all flat) = true then .ok (.bl (inF x xs)) h else .bad
  | none => .bad := rfl
@[simp] theorem o_notin {x y : AV} : oNotIn x y h = match seqOf h y with
  | some xs => if (flat x && xs.all flat) = true then .ok (.bl (!inF x xs)) h else .bad
  | none => .bad := rfl
@[simp] theorem dctOf_loc {l : Nat} : dctOf h (.loc l) = match h[l]? with
    | some (.dct kvs) => some kvs
    | some (.lck kvs) => some kvs
    | _ => none := rfl
@[simp] theorem o_dget {x y : AV} : oDGet x y h = match dctOf h x with
  | some kvs => if isKey y = true then (match dGet kvs y with
    | some v => .ok v h
    | none => .bad) else .bad
  | none => .bad := rfl
@[simp] theorem o_din {x y : AV} : oDIn y x h = match dctOf h x with
  | some kvs => if isKey y = true then .ok (.bl (dGet kvs y).isSome) h else .bad
  | none => .bad := rfl
@[simp] theorem o_dnotin {x y : AV} : oDNotIn y x h = match dctOf h x with
  | some kvs => if isKey y = true then .ok (.bl (!(dGet kvs y).isSome)) h else .bad
  | none => .bad := rfl
@[simp] theorem o_kget {kvs : List (Str × AV)} {x : AV} {z : Str} : oKGet kvs x (.str z) h = match kvs.lookup z with
    | some v => .ok v h
    | none => .bad := rfl
@[simp] theorem isKey_str {s : Str} : isKey (.str s) = true := rfl
@[simp] theorem isKey_int {s : Int} : isKey (.int s) = true := rfl
/-! built-ins -/
@[simp] theorem b_isi {x : AV} {T : String} : bIsi [x, .ty T] h = match tyOf h x with
    | some t => if (["int", "bool", "str", "tuple", "dict", "list"].contains T) = true then .ok (.bl (t == T || (t == "bool" && T == "int"))) h else .bad
    | none => .bad := rfl
@[simp] theorem ty_non : tyOf h .non = some "NoneType" := rfl
@[simp] theorem ty_bl {b : Bool} : tyOf h (.bl b) = some "bool" := rfl
@[simp] theorem ty_int {b : Int} : tyOf h (.int b) = some "int" := rfl
@[simp] theorem ty_str {b : Str} : tyOf h (.str b) = some "str" := rfl
@[simp] theorem ty_tup {b : List AV} : tyOf h (.tup b) = some "tuple" := rfl
@[simp] theorem ty_loc {l : Nat} : tyOf h (.loc l) = match h[l]? with
    | some (.lst _) => some "list"
    | some (.dct _) => some "dict"
    | some (.lck _) => some "dict"
    | _ => none := rfl
@[simp] theorem b_lenS {s : Str} : bLen [.str s] h = if s.length ≤ 16777216 then .ok (.int s.length) h else .bad := rfl
@[simp] theorem b_lenT {xs : List AV} : bLen [.tup xs] h = .ok (.int xs.length) h := rfl
@[simp] theorem b_lenL {l : Nat} : bLen [.loc l] h = match seqOf h (.loc l) with
    | some xs => .ok (.int xs.length) h
    | none => (match dctU h (.loc l) with
      | some kvs => .ok (.int kvs.length) h
      | none => .bad) := rfl
@[simp] theorem dctU_loc {l : Nat} : dctU h (.loc l) = match h[l]? with
    | some (.dct kvs) => some kvs
    | _ => none := rfl
@[simp] theorem b_intI {i : Int} : bInt [.int i] h = .ok (.int i) h := rfl
@[simp] theorem b_intB {b : Bool} : bInt [.bl b] h = .ok (.int (if b then 1 else 0)) h := rfl
@[simp] theorem b_strI {i : Int} : bStrI [.int i] h = if i.natAbs.log2 < 1920 then .ok (.str (ts i)) h else .bad := rfl
@[simp] theorem b_max2 {i j : Int} : bMax2 [.int i, .int j] h = .ok (.int (if j > i then j else i)) h := rfl
@[simp] theorem b_tuple {x : AV} : bTuple [x] h = match seqOf h x with
    | some xs => .ok (.tup xs) h
    | none => .bad := rfl
@[simp] theorem b_list {x : AV} : bList [x] h = match seqOf h x with
    | some xs => .ok (.loc h.length) (h ++ [.lst xs])
    | none => .bad := rfl
@[simp] theorem b_listS {ns : List Int} : bListS ns [.gl "#s"] h = .ok (.loc h.length) (h ++ [.lst (ns.map .int)]) := rfl
@[simp] theorem b_isC {c : String} {x : AV} : bIsC c [x, .gl c] h = if isIns c h x = true then .ok (.bl true) h else match tyOf h x with
    | some _ => .ok (.bl false) h
    | none => .bad := by
  show (if c = c then _ else _) = _
  rw [if_pos rfl] <;> rfl
@[simp] theorem b_intS {val : Str → Option Int} {z : Str} : bIntS val [.str z] h = match val z with
    | some n => .ok (.int n) h
    | none => .bad := rfl
@[simp] theorem b_dict {x : AV} : bDict [x] h = match dctOf h x with
    | some kvs => .ok (.loc h.length) (h ++ [.dct kvs])
    | none => .bad := rfl
@[simp] theorem m_append {l : Nat} {y : AV} : mAppend (.loc l) [y] h = match h[l]? with
    | some (.lst xs) => if xs.length < 16777216 then .ok .non (h.set l (.lst (xs ++ [y]))) else .bad
    | _ => .bad := rfl
@[simp] theorem m_extend {l k : Nat} : mExtend (.loc l) [.loc k] h = match h[l]?, h[k]? with
    | some (.lst xs), some (.lst ys) => if xs.length + ys.length ≤ 16777216 then .ok .non (h.set l (.lst (xs ++ ys))) else .bad
    | _, _ => .bad := rfl
@[simp] theorem m_extendT {l : Nat} {ys : List AV} : mExtendT (.loc l) ys h = match h[l]? with
    | some (.lst xs) => if xs.length + ys.length ≤ 16777216 then .ok .non (h.set l (.lst (xs ++ ys))) else .bad
    | _ => .bad := rfl
@[simp] theorem isLst_loc {l : Nat} : isLst h (.loc l) = match h[l]? with
    | some (.lst _) => true
    | _ => false := rfl
@[simp] theorem isDct_loc {l : Nat} : isDct h (.loc l) = match h[l]? with
    | some (.dct _) => true
    | _ => false := rfl
@[simp] theorem m_upd {l k : Nat} : mUpd (.loc l) [.loc k] h = if l = k then .bad else match h[l]?, h[k]? with
    | some (.dct xs), some (.dct ys) => if xs.length + ys.length ≤ 100000 then .ok .non (h.set l (.dct (ys.foldl (fun acc p => dPut acc p.1 p.2) xs))) else .bad
    | _, _ => .bad := rfl
@[simp] theorem ev_lm {M : MM} {o : EE} {l : LL} : eLm M o l ρ h = match o ρ h with
  | .ok x h1 => if isLst h1 x = true then (match l ρ h1 with
    | .ok vs h2 => M x vs h2
    | .exc x h2 => .exc x h2
    | .bad => .bad) else .bad
  | .exc x h1 => .exc x h1
  | .bad => .bad := by
  unfold eLm bnd
  cases o ρ h with
  | ok v h1 =>
    dsimp only
    split
    · cases l ρ h1 <;> rfl
    · rfl
  | _ => rfl
@[simp] theorem ev_dm {M : MM} {o : EE} {l : LL} : eDm M o l ρ h = match o ρ h with
  | .ok x h1 => if isDct h1 x = true then (match l ρ h1 with
    | .ok vs h2 => M x vs h2
    | .exc x h2 => .exc x h2
    | .bad => .bad) else .bad
  | .exc x h1 => .exc x h1
  | .bad => .bad := by
  unfold eDm bnd
  cases o ρ h with
  | ok v h1 =>
    dsimp only
    split
    · cases l ρ h1 <;> rfl
    · rfl
  | _ => rfl
@[simp] theorem ev_extT {o : EE} {l : LL} : eExtT o l ρ h = match o ρ h with
  | .ok x h1 => if isLst h1 x = true then (match l ρ h1 with
    | .ok vs h2 => mExtendT x vs h2
    | .exc x h2 => .exc x h2
    | .bad => .bad) else .bad
  | .exc x h1 => .exc x h1
  | .bad => .bad := by
  unfold eExtT bnd
  cases o ρ h with
  | ok v h1 =>
    dsimp only
    split
    · cases l ρ h1 <;> rfl
    · rfl
  | _ => rfl
@[simp] theorem ev_keep {l : LL} : eKeep l ρ h = match l ρ h with
  | .ok vs h1 => .ok (.loc h1.length) (h1 ++ [.lst vs])
  | .exc x h1 => .exc x h1
  | .bad => .bad := by
  unfold eKeep bnd
  cases l ρ h <;> rfl
@[simp] theorem ev_tupOf {l : LL} : eTupOf l ρ h = match l ρ h with
  | .ok vs h1 => .ok (.tup vs) h1
  | .exc x h1 => .exc x h1
  | .bad => .bad := by
  unfold eTupOf bnd
  cases l ρ h <;> rfl
@[simp] theorem ev_allOf {l : LL} : eAllOf l ρ h = match l ρ h with
  | .ok vs h1 => (match blsOf vs with
    | some bs => .ok (.bl (bs.all id)) h1
    | none => .bad)
  | .exc x h1 => .exc x h1
  | .bad => .bad := by
  unfold eAllOf bnd
  cases l ρ h <;> rfl
@[simp] theorem ev_anyOf {l : LL} : eAnyOf l ρ h = match l ρ h with
  | .ok vs h1 => (match blsOf vs with
    | some bs => .ok (.bl (bs.any id)) h1
    | none => .bad)
  | .exc x h1 => .exc x h1
  | .bad => .bad := by
  unfold eAnyOf bnd
  cases l ρ h <;> rfl
@[simp] theorem ev_lDisp {l : LL} : lDisp l ρ h = match l ρ h with
  | .ok vs h1 => if vs.length ≤ 16777216 then .ok vs h1 else .bad
  | .exc x h1 => .exc x h1
  | .bad => .bad := by
  unfold lDisp bnd
  cases l ρ h <;> rfl
@[simp] theorem ev_lOf {e : EE} : lOf e ρ h = match e ρ h with
  | .ok v h1 => (match seqOf h1 v with
    | some xs => .ok xs h1
    | none => .bad)
  | .exc x h1 => .exc x h1
  | .bad => .bad := by
  unfold lOf bnd
  cases e ρ h <;> rfl
@[simp] theorem ev_lDct0 : lDct [] ρ h = .ok [] h := rfl
@[simp] theorem ev_lDct {k : Str} {e : EE} {r : List (Str × EE)} : lDct ((k, e) :: r) ρ h = match e ρ h with
  | .ok v h1 => (match lDct r ρ h1 with
    | .ok vs h2 => .ok ((k, v) :: vs) h2
    | .exc x h2 => .exc x h2
    | .bad => .bad)
  | .exc x h1 => .exc x h1
  | .bad => .bad := by
  conv => lhs; unfold lDct
  unfold bnd
  cases e ρ h with
  | ok v h1 =>
    dsimp only
    cases lDct r ρ h1 <;> rfl
  | _ => rfl
@[simp] theorem ev_disp {kes : List (Str × EE)} : eDisp kes ρ h = match lDct kes ρ h with
  | .ok ps h1 => .ok (.loc h1.length) (h1 ++ [.dct (ps.foldl (fun acc p => dPut acc (.str p.1) p.2) [])])
  | .exc x h1 => .exc x h1
  | .bad => .bad := by
  unfold eDisp bnd
  cases lDct kes ρ h <;> rfl
@[simp] theorem ev_join {o e : EE} : eJoin o e ρ h = match o ρ h with
  | .ok (.str a) h1 => (match e ρ h1 with
    | .ok y h2 => (match seqOf h2 y with
      | some xs => joinS a xs h2
      | none => .bad)
    | .exc x h2 => .exc x h2
    | .bad => .bad)
  | .exc x h1 => .exc x h1
  | _ => .bad := by
  unfold eJoin bnd
  cases o ρ h with
  | ok v h1 =>
    cases v with
    | str a =>
      dsimp only
      cases e ρ h1 <;> rfl
    | _ => rfl
  | _ => rfl
@[simp] theorem ev_joinT {o : EE} {l : LL} : eJoinT o l ρ h = match o ρ h with
  | .ok (.str a) h1 => (match l ρ h1 with
    | .ok xs h2 => joinS a xs h2
    | .exc x h2 => .exc x h2
    | .bad => .bad)
  | .exc x h1 => .exc x h1
  | _ => .bad := by
  unfold eJoinT bnd
  cases o ρ h with
  | ok v h1 =>
    cases v with
    | str a =>
      dsimp only
      cases l ρ h1 <;> rfl
    | _ => rfl
  | _ => rfl
theorem strs_map : ∀ (ys : List Str), strsOf (ys.map .str) = some ys
  | [] => rfl
  | y :: r => by show (strsOf (r.map .str)).map (y :: ·) = _; rw [strs_map r]; rfl
theorem joinS_ok {a : Str} {ys : List Str} (hb : (ys.map (·.length)).sum + ys.length * a.length ≤ 16777216) : joinS a (ys.map .str) h = .ok (.str (PySem.Txt.join a ys)) h := by
  unfold joinS
  rw [strs_map]
  dsimp only
  rw [if_pos hb]
@[simp] theorem ev_fmt {e : EE} : eFmt e ρ h = match e ρ h with
  | .ok (.str y) h1 => if y.length ≤ 16777216 then .ok (.str y) h1 else .bad
  | .ok (.int i) h1 => if i.natAbs.log2 < 1920 then .ok (.str (ts i)) h1 else .bad
  | .exc x h1 => .exc x h1
  | _ => .bad := by
  unfold eFmt bnd
  cases e ρ h with
  | ok v h1 => cases v <;> rfl
  | _ => rfl
@[simp] theorem ev_fj0 {acc : Str} : fJoin [] acc ρ h = .ok (.str acc) h := rfl
@[simp] theorem ev_fj {t : EE} {ts : List EE} {acc : Str} : fJoin (t :: ts) acc ρ h = match t ρ h with
  | .ok (.str y) h1 => if (acc ++ y).length ≤ 16777216 then fJoin ts (acc ++ y) ρ h1 else .bad
  | .exc x h1 => .exc x h1
  | _ => .bad := by
  conv => lhs; unfold fJoin
  unfold bnd
  cases t ρ h with
  | ok v h1 => cases v <;> rfl
  | _ => rfl
@[simp] theorem ev_fstr {ts : List EE} : eFStr ts ρ h = fJoin ts Str.empty ρ h := rfl
@[simp] theorem ev_split {o e : EE} : lSplit o e ρ h = match o ρ h with
  | .ok (.str a) h1 => (match e ρ h1 with
    | .ok (.str b) h2 => if (b.length == 0) = false ∧ a.length + 2 ≤ 16777216 then .ok ((PySem.Txt.split a b).map .str) h2 else .bad
    | .exc x h2 => .exc x h2
    | _ => .bad)
  | .exc x h1 => .exc x h1
  | _ => .bad := by
  unfold lSplit bnd
  cases o ρ h with
  | ok v h1 =>
    cases v with
    | str a =>
      dsimp only
      cases e ρ h1 with
      | ok w h2 => cases w <;> rfl
      | _ => rfl
    | _ => rfl
  | _ => rfl
@[simp] theorem ev_lenK {n : Nat} : eLenK n ρ h = .ok (.int n) h := rfl
/-! statements -/
@[simp] theorem sv_bnd {m : Env → Heap → Res α} {k : α → SS} : sBnd m k ρ h = match m ρ h with
  | .ok a h' => k a ρ h'
  | .exc e h' => .exc e ρ h'
  | .bad => .bad := rfl
@[simp] theorem sv_nil : sNil ρ h = .nx ρ h := rfl
@[simp] theorem sv_seq {a b : SS} : sSeq a b ρ h = match a ρ h with
  | .nx ρ' h' => b ρ' h'
  | .ret v h' => .ret v h'
  | .brk ρ' h' => .brk ρ' h'
  | .ct ρ' h' => .ct ρ' h'
  | .exc e ρ' h' => .exc e ρ' h'
  | .bad => .bad := by
  unfold sSeq
  cases a ρ h <;> rfl
@[simp] theorem sv_expr {e : EE} : sExpr e ρ h = match e ρ h with
  | .ok a h' => .nx ρ h'
  | .exc e h' => .exc e ρ h'
  | .bad => .bad := by
  unfold sExpr sBnd
  cases e ρ h <;> rfl
@[simp] theorem sv_ret {e : EE} : sRet e ρ h = match e ρ h with
  | .ok a h' => .ret a h'
  | .exc e h' => .exc e ρ h'
  | .bad => .bad := by
  unfold sRet sBnd
  cases e ρ h <;> rfl
@[simp] theorem sv_retN : sRetN ρ h = .ret .non h := rfl
@[simp] theorem sv_if {t : BB} {a b : SS} : sIf t a b ρ h = match t ρ h with
  | .ok true h1 => a ρ h1
  | .ok false h1 => b ρ h1
  | .exc x h1 => .exc x ρ h1
  | .bad => .bad := by
  unfold sIf sBnd
  cases t ρ h with
  | ok v h1 => cases v <;> rfl
  | _ => rfl
@[simp] theorem sv_set {i : Nat} {e : EE} : sSet i e ρ h = match e ρ h with
  | .ok v h1 => .nx (ρ.set i (some v)) h1
  | .exc x h1 => .exc x ρ h1
  | .bad => .bad := by
  unfold sSet sBnd
  cases e ρ h <;> rfl
@[simp] theorem sv_asg {g : Tg} {e : EE} : sAsg g e ρ h = match e ρ h with
  | .ok v h1 => (match g v ρ with
    | some ρ' => .nx ρ' h1
    | none => .bad)
  | .exc x h1 => .exc x ρ h1
  | .bad => .bad := by
  unfold sAsg sBnd
  cases e ρ h <;> rfl
@[simp] theorem g_name {i : Nat} {v : AV} : gName i v ρ = some (ρ.set i (some v)) := rfl
@[simp] theorem g_tup {is : List Nat} {xs : List AV} : gTup is (.tup xs) ρ = gNames is xs ρ := rfl
@[simp] theorem g_nil : gNames [] [] ρ = some ρ := rfl
@[simp] theorem g_cons {i : Nat} {is : List Nat} {v : AV} {vs : List AV} : gNames (i :: is) (v :: vs) ρ = gNames is vs (ρ.set i (some v)) := rfl
@[simp] theorem sv_bad : sBad ρ h = .bad := rfl
@[simp] theorem sv_attr {c : String} {o e : EE} {f : Str} : sAttr c o f e ρ h = match e ρ h with
  | .ok x h1 => (match o ρ h1 with
    | .ok (.loc l) h2 => (match h2[l]? with
      | some (.ins c' fs) => if c' = c ∧ fs.length < 100 then .nx ρ (h2.set l (.ins c (putF f x fs))) else .bad
      | _ => .bad)
    | .exc x h2 => .exc x ρ h2
    | _ => .bad)
  | .exc x h1 => .exc x ρ h1
  | .bad => .bad := by
  unfold sAttr sBnd
  cases e ρ h with
  | ok x h1 =>
    dsimp only
    cases o ρ h1 with
    | ok v h2 => cases v <;> rfl
    | _ => rfl
  | _ => rfl
@[simp] theorem sv_ix {o i e : EE} : sIx o i e ρ h = match e ρ h with
  | .ok x h1 => (match o ρ h1 with
    | .ok v h2 => (match i ρ h2 with
      | .ok k h3 => (match v, k with
        | .loc l, .int j => (match h3[l]? with
          | some (.lst xs) => (match ixN xs.length j with
            | some m => .nx ρ (h3.set l (.lst (xs.set m x)))
            | none => .bad)
          | _ => .bad)
        | _, _ => .bad)
      | .exc x h3 => .exc x ρ h3
      | .bad => .bad)
    | .exc x h2 => .exc x ρ h2
    | .bad => .bad)
  | .exc x h1 => .exc x ρ h1
  | .bad => .bad := by
  unfold sIx sBnd
  cases e ρ h with
  | ok x h1 =>
    dsimp only
    cases o ρ h1 with
    | ok v h2 =>
      dsimp only
      cases i ρ h2 with
      | ok k h3 => cases v <;> first | rfl | (cases k <;> rfl)
      | _ => rfl
    | _ => rfl
  | _ => rfl
@[simp] theorem sv_dput {o i e : EE} : sDPut o i e ρ h = match e ρ h with
  | .ok x h1 => (match o ρ h1 with
    | .ok v h2 => (match i ρ h2 with
      | .ok k h3 => (match v with
        | .loc l => (match h3[l]? with
          | some (.dct kvs) => if (isKey k = true ∧ kvs.length < 100000) then .nx ρ (h3.set l (.dct (dPut kvs k x))) else .bad
          | _ => .bad)
        | _ => .bad)
      | .exc x h3 => .exc x ρ h3
      | .bad => .bad)
    | .exc x h2 => .exc x ρ h2
    | .bad => .bad)
  | .exc x h1 => .exc x ρ h1
  | .bad => .bad := by
  unfold sDPut sBnd
  cases e ρ h with
  | ok x h1 =>
    dsimp only
    cases o ρ h1 with
    | ok v h2 =>
      dsimp only
      cases i ρ h2 with
      | ok k h3 => cases v <;> first | rfl | (cases k <;> rfl)
      | _ => rfl
    | _ => rfl
  | _ => rfl
@[simp] theorem sv_for {it : II} {g : Tg} {body : SS} : sFor it g body ρ h = match it ρ h with
  | .ok items h1 => sIter items g body fuel 0 ρ h1
  | .exc x h1 => .exc x ρ h1
  | .bad => .bad := by
  unfold sFor sBnd
  cases it ρ h <;> rfl
/-! what is walked -/
@[simp] theorem i_tup {e : EE} : iTup e ρ h = match e ρ h with
  | .ok (.tup xs) h1 => .ok (fun _ => some xs) h1
  | .exc x h1 => .exc x h1
  | _ => .bad := by
  unfold iTup bnd
  cases e ρ h with
  | ok v h1 => cases v <;> rfl
  | _ => rfl
@[simp] theorem i_loc {e : EE} : iLoc e ρ h = match e ρ h with
  | .ok (.loc l) h1 => (match h1[l]? with
    | some (.lst _) => .ok (fun h => lstOf h l) h1
    | _ => .bad)
  | .exc x h1 => .exc x h1
  | _ => .bad := by
  unfold iLoc bnd
  cases e ρ h with
  | ok v h1 => cases v <;> rfl
  | _ => rfl
@[simp] theorem i_enum {e : EE} : iEnum e ρ h = match e ρ h with
  | .ok (.loc l) h1 => (match h1[l]? with
    | some (.lst _) => .ok (fun h => (lstOf h l).map numbered) h1
    | _ => .bad)
  | .exc x h1 => .exc x h1
  | _ => .bad := by
  unfold iEnum bnd
  cases e ρ h with
  | ok v h1 => cases v <;> rfl
  | _ => rfl
@[simp] theorem i_enumT {e : EE} : iEnumT e ρ h = match e ρ h with
  | .ok (.tup xs) h1 => .ok (fun _ => some (numbered xs)) h1
  | .exc x h1 => .exc x h1
  | _ => .bad := by
  unfold iEnumT bnd
  cases e ρ h with
  | ok v h1 => cases v <;> rfl
  | _ => rfl
@[simp] theorem i_tmp {l : LL} : iTmp l ρ h = match l ρ h with
  | .ok xs h1 => .ok (fun _ => some xs) h1
  | .exc x h1 => .exc x h1
  | .bad => .bad := by
  unfold iTmp bnd
  cases l ρ h <;> rfl
@[simp] theorem i_keysK {ks : List Str} : iKeysK ks ρ h = .ok (fun _ => some (ks.map .str)) h := rfl
@[simp] theorem i_range0 {e : EE} : iRange0 e ρ h = match e ρ h with
  | .ok (.int j) h1 => if -(2 ^ 62) ≤ j ∧ j < 2 ^ 62 then .ok (fun _ => some (rangeL 0 j)) h1 else .bad
  | .exc x h1 => .exc x h1
  | _ => .bad := by
  unfold iRange0 bnd
  cases e ρ h with
  | ok v h1 => cases v <;> rfl
  | _ => rfl
@[simp] theorem i_range {lo hi : EE} : iRange lo hi ρ h = match lo ρ h with
  | .ok a h1 => (match hi ρ h1 with
    | .ok b h2 => (match a, b with
      | .int i, .int j => if -(2 ^ 62) ≤ i ∧ i < 2 ^ 62 ∧ -(2 ^ 62) ≤ j ∧ j < 2 ^ 62 then .ok (fun _ => some (rangeL i j)) h2 else .bad
      | _, _ => .bad)
    | .exc x h2 => .exc x h2
    | .bad => .bad)
  | .exc x h1 => .exc x h1
  | .bad => .bad := by
  unfold iRange bnd
  cases lo ρ h with
  | ok a h1 =>
    dsimp only
    cases hi ρ h1 with
    | ok b h2 => cases a <;> cases b <;> rfl
    | _ => rfl
  | _ => rfl
@[simp] theorem ev_run {ar n : Nat} {b : SS} {vs : List AV} (hl : vs.length = ar) : runF ar n b vs h = match b (vs.map some ++ List.replicate n none) h with
    | .nx _ h' => .ok .non h'
    | .ret v h' => .ok v h'
    | .exc e _ h' => .exc e h'
    | _ => .bad := by
  unfold runF
  rw [if_pos hl] <;> (cases b (vs.map some ++ List.replicate n none) h <;> rfl)
/-- a walk of written items -/
def runL (g : Tg) (body : SS) : List AV → SS
  | [] => sNil
  | x :: xs => fun ρ h => match g x ρ with
    | none => .bad
    | some ρ1 => match body ρ1 h with
      | .nx ρ' h' => runL g body xs ρ' h'
      | .ct ρ' h' => runL g body xs ρ' h'
      | .brk ρ' h' => .nx ρ' h'
      | r => r
@[simp] theorem runL_nil {g : Tg} {body : SS} : runL g body [] ρ h = .nx ρ h := rfl
@[simp] theorem runL_cons {g : Tg} {body : SS} {x : AV} {xs : List AV} : runL g body (x :: xs) ρ h = match g x ρ with
    | none => .bad
    | some ρ1 => match body ρ1 h with
      | .nx ρ' h' => runL g body xs ρ' h'
      | .ct ρ' h' => runL g body xs ρ' h'
      | .brk ρ' h' => .nx ρ' h'
      | .ret v h' => .ret v h'
      | .exc e ρ' h' => .exc e ρ' h'
      | .bad => .bad := by
  conv => lhs; unfold runL
  cases g x ρ with
  | none => rfl
  | some ρ1 =>
    dsimp only
    cases body ρ1 h <;> rfl
theorem iter_run {xs : List AV} {g : Tg} {body : SS} : ∀ (k i : Nat) (ρ : Env) (h : Heap), xs.length < k + i → i ≤ xs.length → sIter (fun _ => some xs) g body k i ρ h = runL g body (xs.drop i) ρ h := by
  intro k
  induction k with
  | zero =>
    intro i ρ h hl hi
    omega
  | succ k ih =>
    intro i ρ h hl hi
    unfold sIter
    dsimp only
    cases e : xs[i]? with
    | none =>
      rw [List.drop_eq_nil_of_le (List.getElem?_eq_none_iff.mp e)]
      rfl
    | some x =>
      obtain ⟨hlt, hx⟩ := List.getElem?_eq_some_iff.mp e
      rw [List.drop_eq_getElem_cons hlt, hx]
      conv => rhs; unfold runL
      dsimp only
      cases g x ρ with
      | none => rfl
      | some ρ1 =>
        dsimp only
        cases body ρ1 h with
        | nx ρ' h' => exact ih (i + 1) ρ' h' (by omega) (by omega)
        | ct ρ' h' => exact ih (i + 1) ρ' h' (by omega) (by omega)
        | _ => rfl
@[simp] theorem iter_const {xs : List AV} {g : Tg} {body : SS} (hl : xs.length ≤ 16777216) : sIter (fun _ => some xs) g body fuel 0 ρ h = runL g body xs ρ h := by
  rw [iter_run _ _ _ _ (by unfold fuel; omega) (Nat.zero_le _)]
  rfl
end
end PA
/-! EvX: slices, d.get, raise, try, for simp. -/
namespace PA
open PySem (Str PyData)
section
variable {α β : Type} {ρ : Env} {h : Heap}
@[simp] theorem bO_none : bndO none ρ h = .ok none h := rfl
@[simp] theorem bO_some {e : EE} : bndO (some e) ρ h = match e ρ h with
  | .ok (.int i) h1 => .ok (some i) h1
  | .exc x h1 => .exc x h1
  | _ => .bad := by
  show bnd (e ρ) (fun v h => match v with
    | .int i => .ok (some i) h
    | _ => .bad) h = _
  unfold bnd
  cases e ρ h with
  | ok v h1 => cases v <;> rfl
  | _ => rfl
@[simp] theorem ev_slice {e : EE} {lo hi : Option EE} : eSliceL e lo hi ρ h = match e ρ h with
  | .ok x h1 => (match bndO lo ρ h1 with
    | .ok l h2 => (match bndO hi ρ h2 with
      | .ok u h3 => (match x with
        | .loc a => (match h3[a]? with
          | some (.lst xs) => .ok (.loc h3.length) (h3 ++ [.lst (cutA xs l u)])
          | _ => .bad)
        | _ => .bad)
      | .exc x h3 => .exc x h3
      | .bad => .bad)
    | .exc x h2 => .exc x h2
    | .bad => .bad)
  | .exc x h1 => .exc x h1
  | .bad => .bad := by
  unfold eSliceL bnd
  cases e ρ h with
  | ok x h1 =>
    dsimp only
    cases bndO lo ρ h1 with
    | ok l h2 =>
      dsimp only
      cases bndO hi ρ h2 with
      | ok u h3 => cases x <;> rfl
      | _ => rfl
    | _ => rfl
  | _ => rfl
@[simp] theorem ev_get2 {o i x : EE} : eGet2 o i x ρ h = match o ρ h with
  | .ok d h1 => if isDct h1 d = true then (match i ρ h1 with
    | .ok k h2 => (match x ρ h2 with
      | .ok v h3 => (match dctOf h3 d with
        | some kvs => if isKey k = true then (match dGet kvs k with
          | some w => .ok w h3
          | none => .ok v h3) else .bad
        | none => .bad)
      | .exc x h3 => .exc x h3
      | .bad => .bad)
    | .exc x h2 => .exc x h2
    | .bad => .bad) else .bad
  | .exc x h1 => .exc x h1
  | .bad => .bad := by
  unfold eGet2 bnd
  cases o ρ h with
  | ok d h1 =>
    dsimp only
    by_cases z : isDct h1 d = true
    · rw [if_pos z, if_pos z]
      cases i ρ h1 with
      | ok k h2 =>
        dsimp only
        cases x ρ h2 <;> rfl
      | _ => rfl
    · rw [if_neg z, if_neg z]
  | _ => rfl
@[simp] theorem ev_lDctI0 : lDctI [] ρ h = .ok [] h := rfl
@[simp] theorem ev_lDctI {k : Int} {e : EE} {r : List (Int × EE)} : lDctI ((k, e) :: r) ρ h = match e ρ h with
  | .ok v h1 => (match lDctI r ρ h1 with
    | .ok vs h2 => .ok ((k, v) :: vs) h2
    | .exc x h2 => .exc x h2
    | .bad => .bad)
  | .exc x h1 => .exc x h1
  | .bad => .bad := by
  conv => lhs; unfold lDctI
  unfold bnd
  cases e ρ h with
  | ok v h1 =>
    dsimp only
    cases lDctI r ρ h1 <;> rfl
  | _ => rfl
@[simp] theorem ev_dispI {kes : List (Int × EE)} : eDispI kes ρ h = match lDctI kes ρ h with
  | .ok ps h1 => .ok (.loc h1.length) (h1 ++ [.dct (ps.foldl (fun acc p => dPut acc (.int p.1) p.2) [])])
  | .exc x h1 => .exc x h1
  | .bad => .bad := by
  unfold eDispI bnd
  cases lDctI kes ρ h <;> rfl
@[simp] theorem sv_raise0 {c : String} : sRaise0 c ρ h = .exc ⟨c, []⟩ ρ h := rfl
@[simp] theorem sv_raiseN {c : String} {names : List Str} {l : LL} : sRaiseN c names l ρ h = match l ρ h with
  | .ok vs h1 => if vs.length = names.length then .exc ⟨c, (names.zip vs).reverse⟩ ρ h1 else .bad
  | .exc x h1 => .exc x ρ h1
  | .bad => .bad := by
  unfold sRaiseN sBnd
  cases l ρ h <;> rfl
@[simp] theorem sv_try {m : SS} {ks : List ClA} : sTryA m ks ρ h = match m ρ h with
  | .exc e ρ' h' => catchA ks e ρ' h'
  | .nx ρ' h' => .nx ρ' h'
  | .ret v h' => .ret v h'
  | .brk ρ' h' => .brk ρ' h'
  | .ct ρ' h' => .ct ρ' h'
  | .bad => .bad := by
  unfold sTryA
  cases m ρ h <;> rfl
@[simp] theorem clF_nil {n : String} : clF [] n = none := rfl
@[simp] theorem clF_cons {a n : String} {b : Bool} {r : List (String × Bool)} : clF ((a, b) :: r) n = if n = a then some b else clF r n := by
  unfold clF
  rw [List.lookup_cons]
  by_cases z : n = a
  · subst z; simp
  · have : (n == a) = false := by simpa using z
    rw [this, if_neg z]
theorem cut_take {xs : List AV} {k : Int} (h0 : 0 ≤ k) (h1 : k ≤ xs.length) : cutA xs none (some k) = xs.take k.toNat := by
  unfold cutA sixA
  dsimp only
  rw [if_neg (by omega)]
  simp <;> omega
theorem cut_drop {xs : List AV} {k : Int} (h0 : 0 ≤ k) : cutA xs (some k) none = xs.drop k.toNat := by
  unfold cutA sixA
  dsimp only
  rw [if_neg (by omega)]
  by_cases z : k.toNat ≤ xs.length
  · rw [Nat.min_eq_left z, List.take_of_length_le (by simp)]
  · rw [Nat.min_eq_right (by omega), List.drop_of_length_le (Nat.le_refl _), List.drop_of_length_le (by omega)]
    simp
theorem cut_one {xs : List AV} {k : Int} (h0 : 0 ≤ k) (h1 : k < xs.length) : cutA xs (some k) (some (k + 1)) = (xs.drop k.toNat).take 1 := by
  unfold cutA sixA
  dsimp only
  rw [if_neg (by omega), if_neg (by omega)]
  have e1 : min k.toNat xs.length = k.toNat := by omega
  have e2 : min (k + 1).toNat xs.length = k.toNat + 1 := by omega
  rw [e1, e2, Nat.add_sub_cancel_left]
end
end PA
/-! EvE: suites, handled errors, for simp. -/
namespace PA
open PySem (Str PyData)
section
variable {α β : Type} {ρ : Env} {h : Heap} {E : Exc}
@[simp] theorem nE_ok {a : α} : noExc (.ok a h) = .ok a h := rfl
@[simp] theorem nE_exc {e : Exc} : noExc (.exc e h : Res α) = .bad := rfl
@[simp] theorem nE_bad : noExc (.bad : Res α) = .bad := rfl
@[simp] theorem e_qT {t : BB} : qT t ρ h = noExc (t ρ h) := rfl
@[simp] theorem e_qL {l : LL} : qL l ρ h = noExc (l ρ h) := rfl
@[simp] theorem e_xBin {o : O2} {a b : Exc → EE} : xBin o a b E = eBin o (a E) (b E) := rfl
@[simp] theorem e_xAnd {a b : Exc → EE} : xAnd a b E = eAnd (a E) (b E) := rfl
@[simp] theorem e_xLst {l : Exc → LL} : xLst l E = eLst (l E) := rfl
@[simp] theorem e_xlNil : xlNil E = lNil := rfl
@[simp] theorem e_xlCons {a : Exc → EE} {l : Exc → LL} : xlCons a l E = lCons (a E) (l E) := rfl
@[simp] theorem e_xCall {F : Exc → FF} {l : LL} : xCall F l E ρ h = match l ρ h with
  | .ok vs h1 => noExc (F E vs h1)
  | .exc x h1 => .exc x h1
  | .bad => .bad := by
  unfold xCall bnd
  cases l ρ h <;> rfl
@[simp] theorem e_xSet {i : Nat} {m : Exc → EE} : xSet i m E = sSet i (m E) := rfl
@[simp] theorem e_xRet {m : Exc → EE} : xRet m E = sRet (m E) := rfl
@[simp] theorem e_xSeq {a b : Exc → SS} : xSeq a b E = sSeq (a E) (b E) := rfl
@[simp] theorem e_xIfS {t : BB} {a b : Exc → SS} : xIfS t a b E = sIf t (a E) (b E) := rfl
@[simp] theorem e_xNil : xNil E = sNil := rfl
@[simp] theorem e_xIfT {t : BB} {a b : Exc → EE} : xIfT t a b E = eIf t (a E) (b E) := rfl
@[simp] theorem e_xIsE {f : String → Option Bool} : xIsE f E ρ h = match f E.cls with
  | some b => .ok (.bl b) h
  | none => .bad := rfl
@[simp] theorem e_xFldM {cs : List String} {f : Str} : xFldM cs f E ρ h = if cs.contains E.cls = true then (match E.fs.lookup f with
  | some v => .ok v h
  | none => .bad) else .bad := rfl
@[simp] theorem e_runX {ar n : Nat} {b : Exc → SS} {vs : List AV} : runX ar n b E vs h = if vs.length = ar then
    (match b E (vs.map some ++ none :: List.replicate n none) h with
    | .nx _ h' => .ok .non h'
    | .ret v h' => .ok v h'
    | _ => .bad)
  else .bad := rfl
@[simp] theorem e_tryE {m : SS} {f : String → Bool} {i : Nat} {s : Exc → SS} : sTryE m f i s ρ h = match m ρ h with
  | .exc E ρ' h' => if f E.cls = true ∧ i < ρ'.length then offX i (s E (ρ'.set i none) h') else .bad
  | r => r := rfl
@[simp] theorem e_offX1 {i : Nat} : offX i (.nx ρ h) = .nx (ρ.set i none) h := rfl
@[simp] theorem e_offX2 {i : Nat} {v : AV} : offX i (.ret v h) = .ret v h := rfl
end
end PA
set_option maxRecDepth 100000
/-! Errs: what is thrown, which classes, which fields. Printed by mk.py. -/
namespace K19
open PA
open PySem (Str)
set_option maxHeartbeats 4000000

theorem thrown_0 {one two : AV} {h : PA.Heap} : f__law_thrown [.int 0, one, two] h = .exc ⟨"InvalidMasters", []⟩ h := by
  unfold f__law_thrown b__law_thrown f__law_bare b__law_bare
  simp [eqA_int]
theorem thrown_1 {one two : AV} {h : PA.Heap} : f__law_thrown [.int 1, one, two] h = .exc ⟨"InvalidSize", []⟩ h := by
  unfold f__law_thrown b__law_thrown f__law_bare b__law_bare
  simp [eqA_int]
theorem thrown_2 {one two : AV} {h : PA.Heap} : f__law_thrown [.int 2, one, two] h = .exc ⟨"InvalidWords", []⟩ h := by
  unfold f__law_thrown b__law_thrown f__law_bare b__law_bare
  simp [eqA_int]
theorem thrown_3 {one two : AV} {h : PA.Heap} : f__law_thrown [.int 3, one, two] h = .exc ⟨"NotComparable", []⟩ h := by
  unfold f__law_thrown b__law_thrown f__law_bare b__law_bare
  simp [eqA_int]
theorem thrown_4 {one two : AV} {h : PA.Heap} : f__law_thrown [.int 4, one, two] h = .exc ⟨"InvalidDeed", [("index", one)]⟩ h := by
  unfold f__law_thrown b__law_thrown f__law_bare b__law_bare
  simp [eqA_int]
theorem thrown_5 {one two : AV} {h : PA.Heap} : f__law_thrown [.int 5, one, two] h = .exc ⟨"UnknownKind", [("index", one)]⟩ h := by
  unfold f__law_thrown b__law_thrown f__law_bare b__law_bare
  simp [eqA_int]
theorem thrown_6 {one two : AV} {h : PA.Heap} : f__law_thrown [.int 6, one, two] h = .exc ⟨"UnknownIndex", [("index", one)]⟩ h := by
  unfold f__law_thrown b__law_thrown f__law_bare b__law_bare
  simp [eqA_int]
theorem thrown_7 {one two : AV} {h : PA.Heap} : f__law_thrown [.int 7, one, two] h = .exc ⟨"InvalidRule", [("point", one)]⟩ h := by
  unfold f__law_thrown b__law_thrown f__law_bare b__law_bare
  simp [eqA_int]
theorem thrown_8 {one two : AV} {h : PA.Heap} : f__law_thrown [.int 8, one, two] h = .exc ⟨"UnknownDeed", [("deed", one)]⟩ h := by
  unfold f__law_thrown b__law_thrown f__law_bare b__law_bare
  simp [eqA_int]
theorem thrown_9 {one two : AV} {h : PA.Heap} : f__law_thrown [.int 9, one, two] h = .exc ⟨"Possible", [("history", one)]⟩ h := by
  unfold f__law_thrown b__law_thrown f__law_bare b__law_bare
  simp [eqA_int]
theorem thrown_10 {one two : AV} {h : PA.Heap} : f__law_thrown [.int 10, one, two] h = .exc ⟨"InvalidText", [("word", two), ("line", one)]⟩ h := by
  unfold f__law_thrown b__law_thrown f__law_bare b__law_bare
  simp [eqA_int]
theorem classes_0 {fs : List (Str × AV)} {h : PA.Heap} : f__law_classes ⟨"InvalidMasters", fs⟩ [] h = .ok (.loc (h.length + 6)) (h ++ [.lst [.bl true, .bl false, .bl false], .lst [.bl false, .bl false, .bl false], .lst [.bl true, .bl false, .bl false, .bl false, .bl false, .bl false], .lst [.bl false, .bl false, .bl false], .lst [.bl true, .bl false, .bl false, .bl false, .bl false, .bl false, .bl false, .bl false, .bl false], .lst [.bl false, .bl false], .lst [.bl true, .bl false, .bl false, .bl false, .bl false, .bl false, .bl false, .bl false, .bl false, .bl false, .bl false]]) := by
  unfold f__law_classes b__law_classes
  simp
theorem classes_1 {fs : List (Str × AV)} {h : PA.Heap} : f__law_classes ⟨"InvalidSize", fs⟩ [] h = .ok (.loc (h.length + 6)) (h ++ [.lst [.bl false, .bl true, .bl false], .lst [.bl false, .bl false, .bl false], .lst [.bl false, .bl true, .bl false, .bl false, .bl false, .bl false], .lst [.bl false, .bl false, .bl false], .lst [.bl false, .bl true, .bl false, .bl false, .bl false, .bl false, .bl false, .bl false, .bl false], .lst [.bl false, .bl false], .lst [.bl false, .bl true, .bl false, .bl false, .bl false, .bl false, .bl false, .bl false, .bl false, .bl false, .bl false]]) := by
  unfold f__law_classes b__law_classes
  simp
theorem classes_2 {fs : List (Str × AV)} {h : PA.Heap} : f__law_classes ⟨"InvalidWords", fs⟩ [] h = .ok (.loc (h.length + 6)) (h ++ [.lst [.bl false, .bl false, .bl true], .lst [.bl false, .bl false, .bl false], .lst [.bl false, .bl false, .bl true, .bl false, .bl false, .bl false], .lst [.bl false, .bl false, .bl false], .lst [.bl false, .bl false, .bl true, .bl false, .bl false, .bl false, .bl false, .bl false, .bl false], .lst [.bl false, .bl false], .lst [.bl false, .bl false, .bl true, .bl false, .bl false, .bl false, .bl false, .bl false, .bl false, .bl false, .bl false]]) := by
  unfold f__law_classes b__law_classes
  simp
theorem classes_3 {fs : List (Str × AV)} {h : PA.Heap} : f__law_classes ⟨"NotComparable", fs⟩ [] h = .ok (.loc (h.length + 6)) (h ++ [.lst [.bl false, .bl false, .bl false], .lst [.bl true, .bl false, .bl false], .lst [.bl false, .bl false, .bl false, .bl true, .bl false, .bl false], .lst [.bl false, .bl false, .bl false], .lst [.bl false, .bl false, .bl false, .bl true, .bl false, .bl false, .bl false, .bl false, .bl false], .lst [.bl false, .bl false], .lst [.bl false, .bl false, .bl false, .bl true, .bl false, .bl false, .bl false, .bl false, .bl false, .bl false, .bl false]]) := by
  unfold f__law_classes b__law_classes
  simp
theorem classes_4 {fs : List (Str × AV)} {h : PA.Heap} : f__law_classes ⟨"InvalidDeed", fs⟩ [] h = .ok (.loc (h.length + 6)) (h ++ [.lst [.bl false, .bl false, .bl false], .lst [.bl false, .bl true, .bl false], .lst [.bl false, .bl false, .bl false, .bl false, .bl true, .bl false], .lst [.bl false, .bl false, .bl false], .lst [.bl false, .bl false, .bl false, .bl false, .bl true, .bl false, .bl false, .bl false, .bl false], .lst [.bl false, .bl false], .lst [.bl false, .bl false, .bl false, .bl false, .bl true, .bl false, .bl false, .bl false, .bl false, .bl false, .bl false]]) := by
  unfold f__law_classes b__law_classes
  simp
theorem classes_5 {fs : List (Str × AV)} {h : PA.Heap} : f__law_classes ⟨"UnknownKind", fs⟩ [] h = .ok (.loc (h.length + 6)) (h ++ [.lst [.bl false, .bl false, .bl false], .lst [.bl false, .bl false, .bl true], .lst [.bl false, .bl false, .bl false, .bl false, .bl false, .bl true], .lst [.bl false, .bl false, .bl false], .lst [.bl false, .bl false, .bl false, .bl false, .bl false, .bl true, .bl false, .bl false, .bl false], .lst [.bl false, .bl false], .lst [.bl false, .bl false, .bl false, .bl false, .bl false, .bl true, .bl false, .bl false, .bl false, .bl false, .bl false]]) := by
  unfold f__law_classes b__law_classes
  simp
theorem classes_6 {fs : List (Str × AV)} {h : PA.Heap} : f__law_classes ⟨"UnknownIndex", fs⟩ [] h = .ok (.loc (h.length + 6)) (h ++ [.lst [.bl false, .bl false, .bl false], .lst [.bl false, .bl false, .bl false], .lst [.bl false, .bl false, .bl false, .bl false, .bl false, .bl false], .lst [.bl true, .bl false, .bl false], .lst [.bl false, .bl false, .bl false, .bl false, .bl false, .bl false, .bl true, .bl false, .bl false], .lst [.bl false, .bl false], .lst [.bl false, .bl false, .bl false, .bl false, .bl false, .bl false, .bl true, .bl false, .bl false, .bl false, .bl false]]) := by
  unfold f__law_classes b__law_classes
  simp
theorem classes_7 {fs : List (Str × AV)} {h : PA.Heap} : f__law_classes ⟨"InvalidRule", fs⟩ [] h = .ok (.loc (h.length + 6)) (h ++ [.lst [.bl false, .bl false, .bl false], .lst [.bl false, .bl false, .bl false], .lst [.bl false, .bl false, .bl false, .bl false, .bl false, .bl false], .lst [.bl false, .bl true, .bl false], .lst [.bl false, .bl false, .bl false, .bl false, .bl false, .bl false, .bl false, .bl true, .bl false], .lst [.bl false, .bl false], .lst [.bl false, .bl false, .bl false, .bl false, .bl false, .bl false, .bl false, .bl true, .bl false, .bl false, .bl false]]) := by
  unfold f__law_classes b__law_classes
  simp
theorem classes_8 {fs : List (Str × AV)} {h : PA.Heap} : f__law_classes ⟨"UnknownDeed", fs⟩ [] h = .ok (.loc (h.length + 6)) (h ++ [.lst [.bl false, .bl false, .bl false], .lst [.bl false, .bl false, .bl false], .lst [.bl false, .bl false, .bl false, .bl false, .bl false, .bl false], .lst [.bl false, .bl false, .bl true], .lst [.bl false, .bl false, .bl false, .bl false, .bl false, .bl false, .bl false, .bl false, .bl true], .lst [.bl false, .bl false], .lst [.bl false, .bl false, .bl false, .bl false, .bl false, .bl false, .bl false, .bl false, .bl true, .bl false, .bl false]]) := by
  unfold f__law_classes b__law_classes
  simp
theorem classes_9 {fs : List (Str × AV)} {h : PA.Heap} : f__law_classes ⟨"Possible", fs⟩ [] h = .ok (.loc (h.length + 6)) (h ++ [.lst [.bl false, .bl false, .bl false], .lst [.bl false, .bl false, .bl false], .lst [.bl false, .bl false, .bl false, .bl false, .bl false, .bl false], .lst [.bl false, .bl false, .bl false], .lst [.bl false, .bl false, .bl false, .bl false, .bl false, .bl false, .bl false, .bl false, .bl false], .lst [.bl true, .bl false], .lst [.bl false, .bl false, .bl false, .bl false, .bl false, .bl false, .bl false, .bl false, .bl false, .bl true, .bl false]]) := by
  unfold f__law_classes b__law_classes
  simp
theorem classes_10 {fs : List (Str × AV)} {h : PA.Heap} : f__law_classes ⟨"InvalidText", fs⟩ [] h = .ok (.loc (h.length + 6)) (h ++ [.lst [.bl false, .bl false, .bl false], .lst [.bl false, .bl false, .bl false], .lst [.bl false, .bl false, .bl false, .bl false, .bl false, .bl false], .lst [.bl false, .bl false, .bl false], .lst [.bl false, .bl false, .bl false, .bl false, .bl false, .bl false, .bl false, .bl false, .bl false], .lst [.bl false, .bl true], .lst [.bl false, .bl false, .bl false, .bl false, .bl false, .bl false, .bl false, .bl false, .bl false, .bl false, .bl true]]) := by
  unfold f__law_classes b__law_classes
  simp
theorem parts_0  {h : PA.Heap} : f__law_parts ⟨"InvalidMasters", []⟩ [.int 0] h = .ok (.loc h.length) (h ++ [.lst []]) := by
  unfold f__law_parts b__law_parts
  simp [eqA_int]
theorem parts_1  {h : PA.Heap} : f__law_parts ⟨"InvalidSize", []⟩ [.int 1] h = .ok (.loc h.length) (h ++ [.lst []]) := by
  unfold f__law_parts b__law_parts
  simp [eqA_int]
theorem parts_2  {h : PA.Heap} : f__law_parts ⟨"InvalidWords", []⟩ [.int 2] h = .ok (.loc h.length) (h ++ [.lst []]) := by
  unfold f__law_parts b__law_parts
  simp [eqA_int]
theorem parts_3  {h : PA.Heap} : f__law_parts ⟨"NotComparable", []⟩ [.int 3] h = .ok (.loc h.length) (h ++ [.lst []]) := by
  unfold f__law_parts b__law_parts
  simp [eqA_int]
theorem parts_4 {one : AV} {h : PA.Heap} : f__law_parts ⟨"InvalidDeed", [("index", one)]⟩ [.int 4] h = .ok (.loc h.length) (h ++ [.lst [one]]) := by
  unfold f__law_parts b__law_parts
  simp [eqA_int]
theorem parts_5 {one : AV} {h : PA.Heap} : f__law_parts ⟨"UnknownKind", [("index", one)]⟩ [.int 5] h = .ok (.loc h.length) (h ++ [.lst [one]]) := by
  unfold f__law_parts b__law_parts
  simp [eqA_int]
theorem parts_6 {one : AV} {h : PA.Heap} : f__law_parts ⟨"UnknownIndex", [("index", one)]⟩ [.int 6] h = .ok (.loc h.length) (h ++ [.lst [one]]) := by
  unfold f__law_parts b__law_parts
  simp [eqA_int]
theorem parts_7 {one : AV} {h : PA.Heap} : f__law_parts ⟨"InvalidRule", [("point", one)]⟩ [.int 7] h = .ok (.loc h.length) (h ++ [.lst [one]]) := by
  unfold f__law_parts b__law_parts
  simp [eqA_int]
theorem parts_8 {one : AV} {h : PA.Heap} : f__law_parts ⟨"UnknownDeed", [("deed", one)]⟩ [.int 8] h = .ok (.loc h.length) (h ++ [.lst [one]]) := by
  unfold f__law_parts b__law_parts
  simp [eqA_int]
theorem parts_9 {one : AV} {h : PA.Heap} : f__law_parts ⟨"Possible", [("history", one)]⟩ [.int 9] h = .ok (.loc h.length) (h ++ [.lst [one]]) := by
  unfold f__law_parts b__law_parts
  simp [eqA_int]
theorem parts_10 {one two : AV} {h : PA.Heap} : f__law_parts ⟨"InvalidText", [("word", two), ("line", one)]⟩ [.int 10] h = .ok (.loc h.length) (h ++ [.lst [one, two]]) := by
  unfold f__law_parts b__law_parts
  simp [eqA_int]
end K19
set_option maxRecDepth 100000
/-! Right: each error is told apart. Printed by mk2.py. -/
namespace K19
open PA
open PySem (Str PyData)
set_option maxHeartbeats 4000000
theorem comp_k {k : Int} {o1 o2 o3 o4 o5 o6 : Option AV} {h : PA.Heap} : lComp (iRange0 (eC (.int 11))) (PA.gName 6) tYes l__law_right_1 [6] [some (.int k), o1, o2, o3, o4, o5, o6] h =
    .ok ([0, 1, 2, 3, 4, 5, 6, 7, 8, 9, 10].map fun i : Int => .bl (decide (i = k))) h := by
  have key := lcomp_map (items := fun _ => some (rangeL 0 11)) (it := iRange0 (eC (.int 11))) (g := PA.gName 6) (e := l__law_right_1) (vs := [6]) (ρ := [some (.int k), o1, o2, o3, o4, o5, o6]) (h0 := h) (h := h) (fun x => match x with
    | .int i => .bl (decide (i = k))
    | _ => .non) (by simp) rfl (by decide) fun x hx => by
      unfold rangeL at hx
      obtain ⟨i, _, rfl⟩ := List.mem_map.mp hx
      refine ⟨_, rfl, ?_⟩
      unfold l__law_right_1
      simp [wipeA, eqA_int]
  rw [key]
  rfl
theorem cut1 {x : AV} : cutA [x] none (some 1) = [x] := rfl
theorem cut0 {x : AV} : cutA [x] none (some 0) = [] := rfl
/-- data with no list of ours in it -/
structure Cl (v : AV) (d : PyData) : Prop where
  e : ∀ h, datH h 39 v = some d
  s : PySem.SeqAt.shaped (.list [d]) = true
theorem eqA_lst {h : PA.Heap} {a b : Nat} {xs : List AV} {ds : List PyData} (ha : h[a]? = some (.lst xs)) (hb : h[b]? = some (.lst xs)) (hd : datsW (datH h 39) xs = some ds) (sh : PySem.SeqAt.shaped (.list ds) = true) : eqA h (.loc a) (.loc b) = some true := by
  refine eqA_same (d := .list ds) ?_ ?_ sh
  · show (match h[a]? with
      | some (.lst xs) => (datsW (datH h 39) xs).map PyData.list
      | _ => none) = _
    rw [ha]
    dsimp only
    rw [hd]; rfl
  · show (match h[b]? with
      | some (.lst xs) => (datsW (datH h 39) xs).map PyData.list
      | _ => none) = _
    rw [hb]
    dsimp only
    rw [hd]; rfl

theorem suite_0 {one two : AV} {d1 d2 : PyData} {h : PA.Heap} {d : Nat} (c1 : Cl one d1) (c2 : Cl two d2) (c3 : PySem.SeqAt.shaped (.list [d1, d2]) = true) (hd : h[d]? = some (.lst [])) :
    l__law_right_2 ⟨"InvalidMasters", []⟩ [some (.int 0), some one, some two, some (.bl false), some (.loc d), none, none] h = .nx [some (.int 0), some one, some two, some (.bl true), some (.loc d), none, none] (h ++ [.lst [.bl true, .bl false, .bl false], .lst [.bl false, .bl false, .bl false], .lst [.bl true, .bl false, .bl false, .bl false, .bl false, .bl false], .lst [.bl false, .bl false, .bl false], .lst [.bl true, .bl false, .bl false, .bl false, .bl false, .bl false, .bl false, .bl false, .bl false], .lst [.bl false, .bl false], .lst [.bl true, .bl false, .bl false, .bl false, .bl false, .bl false, .bl false, .bl false, .bl false, .bl false, .bl false], .lst [.bl true, .bl false, .bl false, .bl false, .bl false, .bl false, .bl false, .bl false, .bl false, .bl false, .bl false], .lst []]) := by
  have q1 : eqA (h ++ [.lst [.bl true, .bl false, .bl false], .lst [.bl false, .bl false, .bl false], .lst [.bl true, .bl false, .bl false, .bl false, .bl false, .bl false], .lst [.bl false, .bl false, .bl false], .lst [.bl true, .bl false, .bl false, .bl false, .bl false, .bl false, .bl false, .bl false, .bl false], .lst [.bl false, .bl false], .lst [.bl true, .bl false, .bl false, .bl false, .bl false, .bl false, .bl false, .bl false, .bl false, .bl false, .bl false], .lst [.bl true, .bl false, .bl false, .bl false, .bl false, .bl false, .bl false, .bl false, .bl false, .bl false, .bl false]]) (.loc (h.length + 6)) (.loc (h.length + 7)) = some true := eqA_lst (xs := [.bl true, .bl false, .bl false, .bl false, .bl false, .bl false, .bl false, .bl false, .bl false, .bl false, .bl false]) (ds := [.bool true, .bool false, .bool false, .bool false, .bool false, .bool false, .bool false, .bool false, .bool false, .bool false, .bool false]) (by simp) (by simp) rfl (by decide +kernel)
  have q2 : eqA (h ++ [.lst [.bl true, .bl false, .bl false], .lst [.bl false, .bl false, .bl false], .lst [.bl true, .bl false, .bl false, .bl false, .bl false, .bl false], .lst [.bl false, .bl false, .bl false], .lst [.bl true, .bl false, .bl false, .bl false, .bl false, .bl false, .bl false, .bl false, .bl false], .lst [.bl false, .bl false], .lst [.bl true, .bl false, .bl false, .bl false, .bl false, .bl false, .bl false, .bl false, .bl false, .bl false, .bl false], .lst [.bl true, .bl false, .bl false, .bl false, .bl false, .bl false, .bl false, .bl false, .bl false, .bl false, .bl false], .lst []]) (.loc (h.length + 8)) (.loc d) = some true := eqA_lst (xs := []) (ds := []) (by simp) (by rw [List.getElem?_append_left (lt_of_at hd)]; exact hd) (by simp [datsW, c1.e, c2.e]) (by decide +kernel)
  unfold l__law_right_2
  simp [classes_0, parts_0, comp_k, q1, q2]
theorem right_0 {one two : AV} {d1 d2 : PyData} {h : PA.Heap} (c1 : Cl one d1) (c2 : Cl two d2) (c3 : PySem.SeqAt.shaped (.list [d1, d2]) = true) : ∃ g, f__law_right [.int 0, one, two] h = .ok (.bl true) (h ++ g) := by
  have q := suite_0 (h := h ++ [.lst [one], .lst [], .lst [two], .lst [], .lst []]) (d := h.length + 4) c1 c2 c3 (by simp)
  unfold f__law_right b__law_right
  simp at q
  simp [thrown_0, cut1, cut0, q]
theorem suite_1 {one two : AV} {d1 d2 : PyData} {h : PA.Heap} {d : Nat} (c1 : Cl one d1) (c2 : Cl two d2) (c3 : PySem.SeqAt.shaped (.list [d1, d2]) = true) (hd : h[d]? = some (.lst [])) :
    l__law_right_2 ⟨"InvalidSize", []⟩ [some (.int 1), some one, some two, some (.bl false), some (.loc d), none, none] h = .nx [some (.int 1), some one, some two, some (.bl true), some (.loc d), none, none] (h ++ [.lst [.bl false, .bl true, .bl false], .lst [.bl false, .bl false, .bl false], .lst [.bl false, .bl true, .bl false, .bl false, .bl false, .bl false], .lst [.bl false, .bl false, .bl false], .lst [.bl false, .bl true, .bl false, .bl false, .bl false, .bl false, .bl false, .bl false, .bl false], .lst [.bl false, .bl false], .lst [.bl false, .bl true, .bl false, .bl false, .bl false, .bl false, .bl false, .bl false, .bl false, .bl false, .bl false], .lst [.bl false, .bl true, .bl false, .bl false, .bl false, .bl false, .bl false, .bl false, .bl false, .bl false, .bl false], .lst []]) := by
  have q1 : eqA (h ++ [.lst [.bl false, .bl true, .bl false], .lst [.bl false, .bl false, .bl false], .lst [.bl false, .bl true, .bl false, .bl false, .bl false, .bl false], .lst [.bl false, .bl false, .bl false], .lst [.bl false, .bl true, .bl false, .bl false, .bl false, .bl false, .bl false, .bl false, .bl false], .lst [.bl false, .bl false], .lst [.bl false, .bl true, .bl false, .bl false, .bl false, .bl false, .bl false, .bl false, .bl false, .bl false, .bl false], .lst [.bl false, .bl true, .bl false, .bl false, .bl false, .bl false, .bl false, .bl false, .bl false, .bl false, .bl false]]) (.loc (h.length + 6)) (.loc (h.length + 7)) = some true := eqA_lst (xs := [.bl false, .bl true, .bl false, .bl false, .bl false, .bl false, .bl false, .bl false, .bl false, .bl false, .bl false]) (ds := [.bool false, .bool true, .bool false, .bool false, .bool false, .bool false, .bool false, .bool false, .bool false, .bool false, .bool false]) (by simp) (by simp) rfl (by decide +kernel)
  have q2 : eqA (h ++ [.lst [.bl false, .bl true, .bl false], .lst [.bl false, .bl false, .bl false], .lst [.bl false, .bl true, .bl false, .bl false, .bl false, .bl false], .lst [.bl false, .bl false, .bl false], .lst [.bl false, .bl true, .bl false, .bl false, .bl false, .bl false, .bl false, .bl false, .bl false], .lst [.bl false, .bl false], .lst [.bl false, .bl true, .bl false, .bl false, .bl false, .bl false, .bl false, .bl false, .bl false, .bl false, .bl false], .lst [.bl false, .bl true, .bl false, .bl false, .bl false, .bl false, .bl false, .bl false, .bl false, .bl false, .bl false], .lst []]) (.loc (h.length + 8)) (.loc d) = some true := eqA_lst (xs := []) (ds := []) (by simp) (by rw [List.getElem?_append_left (lt_of_at hd)]; exact hd) (by simp [datsW, c1.e, c2.e]) (by decide +kernel)
  unfold l__law_right_2
  simp [classes_1, parts_1, comp_k, q1, q2]
theorem right_1 {one two : AV} {d1 d2 : PyData} {h : PA.Heap} (c1 : Cl one d1) (c2 : Cl two d2) (c3 : PySem.SeqAt.shaped (.list [d1, d2]) = true) : ∃ g, f__law_right [.int 1, one, two] h = .ok (.bl true) (h ++ g) := by
  have q := suite_1 (h := h ++ [.lst [one], .lst [], .lst [two], .lst [], .lst []]) (d := h.length + 4) c1 c2 c3 (by simp)
  unfold f__law_right b__law_right
  simp at q
  simp [thrown_1, cut1, cut0, q]
theorem suite_2 {one two : AV} {d1 d2 : PyData} {h : PA.Heap} {d : Nat} (c1 : Cl one d1) (c2 : Cl two d2) (c3 : PySem.SeqAt.shaped (.list [d1, d2]) = true) (hd : h[d]? = some (.lst [])) :
    l__law_right_2 ⟨"InvalidWords", []⟩ [some (.int 2), some one, some two, some (.bl false), some (.loc d), none, none] h = .nx [some (.int 2), some one, some two, some (.bl true), some (.loc d), none, none] (h ++ [.lst [.bl false, .bl false, .bl true], .lst [.bl false, .bl false, .bl false], .lst [.bl false, .bl false, .bl true, .bl false, .bl false, .bl false], .lst [.bl false, .bl false, .bl false], .lst [.bl false, .bl false, .bl true, .bl false, .bl false, .bl false, .bl false, .bl false, .bl false], .lst [.bl false, .bl false], .lst [.bl false, .bl false, .bl true, .bl false, .bl false, .bl false, .bl false, .bl false, .bl false, .bl false, .bl false], .lst [.bl false, .bl false, .bl true, .bl false, .bl false, .bl false, .bl false, .bl false, .bl false, .bl false, .bl false], .lst []]) := by
  have q1 : eqA (h ++ [.lst [.bl false, .bl false, .bl true], .lst [.bl false, .bl false, .bl false], .lst [.bl false, .bl false, .bl true, .bl false, .bl false, .bl false], .lst [.bl false, .bl false, .bl false], .lst [.bl false, .bl false, .bl true, .bl false, .bl false, .bl false, .bl false, .bl false, .bl false], .lst [.bl false, .bl false], .lst [.bl false, .bl false, .bl true, .bl false, .bl false, .bl false, .bl false, .bl false, .bl false, .bl false, .bl false], .lst [.bl false, .bl false, .bl true, .bl false, .bl false, .bl false, .bl false, .bl false, .bl false, .bl false, .bl false]]) (.loc (h.length + 6)) (.loc (h.length + 7)) = some true := eqA_lst (xs := [.bl false, .bl false, .bl true, .bl false, .bl false, .bl false, .bl false, .bl false, .bl false, .bl false, .bl false]) (ds := [.bool false, .bool false, .bool true, .bool false, .bool false, .bool false, .bool false, .bool false, .bool false, .bool false, .bool false]) (by simp) (by simp) rfl (by decide +kernel)
  have q2 : eqA (h ++ [.lst [.bl false, .bl false, .bl true], .lst [.bl false, .bl false, .bl false], .lst [.bl false, .bl false, .bl true, .bl false, .bl false, .bl false], .lst [.bl false, .bl false, .bl false], .lst [.bl false, .bl false, .bl true, .bl false, .bl false, .bl false, .bl false, .bl false, .bl false], .lst [.bl false, .bl false], .lst [.bl false, .bl false, .bl true, .bl false, .bl false, .bl false, .bl false, .bl false, .bl false, .bl false, .bl false], .lst [.bl false, .bl false, .bl true, .bl false, .bl false, .bl false, .bl false, .bl false, .bl false, .bl false, .bl false], .lst []]) (.loc (h.length + 8)) (.loc d) = some true := eqA_lst (xs := []) (ds := []) (by simp) (by rw [List.getElem?_append_left (lt_of_at hd)]; exact hd) (by simp [datsW, c1.e, c2.e]) (by decide +kernel)
  unfold l__law_right_2
  simp [classes_2, parts_2, comp_k, q1, q2]
theorem right_2 {one two : AV} {d1 d2 : PyData} {h : PA.Heap} (c1 : Cl one d1) (c2 : Cl two d2) (c3 : PySem.SeqAt.shaped (.list [d1, d2]) = true) : ∃ g, f__law_right [.int 2, one, two] h = .ok (.bl true) (h ++ g) := by
  have q := suite_2 (h := h ++ [.lst [one], .lst [], .lst [two], .lst [], .lst []]) (d := h.length + 4) c1 c2 c3 (by simp)
  unfold f__law_right b__law_right
  simp at q
  simp [thrown_2, cut1, cut0, q]
theorem suite_3 {one two : AV} {d1 d2 : PyData} {h : PA.Heap} {d : Nat} (c1 : Cl one d1) (c2 : Cl two d2) (c3 : PySem.SeqAt.shaped (.list [d1, d2]) = true) (hd : h[d]? = some (.lst [])) :
    l__law_right_2 ⟨"NotComparable", []⟩ [some (.int 3), some one, some two, some (.bl false), some (.loc d), none, none] h = .nx [some (.int 3), some one, some two, some (.bl true), some (.loc d), none, none] (h ++ [.lst [.bl false, .bl false, .bl false], .lst [.bl true, .bl false, .bl false], .lst [.bl false, .bl false, .bl false, .bl true, .bl false, .bl false], .lst [.bl false, .bl false, .bl false], .lst [.bl false, .bl false, .bl false, .bl true, .bl false, .bl false, .bl false, .bl false, .bl false], .lst [.bl false, .bl false], .lst [.bl false, .bl false, .bl false, .bl true, .bl false, .bl false, .bl false, .bl false, .bl false, .bl false, .bl false], .lst [.bl false, .bl false, .bl false, .bl true, .bl false, .bl false, .bl false, .bl false, .bl false, .bl false, .bl false], .lst []]) := by
  have q1 : eqA (h ++ [.lst [.bl false, .bl false, .bl false], .lst [.bl true, .bl false, .bl false], .lst [.bl false, .bl false, .bl false, .bl true, .bl false, .bl false], .lst [.bl false, .bl false, .bl false], .lst [.bl false, .bl false, .bl false, .bl true, .bl false, .bl false, .bl false, .bl false, .bl false], .lst [.bl false, .bl false], .lst [.bl false, .bl false, .bl false, .bl true, .bl false, .bl false, .bl false, .bl false, .bl false, .bl false, .bl false], .lst [.bl false, .bl false, .bl false, .bl true, .bl false, .bl false, .bl false, .bl false, .bl false, .bl false, .bl false]]) (.loc (h.length + 6)) (.loc (h.length + 7)) = some true := eqA_lst (xs := [.bl false, .bl false, .bl false, .bl true, .bl false, .bl false, .bl false, .bl false, .bl false, .bl false, .bl false]) (ds := [.bool false, .bool false, .bool false, .bool true, .bool false, .bool false, .bool false, .bool false, .bool false, .bool false, .bool false]) (by simp) (by simp) rfl (by decide +kernel)
  have q2 : eqA (h ++ [.lst [.bl false, .bl false, .bl false], .lst [.bl true, .bl false, .bl false], .lst [.bl false, .bl false, .bl false, .bl true, .bl false, .bl false], .lst [.bl false, .bl false, .bl false], .lst [.bl false, .bl false, .bl false, .bl true, .bl false, .bl false, .bl false, .bl false, .bl false], .lst [.bl false, .bl false], .lst [.bl false, .bl false, .bl false, .bl true, .bl false, .bl false, .bl false, .bl false, .bl false, .bl false, .bl false], .lst [.bl false, .bl false, .bl false, .bl true, .bl false, .bl false, .bl false, .bl false, .bl false, .bl false, .bl false], .lst []]) (.loc (h.length + 8)) (.loc d) = some true := eqA_lst (xs := []) (ds := []) (by simp) (by rw [List.getElem?_append_left (lt_of_at hd)]; exact hd) (by simp [datsW, c1.e, c2.e]) (by decide +kernel)
  unfold l__law_right_2
  simp [classes_3, parts_3, comp_k, q1, q2]
theorem right_3 {one two : AV} {d1 d2 : PyData} {h : PA.Heap} (c1 : Cl one d1) (c2 : Cl two d2) (c3 : PySem.SeqAt.shaped (.list [d1, d2]) = true) : ∃ g, f__law_right [.int 3, one, two] h = .ok (.bl true) (h ++ g) := by
  have q := suite_3 (h := h ++ [.lst [one], .lst [], .lst [two], .lst [], .lst []]) (d := h.length + 4) c1 c2 c3 (by simp)
  unfold f__law_right b__law_right
  simp at q
  simp [thrown_3, cut1, cut0, q]
theorem suite_4 {one two : AV} {d1 d2 : PyData} {h : PA.Heap} {d : Nat} (c1 : Cl one d1) (c2 : Cl two d2) (c3 : PySem.SeqAt.shaped (.list [d1, d2]) = true) (hd : h[d]? = some (.lst [one])) :
    l__law_right_2 ⟨"InvalidDeed", [("index", one)]⟩ [some (.int 4), some one, some two, some (.bl false), some (.loc d), none, none] h = .nx [some (.int 4), some one, some two, some (.bl true), some (.loc d), none, none] (h ++ [.lst [.bl false, .bl false, .bl false], .lst [.bl false, .bl true, .bl false], .lst [.bl false, .bl false, .bl false, .bl false, .bl true, .bl false], .lst [.bl false, .bl false, .bl false], .lst [.bl false, .bl false, .bl false, .bl false, .bl true, .bl false, .bl false, .bl false, .bl false], .lst [.bl false, .bl false], .lst [.bl false, .bl false, .bl false, .bl false, .bl true, .bl false, .bl false, .bl false, .bl false, .bl false, .bl false], .lst [.bl false, .bl false, .bl false, .bl false, .bl true, .bl false, .bl false, .bl false, .bl false, .bl false, .bl false], .lst [one]]) := by
  have q1 : eqA (h ++ [.lst [.bl false, .bl false, .bl false], .lst [.bl false, .bl true, .bl false], .lst [.bl false, .bl false, .bl false, .bl false, .bl true, .bl false], .lst [.bl false, .bl false, .bl false], .lst [.bl false, .bl false, .bl false, .bl false, .bl true, .bl false, .bl false, .bl false, .bl false], .lst [.bl false, .bl false], .lst [.bl false, .bl false, .bl false, .bl false, .bl true, .bl false, .bl false, .bl false, .bl false, .bl false, .bl false], .lst [.bl false, .bl false, .bl false, .bl false, .bl true, .bl false, .bl false, .bl false, .bl false, .bl false, .bl false]]) (.loc (h.length + 6)) (.loc (h.length + 7)) = some true := eqA_lst (xs := [.bl false, .bl false, .bl false, .bl false, .bl true, .bl false, .bl false, .bl false, .bl false, .bl false, .bl false]) (ds := [.bool false, .bool false, .bool false, .bool false, .bool true, .bool false, .bool false, .bool false, .bool false, .bool false, .bool false]) (by simp) (by simp) rfl (by decide +kernel)
  have q2 : eqA (h ++ [.lst [.bl false, .bl false, .bl false], .lst [.bl false, .bl true, .bl false], .lst [.bl false, .bl false, .bl false, .bl false, .bl true, .bl false], .lst [.bl false, .bl false, .bl false], .lst [.bl false, .bl false, .bl false, .bl false, .bl true, .bl false, .bl false, .bl false, .bl false], .lst [.bl false, .bl false], .lst [.bl false, .bl false, .bl false, .bl false, .bl true, .bl false, .bl false, .bl false, .bl false, .bl false, .bl false], .lst [.bl false, .bl false, .bl false, .bl false, .bl true, .bl false, .bl false, .bl false, .bl false, .bl false, .bl false], .lst [one]]) (.loc (h.length + 8)) (.loc d) = some true := eqA_lst (xs := [one]) (ds := [d1]) (by simp) (by rw [List.getElem?_append_left (lt_of_at hd)]; exact hd) (by simp [datsW, c1.e, c2.e]) c1.s
  unfold l__law_right_2
  simp [classes_4, parts_4, comp_k, q1, q2]
theorem right_4 {one two : AV} {d1 d2 : PyData} {h : PA.Heap} (c1 : Cl one d1) (c2 : Cl two d2) (c3 : PySem.SeqAt.shaped (.list [d1, d2]) = true) : ∃ g, f__law_right [.int 4, one, two] h = .ok (.bl true) (h ++ g) := by
  have q := suite_4 (h := h ++ [.lst [one], .lst [one], .lst [two], .lst [], .lst [one]]) (d := h.length + 4) c1 c2 c3 (by simp)
  unfold f__law_right b__law_right
  simp at q
  simp [thrown_4, cut1, cut0, q]
theorem suite_5 {one two : AV} {d1 d2 : PyData} {h : PA.Heap} {d : Nat} (c1 : Cl one d1) (c2 : Cl two d2) (c3 : PySem.SeqAt.shaped (.list [d1, d2]) = true) (hd : h[d]? = some (.lst [one])) :
    l__law_right_2 ⟨"UnknownKind", [("index", one)]⟩ [some (.int 5), some one, some two, some (.bl false), some (.loc d), none, none] h = .nx [some (.int 5), some one, some two, some (.bl true), some (.loc d), none, none] (h ++ [.lst [.bl false, .bl false, .bl false], .lst [.bl false, .bl false, .bl true], .lst [.bl false, .bl false, .bl false, .bl false, .bl false, .bl true], .lst [.bl false, .bl false, .bl false], .lst [.bl false, .bl false, .bl false, .bl false, .bl false, .bl true, .bl false, .bl false, .bl false], .lst [.bl false, .bl false], .lst [.bl false, .bl false, .bl false, .bl false, .bl false, .bl true, .bl false, .bl false, .bl false, .bl false, .bl false], .lst [.bl false, .bl false, .bl false, .bl false, .bl false, .bl true, .bl false, .bl false, .bl false, .bl false, .bl false], .lst [one]]) := by
  have q1 : eqA (h ++ [.lst [.bl false, .bl false, .bl false], .lst [.bl false, .bl false, .bl true], .lst [.bl false, .bl false, .bl false, .bl false, .bl false, .bl true], .lst [.bl false, .bl false, .bl false], .lst [.bl false, .bl false, .bl false, .bl false, .bl false, .bl true, .bl false, .bl false, .bl false], .lst [.bl false, .bl false], .lst [.bl false, .bl false, .bl false, .bl false, .bl false, .bl true, .bl false, .bl false, .bl false, .bl false, .bl false], .lst [.bl false, .bl false, .bl false, .bl false, .bl false, .bl true, .bl false, .bl false, .bl false, .bl false, .bl false]]) (.loc (h.length + 6)) (.loc (h.length + 7)) = some true := eqA_lst (xs := [.bl false, .bl false, .bl false, .bl false, .bl false, .bl true, .bl false, .bl false, .bl false, .bl false, .bl false]) (ds := [.bool false, .bool false, .bool false, .bool false, .bool false, .bool true, .bool false, .bool false, .bool false, .bool false, .bool false]) (by simp) (by simp) rfl (by decide +kernel)
  have q2 : eqA (h ++ [.lst [.bl false, .bl false, .bl false], .lst [.bl false, .bl false, .bl true], .lst [.bl false, .bl false, .bl false, .bl false, .bl false, .bl true], .lst [.bl false, .bl false, .bl false], .lst [.bl false, .bl false, .bl false, .bl false, .bl false, .bl true, .bl false, .bl false, .bl false], .lst [.bl false, .bl false], .lst [.bl false, .bl false, .bl false, .bl false, .bl false, .bl true, .bl false, .bl false, .bl false, .bl false, .bl false], .lst [.bl false, .bl false, .bl false, .bl false, .bl false, .bl true, .bl false, .bl false, .bl false, .bl false, .bl false], .lst [one]]) (.loc (h.length + 8)) (.loc d) = some true := eqA_lst (xs := [one]) (ds := [d1]) (by simp) (by rw [List.getElem?_append_left (lt_of_at hd)]; exact hd) (by simp [datsW, c1.e, c2.e]) c1.s
  unfold l__law_right_2
  simp [classes_5, parts_5, comp_k, q1, q2]
theorem right_5 {one two : AV} {d1 d2 : PyData} {h : PA.Heap} (c1 : Cl one d1) (c2 : Cl two d2) (c3 : PySem.SeqAt.shaped (.list [d1, d2]) = true) : ∃ g, f__law_right [.int 5, one, two] h = .ok (.bl true) (h ++ g) := by
  have q := suite_5 (h := h ++ [.lst [one], .lst [one], .lst [two], .lst [], .lst [one]]) (d := h.length + 4) c1 c2 c3 (by simp)
  unfold f__law_right b__law_right
  simp at q
  simp [thrown_5, cut1, cut0, q]
theorem suite_6 {one two : AV} {d1 d2 : PyData} {h : PA.Heap} {d : Nat} (c1 : Cl one d1) (c2 : Cl two d2) (c3 : PySem.SeqAt.shaped (.list [d1, d2]) = true) (hd : h[d]? = some (.lst [one])) :
    l__law_right_2 ⟨"UnknownIndex", [("index", one)]⟩ [some (.int 6), some one, some two, some (.bl false), some (.loc d), none, none] h = .nx [some (.int 6), some one, some two, some (.bl true), some (.loc d), none, none] (h ++ [.lst [.bl false, .bl false, .bl false], .lst [.bl false, .bl false, .bl false], .lst [.bl false, .bl false, .bl false, .bl false, .bl false, .bl false], .lst [.bl true, .bl false, .bl false], .lst [.bl false, .bl false, .bl false, .bl false, .bl false, .bl false, .bl true, .bl false, .bl false], .lst [.bl false, .bl false], .lst [.bl false, .bl false, .bl false, .bl false, .bl false, .bl false, .bl true, .bl false, .bl false, .bl false, .bl false], .lst [.bl false, .bl false, .bl false, .bl false, .bl false, .bl false, .bl true, .bl false, .bl false, .bl false, .bl false], .lst [one]]) := by
  have q1 : eqA (h ++ [.lst [.bl false, .bl false, .bl false], .lst [.bl false, .bl false, .bl false], .lst [.bl false, .bl false, .bl false, .bl false, .bl false, .bl false], .lst [.bl true, .bl false, .bl false], .lst [.bl false, .bl false, .bl false, .bl false, .bl false, .bl false, .bl true, .bl false, .bl false], .lst [.bl false, .bl false], .lst [.bl false, .bl false, .bl false, .bl false, .bl false, .bl false, .bl true, .bl false, .bl false, .bl false, .bl false], .lst [.bl false, .bl false, .bl false, .bl false, .bl false, .bl false, .bl true, .bl false, .bl false, .bl false, .bl false]]) (.loc (h.length + 6)) (.loc (h.length + 7)) = some true := eqA_lst (xs := [.bl false, .bl false, .bl false, .bl false, .bl false, .bl false, .bl true, .bl false, .bl false, .bl false, .bl false]) (ds := [.bool false, .bool false, .bool false, .bool false, .bool false, .bool false, .bool true, .bool false, .bool false, .bool false, .bool false]) (by simp) (by simp) rfl (by decide +kernel)
  have q2 : eqA (h ++ [.lst [.bl false, .bl false, .bl false], .lst [.bl false, .bl false, .bl false], .lst [.bl false, .bl false, .bl false, .bl false, .bl false, .bl false], .lst [.bl true, .bl false, .bl false], .lst [.bl false, .bl false, .bl false, .bl false, .bl false, .bl false, .bl true, .bl false, .bl false], .lst [.bl false, .bl false], .lst [.bl false, .bl false, .bl false, .bl false, .bl false, .bl false, .bl true, .bl false, .bl false, .bl false, .bl false], .lst [.bl false, .bl false, .bl false, .bl false, .bl false, .bl false, .bl true, .bl false, .bl false, .bl false, .bl false], .lst [one]]) (.loc (h.length + 8)) (.loc d) = some true := eqA_lst (xs := [one]) (ds := [d1]) (by simp) (by rw [List.getElem?_append_left (lt_of_at hd)]; exact hd) (by simp [datsW, c1.e, c2.e]) c1.s
  unfold l__law_right_2
  simp [classes_6, parts_6, comp_k, q1, q2]
theorem right_6 {one two : AV} {d1 d2 : PyData} {h : PA.Heap} (c1 : Cl one d1) (c2 : Cl two d2) (c3 : PySem.SeqAt.shaped (.list [d1, d2]) = true) : ∃ g, f__law_right [.int 6, one, two] h = .ok (.bl true) (h ++ g) := by
  have q := suite_6 (h := h ++ [.lst [one], .lst [one], .lst [two], .lst [], .lst [one]]) (d := h.length + 4) c1 c2 c3 (by simp)
  unfold f__law_right b__law_right
  simp at q
  simp [thrown_6, cut1, cut0, q]
theorem suite_7 {one two : AV} {d1 d2 : PyData} {h : PA.Heap} {d : Nat} (c1 : Cl one d1) (c2 : Cl two d2) (c3 : PySem.SeqAt.shaped (.list [d1, d2]) = true) (hd : h[d]? = some (.lst [one])) :
    l__law_right_2 ⟨"InvalidRule", [("point", one)]⟩ [some (.int 7), some one, some two, some (.bl false), some (.loc d), none, none] h = .nx [some (.int 7), some one, some two, some (.bl true), some (.loc d), none, none] (h ++ [.lst [.bl false, .bl false, .bl false], .lst [.bl false, .bl false, .bl false], .lst [.bl false, .bl false, .bl false, .bl false, .bl false, .bl false], .lst [.bl false, .bl true, .bl false], .lst [.bl false, .bl false, .bl false, .bl false, .bl false, .bl false, .bl false, .bl true, .bl false], .lst [.bl false, .bl false], .lst [.bl false, .bl false, .bl false, .bl false, .bl false, .bl false, .bl false, .bl true, .bl false, .bl false, .bl false], .lst [.bl false, .bl false, .bl false, .bl false, .bl false, .bl false, .bl false, .bl true, .bl false, .bl false, .bl false], .lst [one]]) := by
  have q1 : eqA (h ++ [.lst [.bl false, .bl false, .bl false], .lst [.bl false, .bl false, .bl false], .lst [.bl false, .bl false, .bl false, .bl false, .bl false, .bl false], .lst [.bl false, .bl true, .bl false], .lst [.bl false, .bl false, .bl false, .bl false, .bl false, .bl false, .bl false, .bl true, .bl false], .lst [.bl false, .bl false], .lst [.bl false, .bl false, .bl false, .bl false, .bl false, .bl false, .bl false, .bl true, .bl false, .bl false, .bl false], .lst [.bl false, .bl false, .bl false, .bl false, .bl false, .bl false, .bl false, .bl true, .bl false, .bl false, .bl false]]) (.loc (h.length + 6)) (.loc (h.length + 7)) = some true := eqA_lst (xs := [.bl false, .bl false, .bl false, .bl false, .bl false, .bl false, .bl false, .bl true, .bl false, .bl false, .bl false]) (ds := [.bool false, .bool false, .bool false, .bool false, .bool false, .bool false, .bool false, .bool true, .bool false, .bool false, .bool false]) (by simp) (by simp) rfl (by decide +kernel)
  have q2 : eqA (h ++ [.lst [.bl false, .bl false, .bl false], .lst [.bl false, .bl false, .bl false], .lst [.bl false, .bl false, .bl false, .bl false, .bl false, .bl false], .lst [.bl false, .bl true, .bl false], .lst [.bl false, .bl false, .bl false, .bl false, .bl false, .bl false, .bl false, .bl true, .bl false], .lst [.bl false, .bl false], .lst [.bl false, .bl false, .bl false, .bl false, .bl false, .bl false, .bl false, .bl true, .bl false, .bl false, .bl false], .lst [.bl false, .bl false, .bl false, .bl false, .bl false, .bl false, .bl false, .bl true, .bl false, .bl false, .bl false], .lst [one]]) (.loc (h.length + 8)) (.loc d) = some true := eqA_lst (xs := [one]) (ds := [d1]) (by simp) (by rw [List.getElem?_append_left (lt_of_at hd)]; exact hd) (by simp [datsW, c1.e, c2.e]) c1.s
  unfold l__law_right_2
  simp [classes_7, parts_7, comp_k, q1, q2]
theorem right_7 {one two : AV} {d1 d2 : PyData} {h : PA.Heap} (c1 : Cl one d1) (c2 : Cl two d2) (c3 : PySem.SeqAt.shaped (.list [d1, d2]) = true) : ∃ g, f__law_right [.int 7, one, two] h = .ok (.bl true) (h ++ g) := by
  have q := suite_7 (h := h ++ [.lst [one], .lst [one], .lst [two], .lst [], .lst [one]]) (d := h.length + 4) c1 c2 c3 (by simp)
  unfold f__law_right b__law_right
  simp at q
  simp [thrown_7, cut1, cut0, q]
theorem suite_8 {one two : AV} {d1 d2 : PyData} {h : PA.Heap} {d : Nat} (c1 : Cl one d1) (c2 : Cl two d2) (c3 : PySem.SeqAt.shaped (.list [d1, d2]) = true) (hd : h[d]? = some (.lst [one])) :
    l__law_right_2 ⟨"UnknownDeed", [("deed", one)]⟩ [some (.int 8), some one, some two, some (.bl false), some (.loc d), none, none] h = .nx [some (.int 8), some one, some two, some (.bl true), some (.loc d), none, none] (h ++ [.lst [.bl false, .bl false, .bl false], .lst [.bl false, .bl false, .bl false], .lst [.bl false, .bl false, .bl false, .bl false, .bl false, .bl false], .lst [.bl false, .bl false, .bl true], .lst [.bl false, .bl false, .bl false, .bl false, .bl false, .bl false, .bl false, .bl false, .bl true], .lst [.bl false, .bl false], .lst [.bl false, .bl false, .bl false, .bl false, .bl false, .bl false, .bl false, .bl false, .bl true, .bl false, .bl false], .lst [.bl false, .bl false, .bl false, .bl false, .bl false, .bl false, .bl false, .bl false, .bl true, .bl false, .bl false], .lst [one]]) := by
  have q1 : eqA (h ++ [.lst [.bl false, .bl false, .bl false], .lst [.bl false, .bl false, .bl false], .lst [.bl false, .bl false, .bl false, .bl false, .bl false, .bl false], .lst [.bl false, .bl false, .bl true], .lst [.bl false, .bl false, .bl false, .bl false, .bl false, .bl false, .bl false, .bl false, .bl true], .lst [.bl false, .bl false], .lst [.bl false, .bl false, .bl false, .bl false, .bl false, .bl false, .bl false, .bl false, .bl true, .bl false, .bl false], .lst [.bl false, .bl false, .bl false, .bl false, .bl false, .bl false, .bl false, .bl false, .bl true, .bl false, .bl false]]) (.loc (h.length + 6)) (.loc (h.length + 7)) = some true := eqA_lst (xs := [.bl false, .bl false, .bl false, .bl false, .bl false, .bl false, .bl false, .bl false, .bl true, .bl false, .bl false]) (ds := [.bool false, .bool false, .bool false, .bool false, .bool false, .bool false, .bool false, .bool false, .bool true, .bool false, .bool false]) (by simp) (by simp) rfl (by decide +kernel)
  have q2 : eqA (h ++ [.lst [.bl false, .bl false, .bl false], .lst [.bl false, .bl false, .bl false], .lst [.bl false, .bl false, .bl false, .bl false, .bl false, .bl false], .lst [.bl false, .bl false, .bl true], .lst [.bl false, .bl false, .bl false, .bl false, .bl false, .bl false, .bl false, .bl false, .bl true], .lst [.bl false, .bl false], .lst [.bl false, .bl false, .bl false, .bl false, .bl false, .bl false, .bl false, .bl false, .bl true, .bl false, .bl false], .lst [.bl false, .bl false, .bl false, .bl false, .bl false, .bl false, .bl false, .bl false, .bl true, .bl false, .bl false], .lst [one]]) (.loc (h.length + 8)) (.loc d) = some true := eqA_lst (xs := [one]) (ds := [d1]) (by simp) (by rw [List.getElem?_append_left (lt_of_at hd)]; exact hd) (by simp [datsW, c1.e, c2.e]) c1.s
  unfold l__law_right_2
  simp [classes_8, parts_8, comp_k, q1, q2]
theorem right_8 {one two : AV} {d1 d2 : PyData} {h : PA.Heap} (c1 : Cl one d1) (c2 : Cl two d2) (c3 : PySem.SeqAt.shaped (.list [d1, d2]) = true) : ∃ g, f__law_right [.int 8, one, two] h = .ok (.bl true) (h ++ g) := by
  have q := suite_8 (h := h ++ [.lst [one], .lst [one], .lst [two], .lst [], .lst [one]]) (d := h.length + 4) c1 c2 c3 (by simp)
  unfold f__law_right b__law_right
  simp at q
  simp [thrown_8, cut1, cut0, q]
theorem suite_9 {one two : AV} {d1 d2 : PyData} {h : PA.Heap} {d : Nat} (c1 : Cl one d1) (c2 : Cl two d2) (c3 : PySem.SeqAt.shaped (.list [d1, d2]) = true) (hd : h[d]? = some (.lst [one])) :
    l__law_right_2 ⟨"Possible", [("history", one)]⟩ [some (.int 9), some one, some two, some (.bl false), some (.loc d), none, none] h = .nx [some (.int 9), some one, some two, some (.bl true), some (.loc d), none, none] (h ++ [.lst [.bl false, .bl false, .bl false], .lst [.bl false, .bl false, .bl false], .lst [.bl false, .bl false, .bl false, .bl false, .bl false, .bl false], .lst [.bl false, .bl false, .bl false], .lst [.bl false, .bl false, .bl false, .bl false, .bl false, .bl false, .bl false, .bl false, .bl false], .lst [.bl true, .bl false], .lst [.bl false, .bl false, .bl false, .bl false, .bl false, .bl false, .bl false, .bl false, .bl false, .bl true, .bl false], .lst [.bl false, .bl false, .bl false, .bl false, .bl false, .bl false, .bl false, .bl false, .bl false, .bl true, .bl false], .lst [one]]) := by
  have q1 : eqA (h ++ [.lst [.bl false, .bl false, .bl false], .lst [.bl false, .bl false, .bl false], .lst [.bl false, .bl false, .bl false, .bl false, .bl false, .bl false], .lst [.bl false, .bl false, .bl false], .lst [.bl false, .bl false, .bl false, .bl false, .bl false, .bl false, .bl false, .bl false, .bl false], .lst [.bl true, .bl false], .lst [.bl false, .bl false, .bl false, .bl false, .bl false, .bl false, .bl false, .bl false, .bl false, .bl true, .bl false], .lst [.bl false, .bl false, .bl false, .bl false, .bl false, .bl false, .bl false, .bl false, .bl false, .bl true, .bl false]]) (.loc (h.length + 6)) (.loc (h.length + 7)) = some true := eqA_lst (xs := [.bl false, .bl false, .bl false, .bl false, .bl false, .bl false, .bl false, .bl false, .bl false, .bl true, .bl false]) (ds := [.bool false, .bool false, .bool false, .bool false, .bool false, .bool false, .bool false, .bool false, .bool false, .bool true, .bool false]) (by simp) (by simp) rfl (by decide +kernel)
  have q2 : eqA (h ++ [.lst [.bl false, .bl false, .bl false], .lst [.bl false, .bl false, .bl false], .lst [.bl false, .bl false, .bl false, .bl false, .bl false, .bl false], .lst [.bl false, .bl false, .bl false], .lst [.bl false, .bl false, .bl false, .bl false, .bl false, .bl false, .bl false, .bl false, .bl false], .lst [.bl true, .bl false], .lst [.bl false, .bl false, .bl false, .bl false, .bl false, .bl false, .bl false, .bl false, .bl false, .bl true, .bl false], .lst [.bl false, .bl false, .bl false, .bl false, .bl false, .bl false, .bl false, .bl false, .bl false, .bl true, .bl false], .lst [one]]) (.loc (h.length + 8)) (.loc d) = some true := eqA_lst (xs := [one]) (ds := [d1]) (by simp) (by rw [List.getElem?_append_left (lt_of_at hd)]; exact hd) (by simp [datsW, c1.e, c2.e]) c1.s
  unfold l__law_right_2
  simp [classes_9, parts_9, comp_k, q1, q2]
theorem right_9 {one two : AV} {d1 d2 : PyData} {h : PA.Heap} (c1 : Cl one d1) (c2 : Cl two d2) (c3 : PySem.SeqAt.shaped (.list [d1, d2]) = true) : ∃ g, f__law_right [.int 9, one, two] h = .ok (.bl true) (h ++ g) := by
  have q := suite_9 (h := h ++ [.lst [one], .lst [one], .lst [two], .lst [], .lst [one]]) (d := h.length + 4) c1 c2 c3 (by simp)
  unfold f__law_right b__law_right
  simp at q
  simp [thrown_9, cut1, cut0, q]
theorem suite_10 {one two : AV} {d1 d2 : PyData} {h : PA.Heap} {d : Nat} (c1 : Cl one d1) (c2 : Cl two d2) (c3 : PySem.SeqAt.shaped (.list [d1, d2]) = true) (hd : h[d]? = some (.lst [one, two])) :
    l__law_right_2 ⟨"InvalidText", [("word", two), ("line", one)]⟩ [some (.int 10), some one, some two, some (.bl false), some (.loc d), none, none] h = .nx [some (.int 10), some one, some two, some (.bl true), some (.loc d), none, none] (h ++ [.lst [.bl false, .bl false, .bl false], .lst [.bl false, .bl false, .bl false], .lst [.bl false, .bl false, .bl false, .bl false, .bl false, .bl false], .lst [.bl false, .bl false, .bl false], .lst [.bl false, .bl false, .bl false, .bl false, .bl false, .bl false, .bl false, .bl false, .bl false], .lst [.bl false, .bl true], .lst [.bl false, .bl false, .bl false, .bl false, .bl false, .bl false, .bl false, .bl false, .bl false, .bl false, .bl true], .lst [.bl false, .bl false, .bl false, .bl false, .bl false, .bl false, .bl false, .bl false, .bl false, .bl false, .bl true], .lst [one, two]]) := by
  have q1 : eqA (h ++ [.lst [.bl false, .bl false, .bl false], .lst [.bl false, .bl false, .bl false], .lst [.bl false, .bl false, .bl false, .bl false, .bl false, .bl false], .lst [.bl false, .bl false, .bl false], .lst [.bl false, .bl false, .bl false, .bl false, .bl false, .bl false, .bl false, .bl false, .bl false], .lst [.bl false, .bl true], .lst [.bl false, .bl false, .bl false, .bl false, .bl false, .bl false, .bl false, .bl false, .bl false, .bl false, .bl true], .lst [.bl false, .bl false, .bl false, .bl false, .bl false, .bl false, .bl false, .bl false, .bl false, .bl false, .bl true]]) (.loc (h.length + 6)) (.loc (h.length + 7)) = some true := eqA_lst (xs := [.bl false, .bl false, .bl false, .bl false, .bl false, .bl false, .bl false, .bl false, .bl false, .bl false, .bl true]) (ds := [.bool false, .bool false, .bool false, .bool false, .bool false, .bool false, .bool false, .bool false, .bool false, .bool false, .bool true]) (by simp) (by simp) rfl (by decide +kernel)
  have q2 : eqA (h ++ [.lst [.bl false, .bl false, .bl false], .lst [.bl false, .bl false, .bl false], .lst [.bl false, .bl false, .bl false, .bl false, .bl false, .bl false], .lst [.bl false, .bl false, .bl false], .lst [.bl false, .bl false, .bl false, .bl false, .bl false, .bl false, .bl false, .bl false, .bl false], .lst [.bl false, .bl true], .lst [.bl false, .bl false, .bl false, .bl false, .bl false, .bl false, .bl false, .bl false, .bl false, .bl false, .bl true], .lst [.bl false, .bl false, .bl false, .bl false, .bl false, .bl false, .bl false, .bl false, .bl false, .bl false, .bl true], .lst [one, two]]) (.loc (h.length + 8)) (.loc d) = some true := eqA_lst (xs := [one, two]) (ds := [d1, d2]) (by simp) (by rw [List.getElem?_append_left (lt_of_at hd)]; exact hd) (by simp [datsW, c1.e, c2.e]) c3
  unfold l__law_right_2
  simp [classes_10, parts_10, comp_k, q1, q2]
theorem right_10 {one two : AV} {d1 d2 : PyData} {h : PA.Heap} (c1 : Cl one d1) (c2 : Cl two d2) (c3 : PySem.SeqAt.shaped (.list [d1, d2]) = true) : ∃ g, f__law_right [.int 10, one, two] h = .ok (.bl true) (h ++ g) := by
  have q := suite_10 (h := h ++ [.lst [one], .lst [one], .lst [two], .lst [two], .lst [one, two]]) (d := h.length + 4) c1 c2 c3 (by simp)
  unfold f__law_right b__law_right
  simp at q
  simp [thrown_10, cut1, cut0, q]
theorem right_ok {one two : AV} {d1 d2 : PyData} {h : PA.Heap} (c1 : Cl one d1) (c2 : Cl two d2) (c3 : PySem.SeqAt.shaped (.list [d1, d2]) = true) : ∀ (i : Nat), i < 11 → ∃ g, f__law_right [.int i, one, two] h = .ok (.bl true) (h ++ g)
  | 0, _ => right_0 c1 c2 c3
  | 1, _ => right_1 c1 c2 c3
  | 2, _ => right_2 c1 c2 c3
  | 3, _ => right_3 c1 c2 c3
  | 4, _ => right_4 c1 c2 c3
  | 5, _ => right_5 c1 c2 c3
  | 6, _ => right_6 c1 c2 c3
  | 7, _ => right_7 c1 c2 c3
  | 8, _ => right_8 c1 c2 c3
  | 9, _ => right_9 c1 c2 c3
  | 10, _ => right_10 c1 c2 c3
  | n + 11, h => absurd h (by omega)
end K19
set_option maxRecDepth 100000
/-! Law: the draws; the law is True at every script. -/
namespace K19
open PA
open PySem (Str PyData)
def Draw (h : PA.Heap) (l c : Nat) : Prop := ∃ (st ix : Int) (k : AV) (cs : List Int), h[l]? = some (.lst [.int st, .loc c, .int ix, k]) ∧ h[c]? = some (.lst (cs.map .int)) ∧ cs.length ≤ 63 ∧ l ≠ c
theorem map_set_int (cs : List Int) (n : Nat) (v : Int) : (cs.map AV.int).set n (.int v) = (cs.set n v).map AV.int := by rw [List.map_set]
theorem next_ok {h : PA.Heap} {l c : Nat} {b : Int} (D : Draw h l c) (hb : 0 < b) (hb2 : b < 1073741824) : ∃ r h', f__law_next [.loc l, .int b] h = .ok (.int r) h' ∧ 0 ≤ r ∧ r < b ∧ Draw h' l c ∧ Fr [l, c] h h' := by
  obtain ⟨st, ix, k, cs, e1, e2, e3, e4⟩ := D
  have e4' : c ≠ l := fun z => e4 z.symm
  have c1 : cs.length ≤ 16777215 := by omega
  have hm : 0 < (if 1 < (cs.length : Int) then (cs.length : Int) else 1) := by split <;> omega
  have hv : ∃ v, atI (List.map AV.int cs ++ [AV.int 0]) (ix % (if 1 < (cs.length : Int) then (cs.length : Int) else 1)) = some (.int v) ∧ (v = 0 ∨ (0 < cs.length ∧ ixN cs.length (ix % cs.length) = some (ix % cs.length).toNat)) := by
    by_cases z : cs.length = 0
    · have : cs = [] := List.length_eq_zero_iff.mp z
      subst this
      refine ⟨0, ?_, .inl rfl⟩
      have : (if (1:Int) < (([] : List Int).length : Int) then (([] : List Int).length : Int) else 1) = 1 := by simp
      rw [this, Int.emod_one]
      rfl
    · have em : (if 1 < (cs.length : Int) then (cs.length : Int) else 1) = cs.length := by split <;> omega
      have h0 := Int.emod_nonneg ix (b := cs.length) (by omega)
      have h1 := Int.emod_lt_of_pos ix (b := cs.length) (by omega)
      rw [em]
      obtain ⟨v, a, b⟩ := atI_in (xs := List.map AV.int cs ++ [AV.int 0]) h0 (by simp; omega)
      have mem := List.mem_of_getElem? b
      simp at mem
      rcases mem with ⟨j, _, rfl⟩ | rfl
      · exact ⟨j, a, .inr ⟨by omega, ixN_in h0 h1⟩⟩
      · exact ⟨0, a, .inl rfl⟩
  obtain ⟨v, hv, hv2⟩ := hv
  unfold f__law_next b__law_next
  simp [e1, e2, c1, hm, hv]
  by_cases z : 1000000000000000000 ≤ v
  · obtain ⟨c2, hi⟩ := hv2.resolve_left (by omega)
    simp [z, e1, e2, hb, hb2, c2, hi]
    refine ⟨_, _, ⟨rfl, rfl⟩, Int.emod_nonneg _ (by omega), Int.emod_lt_of_pos _ hb, ⟨st, ix, k, cs.set (ix % cs.length).toNat (v / b), ?_, ?_, by simpa using e3, e4⟩, ?_⟩
    · rw [List.getElem?_set_ne e4']; simp [e1]
    · simp [e2]
    · exact ((Fr.push _).trans (Fr.set.mono (by simp)))
  · simp [z, e1, e2, hb]
    refine ⟨_, _, ⟨rfl, rfl⟩, Int.emod_nonneg _ (by omega), Int.emod_lt_of_pos _ hb, ⟨(st * 48271 + v * 69621 + 11) % 2147483647, ix + 1, k, cs, ?_, ?_, e3, e4⟩, ?_⟩
    · simp [e1]
    · rw [List.getElem?_set_ne e4]; simp [e2]
    · exact ((Fr.push _).trans (Fr.set.mono (by simp)))
theorem mix_ok {ns : List Int} {sd : Int} {h : PA.Heap} (hn : ns.length ≤ 63) : ∃ h', f__law_mix ns [.gl "#s", .int sd] h = .ok (.loc (h.length + 1)) h' ∧ Draw h' (h.length + 1) h.length ∧ Fr [] h h' := by
  obtain ⟨ρ', h', e, st, x, e2, e3⟩ := iter_ok (items := fun _ => some (ns.map .int)) (xs := ns.map .int) (g := PA.gName 3) (body := l__law_mix_1 ns) (fun _ ρ h' => ∃ (st : Int) (x : Option AV), ρ = [some (.gl "#s"), some (.int sd), some (.int st), x] ∧ h = h') (fun _ _ _ _ _ => rfl)
    (fun i x ρ h1 hx hI => by
      obtain ⟨st, y, rfl, rfl⟩ := hI
      rw [List.getElem?_map] at hx
      obtain ⟨n, _, rfl⟩ := Option.map_eq_some_iff.mp hx
      refine ⟨_, rfl, _, _, .inl (by simp [l__law_mix_1]; exact ⟨rfl, rfl⟩), ?_⟩
      exact ⟨_, _, rfl, rfl⟩)
    fuel 0 [some (.gl "#s"), some (.int sd), some (.int sd), none] h (by unfold fuel; simp; omega) (Nat.zero_le _) ⟨sd, none, rfl, rfl⟩
  subst e2 e3
  refine ⟨h ++ [.lst (ns.map .int), .lst [.int st, .loc h.length, .int 0, .int 14]], ?_, ⟨st, 0, .int 14, ns, by simp, by simp, hn, by omega⟩, Fr.push _⟩
  unfold f__law_mix b__law_mix
  simp [iScr, e]
theorem Draw.keep {S : List Nat} {h h' : PA.Heap} {l c : Nat} (D : Draw h l c) (f : Fr S h h') (hl : l ∉ S) (hc : c ∉ S) : Draw h' l c := by
  obtain ⟨st, ix, k, cs, e1, e2, e3, e4⟩ := D
  exact ⟨st, ix, k, cs, f.at_ _ _ hl e1, f.at_ _ _ hc e2, e3, e4⟩
theorem Draw.lt {h : PA.Heap} {l c : Nat} (D : Draw h l c) : l < h.length ∧ c < h.length := by
  obtain ⟨st, ix, k, cs, e1, e2, e3, e4⟩ := D
  exact ⟨lt_of_at e1, lt_of_at e2⟩

def ones : List AV := [.str "a", .str "", .int 7, .tup [.str "cut", .int 0], .non]
def twos : List AV := [.tup [], .str "kind", .int 0, .non]
theorem cl_str {s : Str} (hs : PySem.SeqAt.shaped (.list [.str s]) = true) : Cl (.str s) (.str s) := ⟨fun _ => rfl, hs⟩
theorem pair_ok : ∀ one ∈ ones, ∀ two ∈ twos, ∃ d1 d2, Cl one d1 ∧ Cl two d2 ∧ PySem.SeqAt.shaped (.list [d1, d2]) = true := by
  intro one h1 two h2
  simp only [ones, twos, List.mem_cons, List.not_mem_nil, or_false] at h1 h2
  rcases h1 with rfl | rfl | rfl | rfl | rfl <;> rcases h2 with rfl | rfl | rfl | rfl <;>
    exact ⟨_, _, ⟨fun _ => rfl, by decide +kernel⟩, ⟨fun _ => rfl, by decide +kernel⟩, by decide +kernel⟩
theorem range_at {n : Int} {i : Nat} {x : AV} (hx : (rangeL 0 n)[i]? = some x) : i < n.toNat ∧ x = .int i := by
  unfold rangeL at hx
  rw [List.getElem?_map] at hx
  obtain ⟨k, hk, rfl⟩ := Option.map_eq_some_iff.mp hx
  have := List.getElem?_eq_some_iff.mp hk
  obtain ⟨h1, h2⟩ := this
  simp at h1 h2
  subst h2
  exact ⟨by omega, by simp⟩
theorem law_true : ∀ ns : List Int, ns.length ≤ 63 → ∃ h', f_law ns [.gl "#s"] [] = .ok (.bl true) h' := by
  intro ns hn
  obtain ⟨h1, e1, D1, f1⟩ := mix_ok (sd := 19) (h := []) hn
  have fw : Fr [] h1 (h1 ++ [.lst ones]) := Fr.push _
  obtain ⟨r1, h2, e2, a1, b1, D2, f2⟩ := next_ok (b := 5) (D1.keep fw (by simp) (by simp)) (by omega) (by omega)
  have g2 := f2.at_ h1.length (.lst ones) (by intro z; have q := D1.lt.1; simp only [List.mem_cons, List.not_mem_nil, or_false, List.length_nil] at z q; omega) at_push
  obtain ⟨one, i1, m1⟩ := atI_in (xs := ones) a1 (by exact b1)
  have fw2 : Fr [] h2 (h2 ++ [.lst twos]) := Fr.push _
  obtain ⟨r2, h3, e3, a2, b2, D3, f3⟩ := next_ok (b := 4) (D2.keep fw2 (by simp) (by simp)) (by omega) (by omega)
  have g3 := f3.at_ h2.length (.lst twos) (by intro z; have q := D2.lt.1; simp only [List.mem_cons, List.not_mem_nil, or_false, List.length_nil] at z q; omega) at_push
  obtain ⟨two, i2, m2⟩ := atI_in (xs := twos) a2 (by exact b2)
  obtain ⟨d1, d2, c1, c2, c3⟩ := pair_ok one (List.mem_of_getElem? m1) two (List.mem_of_getElem? m2)
  -- each error in turn
  obtain ⟨acc, h4, e4, q4⟩ := comp_ok (items := fun _ => some (rangeL 0 11)) (xs := rangeL 0 11) (g := PA.gName 4) (t := tYes) (e := l_law_1 ns) (ρ := [some (.gl "#s"), some (.loc 1), some one, some two, none]) (fun i acc _ => acc = List.replicate i (.bl true)) (fun _ _ _ _ _ => rfl)
    (fun i x acc h hx hI => by
      obtain ⟨h0, rfl⟩ := range_at hx
      obtain ⟨g, eg⟩ := right_ok (h := h) c1 c2 c3 i (by simpa using h0)
      refine ⟨_, rfl, .inr ⟨h, .bl true, h ++ g, rfl, ?_, by rw [hI, ← List.replicate_succ']⟩⟩
      unfold l_law_1
      simp [eg])
    fuel 0 [] h3 (by decide) (Nat.zero_le _) (by decide) rfl
  have hb : blsOf acc = some (List.replicate 11 true) := by
    have : acc = List.replicate 11 (.bl true) := q4
    rw [this]; rfl
  unfold ones at e2 g2 i1
  unfold twos at e3 g3 i2
  unfold f_law b_law
  simp at e1 e2 e3 e4 g2 g3
  simp [e1, e2, g2, i1, e3, g3, i2, lComp, wipeA, e4, hb]
end K19
set_option maxRecDepth 100000
open PySem PySem.W PyProof.Rows in
set_option maxRecDepth 100000 in
set_option maxHeartbeats 0 in
theorem PySem.Challenge.cw_copyfollows_k19_errors_apart_holds : PySem.Challenge.rw_copyfollows_k19_errors_apart.Holds := by
  w_on; o_law; k_head; (case hw => w_witness2)
  k_fill
  refine PL.walk_law (l := PySem.Challenge.rw_copyfollows_k19_errors_apart) (k := 5) (x := "_law_script") (F := K19.f_law) rfl rfl ⟨rfl, by decide, by decide⟩ (fun w h Y => PySem.W.kIn_of Y) ?F K19.law_true
  case F =>
    intro w mg fa h KX G hmg
    refine' K19.all_mk KX G hmg ?gc_CopyError ?gc_InvalidDeed ?gc_InvalidMasters ?gc_InvalidRule ?gc_InvalidSize ?gc_InvalidText ?gc_InvalidWords ?gc_NotComparable ?gc_Possible ?gc_UnknownDeed ?gc_UnknownIndex ?gc_UnknownKind ?ya_UnknownKind ?yb_UnknownKind ?yc_UnknownKind ?yd_UnknownKind ?ca_UnknownKind ?cn_UnknownKind ?ct_UnknownKind ?cm_UnknownKind ?no_x_UnknownKind_ValueError ?ya_UnknownIndex ?yb_UnknownIndex ?yc_UnknownIndex ?yd_UnknownIndex ?ca_UnknownIndex ?cn_UnknownIndex ?ct_UnknownIndex ?cm_UnknownIndex ?no_x_UnknownIndex_ValueError ?ya_UnknownDeed ?yb_UnknownDeed ?yc_UnknownDeed ?yd_UnknownDeed ?ca_UnknownDeed ?cn_UnknownDeed ?ct_UnknownDeed ?cm_UnknownDeed ?no_x_UnknownDeed_ValueError ?ya_Possible ?yb_Possible ?yc_Possible ?yd_Possible ?ca_Possible ?cn_Possible ?ct_Possible ?cm_Possible ?no_x_Possible_ValueError ?ya_NotComparable ?yb_NotComparable ?yc_NotComparable ?yd_NotComparable ?ca_NotComparable ?cn_NotComparable ?ct_NotComparable ?cm_NotComparable ?no_x_NotComparable_ValueError ?ya_InvalidWords ?yb_InvalidWords ?yc_InvalidWords ?yd_InvalidWords ?ca_InvalidWords ?cn_InvalidWords ?ct_InvalidWords ?cm_InvalidWords ?no_x_InvalidWords_ValueError ?ya_InvalidText ?yb_InvalidText ?yc_InvalidText ?yd_InvalidText ?ca_InvalidText ?cn_InvalidText ?ct_InvalidText ?cm_InvalidText ?no_x_InvalidText_ValueError ?ya_InvalidSize ?yb_InvalidSize ?yc_InvalidSize ?yd_InvalidSize ?ca_InvalidSize ?cn_InvalidSize ?ct_InvalidSize ?cm_InvalidSize ?no_x_InvalidSize_ValueError ?ya_InvalidRule ?yb_InvalidRule ?yc_InvalidRule ?yd_InvalidRule ?ca_InvalidRule ?cn_InvalidRule ?ct_InvalidRule ?cm_InvalidRule ?no_x_InvalidRule_ValueError ?ya_InvalidMasters ?yb_InvalidMasters ?yc_InvalidMasters ?yd_InvalidMasters ?ca_InvalidMasters ?cn_InvalidMasters ?ct_InvalidMasters ?cm_InvalidMasters ?no_x_InvalidMasters_ValueError ?ya_InvalidDeed ?yb_InvalidDeed ?yc_InvalidDeed ?yd_InvalidDeed ?ca_InvalidDeed ?cn_InvalidDeed ?ct_InvalidDeed ?cm_InvalidDeed ?no_x_InvalidDeed_ValueError ?zb_ValueError ?xi_InvalidMasters ?ek_InvalidMasters ?eb_InvalidMasters ?et_InvalidMasters ?xi_InvalidSize ?ek_InvalidSize ?eb_InvalidSize ?et_InvalidSize ?xi_InvalidWords ?ek_InvalidWords ?eb_InvalidWords ?et_InvalidWords ?xi_NotComparable ?ek_NotComparable ?eb_NotComparable ?et_NotComparable ?m_InvalidDeed__CopyError ?m_InvalidMasters__CopyError ?m_InvalidRule__CopyError ?m_InvalidSize__CopyError ?m_InvalidText__CopyError ?m_InvalidWords__CopyError ?m_NotComparable__CopyError ?m_Possible__CopyError ?m_UnknownDeed__CopyError ?m_UnknownIndex__CopyError ?m_UnknownKind__CopyError ?xl_InvalidDeed ?xs_InvalidDeed ?ek_InvalidDeed ?eb_InvalidDeed ?et_InvalidDeed ?a_InvalidDeed___init__ ?ty_InvalidDeed___init__ ?l_InvalidDeed___init__ ?c_InvalidDeed___init__ ?k_InvalidDeed___init__ ?no_f_InvalidDeed_index ?xl_InvalidRule ?xs_InvalidRule ?ek_InvalidRule ?eb_InvalidRule ?et_InvalidRule ?a_InvalidRule___init__ ?ty_InvalidRule___init__ ?l_InvalidRule___init__ ?c_InvalidRule___init__ ?k_InvalidRule___init__ ?no_f_InvalidRule_point ?xl_InvalidText ?xs_InvalidText ?ek_InvalidText ?eb_InvalidText ?et_InvalidText ?a_InvalidText___init__ ?ty_InvalidText___init__ ?l_InvalidText___init__ ?c_InvalidText___init__ ?k_InvalidText___init__ ?no_f_InvalidText_line ?no_f_InvalidText_word ?xl_Possible ?xs_Possible ?ek_Possible ?eb_Possible ?et_Possible ?a_Possible___init__ ?ty_Possible___init__ ?l_Possible___init__ ?c_Possible___init__ ?k_Possible___init__ ?no_f_Possible_history ?xl_UnknownDeed ?xs_UnknownDeed ?ek_UnknownDeed ?eb_UnknownDeed ?et_UnknownDeed ?a_UnknownDeed___init__ ?ty_UnknownDeed___init__ ?l_UnknownDeed___init__ ?c_UnknownDeed___init__ ?k_UnknownDeed___init__ ?no_f_UnknownDeed_deed ?xl_UnknownIndex ?xs_UnknownIndex ?ek_UnknownIndex ?eb_UnknownIndex ?et_UnknownIndex ?a_UnknownIndex___init__ ?ty_UnknownIndex___init__ ?l_UnknownIndex___init__ ?c_UnknownIndex___init__ ?k_UnknownIndex___init__ ?no_f_UnknownIndex_index ?xl_UnknownKind ?xs_UnknownKind ?ek_UnknownKind ?eb_UnknownKind ?et_UnknownKind ?a_UnknownKind___init__ ?ty_UnknownKind___init__ ?l_UnknownKind___init__ ?c_UnknownKind___init__ ?k_UnknownKind___init__ ?no_f_UnknownKind_index ?no_x_UnknownKind_InvalidDeed ?no_x_UnknownIndex_InvalidDeed ?no_x_UnknownDeed_InvalidDeed ?no_x_Possible_InvalidDeed ?no_x_NotComparable_InvalidDeed ?no_x_InvalidWords_InvalidDeed ?no_x_InvalidText_InvalidDeed ?no_x_InvalidSize_InvalidDeed ?no_x_InvalidRule_InvalidDeed ?no_x_InvalidMasters_InvalidDeed ?no_x_InvalidDeed_InvalidDeed ?no_x_UnknownKind_InvalidMasters ?no_x_UnknownIndex_InvalidMasters ?no_x_UnknownDeed_InvalidMasters ?no_x_Possible_InvalidMasters ?no_x_NotComparable_InvalidMasters ?no_x_InvalidWords_InvalidMasters ?no_x_InvalidText_InvalidMasters ?no_x_InvalidSize_InvalidMasters ?no_x_InvalidRule_InvalidMasters ?no_x_InvalidMasters_InvalidMasters ?no_x_InvalidDeed_InvalidMasters ?no_x_UnknownKind_InvalidRule ?no_x_UnknownIndex_InvalidRule ?no_x_UnknownDeed_InvalidRule ?no_x_Possible_InvalidRule ?no_x_NotComparable_InvalidRule ?no_x_InvalidWords_InvalidRule ?no_x_InvalidText_InvalidRule ?no_x_InvalidSize_InvalidRule ?no_x_InvalidRule_InvalidRule ?no_x_InvalidMasters_InvalidRule ?no_x_InvalidDeed_InvalidRule ?no_x_UnknownKind_InvalidSize ?no_x_UnknownIndex_InvalidSize ?no_x_UnknownDeed_InvalidSize ?no_x_Possible_InvalidSize ?no_x_NotComparable_InvalidSize ?no_x_InvalidWords_InvalidSize ?no_x_InvalidText_InvalidSize ?no_x_InvalidSize_InvalidSize ?no_x_InvalidRule_InvalidSize ?no_x_InvalidMasters_InvalidSize ?no_x_InvalidDeed_InvalidSize ?no_x_UnknownKind_InvalidText ?no_x_UnknownIndex_InvalidText ?no_x_UnknownDeed_InvalidText ?no_x_Possible_InvalidText ?no_x_NotComparable_InvalidText ?no_x_InvalidWords_InvalidText ?no_x_InvalidText_InvalidText ?no_x_InvalidSize_InvalidText ?no_x_InvalidRule_InvalidText ?no_x_InvalidMasters_InvalidText ?no_x_InvalidDeed_InvalidText ?no_x_UnknownKind_InvalidWords ?no_x_UnknownIndex_InvalidWords ?no_x_UnknownDeed_InvalidWords ?no_x_Possible_InvalidWords ?no_x_NotComparable_InvalidWords ?no_x_InvalidWords_InvalidWords ?no_x_InvalidText_InvalidWords ?no_x_InvalidSize_InvalidWords ?no_x_InvalidRule_InvalidWords ?no_x_InvalidMasters_InvalidWords ?no_x_InvalidDeed_InvalidWords ?no_x_UnknownKind_NotComparable ?no_x_UnknownIndex_NotComparable ?no_x_UnknownDeed_NotComparable ?no_x_Possible_NotComparable ?no_x_NotComparable_NotComparable ?no_x_InvalidWords_NotComparable ?no_x_InvalidText_NotComparable ?no_x_InvalidSize_NotComparable ?no_x_InvalidRule_NotComparable ?no_x_InvalidMasters_NotComparable ?no_x_InvalidDeed_NotComparable ?no_x_UnknownKind_Possible ?no_x_UnknownIndex_Possible ?no_x_UnknownDeed_Possible ?no_x_Possible_Possible ?no_x_NotComparable_Possible ?no_x_InvalidWords_Possible ?no_x_InvalidText_Possible ?no_x_InvalidSize_Possible ?no_x_InvalidRule_Possible ?no_x_InvalidMasters_Possible ?no_x_InvalidDeed_Possible ?no_x_UnknownKind_UnknownDeed ?no_x_UnknownIndex_UnknownDeed ?no_x_UnknownDeed_UnknownDeed ?no_x_Possible_UnknownDeed ?no_x_NotComparable_UnknownDeed ?no_x_InvalidWords_UnknownDeed ?no_x_InvalidText_UnknownDeed ?no_x_InvalidSize_UnknownDeed ?no_x_InvalidRule_UnknownDeed ?no_x_InvalidMasters_UnknownDeed ?no_x_InvalidDeed_UnknownDeed ?no_x_UnknownKind_UnknownIndex ?no_x_UnknownIndex_UnknownIndex ?no_x_UnknownDeed_UnknownIndex ?no_x_Possible_UnknownIndex ?no_x_NotComparable_UnknownIndex ?no_x_InvalidWords_UnknownIndex ?no_x_InvalidText_UnknownIndex ?no_x_InvalidSize_UnknownIndex ?no_x_InvalidRule_UnknownIndex ?no_x_InvalidMasters_UnknownIndex ?no_x_InvalidDeed_UnknownIndex ?no_x_UnknownKind_UnknownKind ?no_x_UnknownIndex_UnknownKind ?no_x_UnknownDeed_UnknownKind ?no_x_Possible_UnknownKind ?no_x_NotComparable_UnknownKind ?no_x_InvalidWords_UnknownKind ?no_x_InvalidText_UnknownKind ?no_x_InvalidSize_UnknownKind ?no_x_InvalidRule_UnknownKind ?no_x_InvalidMasters_UnknownKind ?no_x_InvalidDeed_UnknownKind ?yn_InvalidDeed_index ?yn_InvalidRule_point ?yn_InvalidText_line ?yn_InvalidText_word ?yn_Possible_history ?yn_UnknownDeed_deed ?yn_UnknownIndex_index ?yn_UnknownKind_index ?hz_all ?hz_int ?hz_isinstance ?hz_len ?hz_list ?hz_max ?hz_range ?a__law_mix ?l__law_mix ?c__law_mix ?k__law_mix ?a__law_next ?l__law_next ?c__law_next ?k__law_next ?a__law_bare ?l__law_bare ?c__law_bare ?k__law_bare ?a__law_thrown ?l__law_thrown ?c__law_thrown ?k__law_thrown ?a__law_classes ?l__law_classes ?c__law_classes ?k__law_classes ?a__law_parts ?l__law_parts ?c__law_parts ?k__law_parts ?a__law_right ?l__law_right ?c__law_right ?k__law_right ?a_law ?l_law ?c_law ?k_law
    (case gc_CopyError => k_is)
    (case gc_InvalidDeed => k_is)
    (case gc_InvalidMasters => k_is)
    (case gc_InvalidRule => k_is)
    (case gc_InvalidSize => k_is)
    (case gc_InvalidText => k_is)
    (case gc_InvalidWords => k_is)
    (case gc_NotComparable => k_is)
    (case gc_Possible => k_is)
    (case gc_UnknownDeed => k_is)
    (case gc_UnknownIndex => k_is)
    (case gc_UnknownKind => k_is)
    (case ya_UnknownKind => k_is)
    (case yb_UnknownKind => k_is)
    (case yc_UnknownKind => k_is)
    (case yd_UnknownKind => k_is)
    (case ca_UnknownKind => k_is)
    (case cn_UnknownKind => k_is)
    (case ct_UnknownKind => k_is)
    (case cm_UnknownKind => k_is)
    (case no_x_UnknownKind_ValueError => kit_is)
    (case ya_UnknownIndex => k_is)
    (case yb_UnknownIndex => k_is)
    (case yc_UnknownIndex => k_is)
    (case yd_UnknownIndex => k_is)
    (case ca_UnknownIndex => k_is)
    (case cn_UnknownIndex => k_is)
    (case ct_UnknownIndex => k_is)
    (case cm_UnknownIndex => k_is)
    (case no_x_UnknownIndex_ValueError => kit_is)
    (case ya_UnknownDeed => k_is)
    (case yb_UnknownDeed => k_is)
    (case yc_UnknownDeed => k_is)
    (case yd_UnknownDeed => k_is)
    (case ca_UnknownDeed => k_is)
    (case cn_UnknownDeed => k_is)
    (case ct_UnknownDeed => k_is)
    (case cm_UnknownDeed => k_is)
    (case no_x_UnknownDeed_ValueError => kit_is)
    (case ya_Possible => k_is)
    (case yb_Possible => k_is)
    (case yc_Possible => k_is)
    (case yd_Possible => k_is)
    (case ca_Possible => k_is)
    (case cn_Possible => k_is)
    (case ct_Possible => k_is)
    (case cm_Possible => k_is)
    (case no_x_Possible_ValueError => kit_is)
    (case ya_NotComparable => k_is)
    (case yb_NotComparable => k_is)
    (case yc_NotComparable => k_is)
    (case yd_NotComparable => k_is)
    (case ca_NotComparable => k_is)
    (case cn_NotComparable => k_is)
    (case ct_NotComparable => k_is)
    (case cm_NotComparable => k_is)
    (case no_x_NotComparable_ValueError => kit_is)
    (case ya_InvalidWords => k_is)
    (case yb_InvalidWords => k_is)
    (case yc_InvalidWords => k_is)
    (case yd_InvalidWords => k_is)
    (case ca_InvalidWords => k_is)
    (case cn_InvalidWords => k_is)
    (case ct_InvalidWords => k_is)
    (case cm_InvalidWords => k_is)
    (case no_x_InvalidWords_ValueError => kit_is)
    (case ya_InvalidText => k_is)
    (case yb_InvalidText => k_is)
    (case yc_InvalidText => k_is)
    (case yd_InvalidText => k_is)
    (case ca_InvalidText => k_is)
    (case cn_InvalidText => k_is)
    (case ct_InvalidText => k_is)
    (case cm_InvalidText => k_is)
    (case no_x_InvalidText_ValueError => kit_is)
    (case ya_InvalidSize => k_is)
    (case yb_InvalidSize => k_is)
    (case yc_InvalidSize => k_is)
    (case yd_InvalidSize => k_is)
    (case ca_InvalidSize => k_is)
    (case cn_InvalidSize => k_is)
    (case ct_InvalidSize => k_is)
    (case cm_InvalidSize => k_is)
    (case no_x_InvalidSize_ValueError => kit_is)
    (case ya_InvalidRule => k_is)
    (case yb_InvalidRule => k_is)
    (case yc_InvalidRule => k_is)
    (case yd_InvalidRule => k_is)
    (case ca_InvalidRule => k_is)
    (case cn_InvalidRule => k_is)
    (case ct_InvalidRule => k_is)
    (case cm_InvalidRule => k_is)
    (case no_x_InvalidRule_ValueError => kit_is)
    (case ya_InvalidMasters => k_is)
    (case yb_InvalidMasters => k_is)
    (case yc_InvalidMasters => k_is)
    (case yd_InvalidMasters => k_is)
    (case ca_InvalidMasters => k_is)
    (case cn_InvalidMasters => k_is)
    (case ct_InvalidMasters => k_is)
    (case cm_InvalidMasters => k_is)
    (case no_x_InvalidMasters_ValueError => kit_is)
    (case ya_InvalidDeed => k_is)
    (case yb_InvalidDeed => k_is)
    (case yc_InvalidDeed => k_is)
    (case yd_InvalidDeed => k_is)
    (case ca_InvalidDeed => k_is)
    (case cn_InvalidDeed => k_is)
    (case ct_InvalidDeed => k_is)
    (case cm_InvalidDeed => k_is)
    (case no_x_InvalidDeed_ValueError => kit_is)
    (case zb_ValueError => k_is)
    (case xi_InvalidMasters => k_exc)
    (case ek_InvalidMasters => k_is)
    (case eb_InvalidMasters => k_is)
    (case et_InvalidMasters => k_is)
    (case xi_InvalidSize => k_exc)
    (case ek_InvalidSize => k_is)
    (case eb_InvalidSize => k_is)
    (case et_InvalidSize => k_is)
    (case xi_InvalidWords => k_exc)
    (case ek_InvalidWords => k_is)
    (case eb_InvalidWords => k_is)
    (case et_InvalidWords => k_is)
    (case xi_NotComparable => k_exc)
    (case ek_NotComparable => k_is)
    (case eb_NotComparable => k_is)
    (case et_NotComparable => k_is)
    (case m_InvalidDeed__CopyError => kts_exm)
    (case m_InvalidMasters__CopyError => kts_exm)
    (case m_InvalidRule__CopyError => kts_exm)
    (case m_InvalidSize__CopyError => kts_exm)
    (case m_InvalidText__CopyError => kts_exm)
    (case m_InvalidWords__CopyError => kts_exm)
    (case m_NotComparable__CopyError => kts_exm)
    (case m_Possible__CopyError => kts_exm)
    (case m_UnknownDeed__CopyError => kts_exm)
    (case m_UnknownIndex__CopyError => kts_exm)
    (case m_UnknownKind__CopyError => kts_exm)
    (case xl_InvalidDeed => k_is)
    (case xs_InvalidDeed => k_is)
    (case ek_InvalidDeed => k_is)
    (case eb_InvalidDeed => k_is)
    (case et_InvalidDeed => k_is)
    (case a_InvalidDeed___init__ => k_is)
    (case ty_InvalidDeed___init__ => k_is)
    (case l_InvalidDeed___init__ => k_is)
    (case c_InvalidDeed___init__ => k_is)
    (case k_InvalidDeed___init__ => k_is)
    (case no_f_InvalidDeed_index => k_is)
    (case xl_InvalidRule => k_is)
    (case xs_InvalidRule => k_is)
    (case ek_InvalidRule => k_is)
    (case eb_InvalidRule => k_is)
    (case et_InvalidRule => k_is)
    (case a_InvalidRule___init__ => k_is)
    (case ty_InvalidRule___init__ => k_is)
    (case l_InvalidRule___init__ => k_is)
    (case c_InvalidRule___init__ => k_is)
    (case k_InvalidRule___init__ => k_is)
    (case no_f_InvalidRule_point => k_is)
    (case xl_InvalidText => k_is)
    (case xs_InvalidText => k_is)
    (case ek_InvalidText => k_is)
    (case eb_InvalidText => k_is)
    (case et_InvalidText => k_is)
    (case a_InvalidText___init__ => k_is)
    (case ty_InvalidText___init__ => k_is)
    (case l_InvalidText___init__ => k_is)
    (case c_InvalidText___init__ => k_is)
    (case k_InvalidText___init__ => k_is)
    (case no_f_InvalidText_line => k_is)
    (case no_f_InvalidText_word => k_is)
    (case xl_Possible => k_is)
    (case xs_Possible => k_is)
    (case ek_Possible => k_is)
    (case eb_Possible => k_is)
    (case et_Possible => k_is)
    (case a_Possible___init__ => k_is)
    (case ty_Possible___init__ => k_is)
    (case l_Possible___init__ => k_is)
    (case c_Possible___init__ => k_is)
    (case k_Possible___init__ => k_is)
    (case no_f_Possible_history => k_is)
    (case xl_UnknownDeed => k_is)
    (case xs_UnknownDeed => k_is)
    (case ek_UnknownDeed => k_is)
    (case eb_UnknownDeed => k_is)
    (case et_UnknownDeed => k_is)
    (case a_UnknownDeed___init__ => k_is)
    (case ty_UnknownDeed___init__ => k_is)
    (case l_UnknownDeed___init__ => k_is)
    (case c_UnknownDeed___init__ => k_is)
    (case k_UnknownDeed___init__ => k_is)
    (case no_f_UnknownDeed_deed => k_is)
    (case xl_UnknownIndex => k_is)
    (case xs_UnknownIndex => k_is)
    (case ek_UnknownIndex => k_is)
    (case eb_UnknownIndex => k_is)
    (case et_UnknownIndex => k_is)
    (case a_UnknownIndex___init__ => k_is)
    (case ty_UnknownIndex___init__ => k_is)
    (case l_UnknownIndex___init__ => k_is)
    (case c_UnknownIndex___init__ => k_is)
    (case k_UnknownIndex___init__ => k_is)
    (case no_f_UnknownIndex_index => k_is)
    (case xl_UnknownKind => k_is)
    (case xs_UnknownKind => k_is)
    (case ek_UnknownKind => k_is)
    (case eb_UnknownKind => k_is)
    (case et_UnknownKind => k_is)
    (case a_UnknownKind___init__ => k_is)
    (case ty_UnknownKind___init__ => k_is)
    (case l_UnknownKind___init__ => k_is)
    (case c_UnknownKind___init__ => k_is)
    (case k_UnknownKind___init__ => k_is)
    (case no_f_UnknownKind_index => k_is)
    (case no_x_UnknownKind_InvalidDeed => kit_is)
    (case no_x_UnknownIndex_InvalidDeed => kit_is)
    (case no_x_UnknownDeed_InvalidDeed => kit_is)
    (case no_x_Possible_InvalidDeed => kit_is)
    (case no_x_NotComparable_InvalidDeed => kit_is)
    (case no_x_InvalidWords_InvalidDeed => kit_is)
    (case no_x_InvalidText_InvalidDeed => kit_is)
    (case no_x_InvalidSize_InvalidDeed => kit_is)
    (case no_x_InvalidRule_InvalidDeed => kit_is)
    (case no_x_InvalidMasters_InvalidDeed => kit_is)
    (case no_x_InvalidDeed_InvalidDeed => kit_is)
    (case no_x_UnknownKind_InvalidMasters => kit_is)
    (case no_x_UnknownIndex_InvalidMasters => kit_is)
    (case no_x_UnknownDeed_InvalidMasters => kit_is)
    (case no_x_Possible_InvalidMasters => kit_is)
    (case no_x_NotComparable_InvalidMasters => kit_is)
    (case no_x_InvalidWords_InvalidMasters => kit_is)
    (case no_x_InvalidText_InvalidMasters => kit_is)
    (case no_x_InvalidSize_InvalidMasters => kit_is)
    (case no_x_InvalidRule_InvalidMasters => kit_is)
    (case no_x_InvalidMasters_InvalidMasters => kit_is)
    (case no_x_InvalidDeed_InvalidMasters => kit_is)
    (case no_x_UnknownKind_InvalidRule => kit_is)
    (case no_x_UnknownIndex_InvalidRule => kit_is)
    (case no_x_UnknownDeed_InvalidRule => kit_is)
    (case no_x_Possible_InvalidRule => kit_is)
    (case no_x_NotComparable_InvalidRule => kit_is)
    (case no_x_InvalidWords_InvalidRule => kit_is)
    (case no_x_InvalidText_InvalidRule => kit_is)
    (case no_x_InvalidSize_InvalidRule => kit_is)
    (case no_x_InvalidRule_InvalidRule => kit_is)
    (case no_x_InvalidMasters_InvalidRule => kit_is)
    (case no_x_InvalidDeed_InvalidRule => kit_is)
    (case no_x_UnknownKind_InvalidSize => kit_is)
    (case no_x_UnknownIndex_InvalidSize => kit_is)
    (case no_x_UnknownDeed_InvalidSize => kit_is)
    (case no_x_Possible_InvalidSize => kit_is)
    (case no_x_NotComparable_InvalidSize => kit_is)
    (case no_x_InvalidWords_InvalidSize => kit_is)
    (case no_x_InvalidText_InvalidSize => kit_is)
    (case no_x_InvalidSize_InvalidSize => kit_is)
    (case no_x_InvalidRule_InvalidSize => kit_is)
    (case no_x_InvalidMasters_InvalidSize => kit_is)
    (case no_x_InvalidDeed_InvalidSize => kit_is)
    (case no_x_UnknownKind_InvalidText => kit_is)
    (case no_x_UnknownIndex_InvalidText => kit_is)
    (case no_x_UnknownDeed_InvalidText => kit_is)
    (case no_x_Possible_InvalidText => kit_is)
    (case no_x_NotComparable_InvalidText => kit_is)
    (case no_x_InvalidWords_InvalidText => kit_is)
    (case no_x_InvalidText_InvalidText => kit_is)
    (case no_x_InvalidSize_InvalidText => kit_is)
    (case no_x_InvalidRule_InvalidText => kit_is)
    (case no_x_InvalidMasters_InvalidText => kit_is)
    (case no_x_InvalidDeed_InvalidText => kit_is)
    (case no_x_UnknownKind_InvalidWords => kit_is)
    (case no_x_UnknownIndex_InvalidWords => kit_is)
    (case no_x_UnknownDeed_InvalidWords => kit_is)
    (case no_x_Possible_InvalidWords => kit_is)
    (case no_x_NotComparable_InvalidWords => kit_is)
    (case no_x_InvalidWords_InvalidWords => kit_is)
    (case no_x_InvalidText_InvalidWords => kit_is)
    (case no_x_InvalidSize_InvalidWords => kit_is)
    (case no_x_InvalidRule_InvalidWords => kit_is)
    (case no_x_InvalidMasters_InvalidWords => kit_is)
    (case no_x_InvalidDeed_InvalidWords => kit_is)
    (case no_x_UnknownKind_NotComparable => kit_is)
    (case no_x_UnknownIndex_NotComparable => kit_is)
    (case no_x_UnknownDeed_NotComparable => kit_is)
    (case no_x_Possible_NotComparable => kit_is)
    (case no_x_NotComparable_NotComparable => kit_is)
    (case no_x_InvalidWords_NotComparable => kit_is)
    (case no_x_InvalidText_NotComparable => kit_is)
    (case no_x_InvalidSize_NotComparable => kit_is)
    (case no_x_InvalidRule_NotComparable => kit_is)
    (case no_x_InvalidMasters_NotComparable => kit_is)
    (case no_x_InvalidDeed_NotComparable => kit_is)
    (case no_x_UnknownKind_Possible => kit_is)
    (case no_x_UnknownIndex_Possible => kit_is)
    (case no_x_UnknownDeed_Possible => kit_is)
    (case no_x_Possible_Possible => kit_is)
    (case no_x_NotComparable_Possible => kit_is)
    (case no_x_InvalidWords_Possible => kit_is)
    (case no_x_InvalidText_Possible => kit_is)
    (case no_x_InvalidSize_Possible => kit_is)
    (case no_x_InvalidRule_Possible => kit_is)
    (case no_x_InvalidMasters_Possible => kit_is)
    (case no_x_InvalidDeed_Possible => kit_is)
    (case no_x_UnknownKind_UnknownDeed => kit_is)
    (case no_x_UnknownIndex_UnknownDeed => kit_is)
    (case no_x_UnknownDeed_UnknownDeed => kit_is)
    (case no_x_Possible_UnknownDeed => kit_is)
    (case no_x_NotComparable_UnknownDeed => kit_is)
    (case no_x_InvalidWords_UnknownDeed => kit_is)
    (case no_x_InvalidText_UnknownDeed => kit_is)
    (case no_x_InvalidSize_UnknownDeed => kit_is)
    (case no_x_InvalidRule_UnknownDeed => kit_is)
    (case no_x_InvalidMasters_UnknownDeed => kit_is)
    (case no_x_InvalidDeed_UnknownDeed => kit_is)
    (case no_x_UnknownKind_UnknownIndex => kit_is)
    (case no_x_UnknownIndex_UnknownIndex => kit_is)
    (case no_x_UnknownDeed_UnknownIndex => kit_is)
    (case no_x_Possible_UnknownIndex => kit_is)
    (case no_x_NotComparable_UnknownIndex => kit_is)
    (case no_x_InvalidWords_UnknownIndex => kit_is)
    (case no_x_InvalidText_UnknownIndex => kit_is)
    (case no_x_InvalidSize_UnknownIndex => kit_is)
    (case no_x_InvalidRule_UnknownIndex => kit_is)
    (case no_x_InvalidMasters_UnknownIndex => kit_is)
    (case no_x_InvalidDeed_UnknownIndex => kit_is)
    (case no_x_UnknownKind_UnknownKind => kit_is)
    (case no_x_UnknownIndex_UnknownKind => kit_is)
    (case no_x_UnknownDeed_UnknownKind => kit_is)
    (case no_x_Possible_UnknownKind => kit_is)
    (case no_x_NotComparable_UnknownKind => kit_is)
    (case no_x_InvalidWords_UnknownKind => kit_is)
    (case no_x_InvalidText_UnknownKind => kit_is)
    (case no_x_InvalidSize_UnknownKind => kit_is)
    (case no_x_InvalidRule_UnknownKind => kit_is)
    (case no_x_InvalidMasters_UnknownKind => kit_is)
    (case no_x_InvalidDeed_UnknownKind => kit_is)
    (case yn_InvalidDeed_index => k_is)
    (case yn_InvalidRule_point => k_is)
    (case yn_InvalidText_line => k_is)
    (case yn_InvalidText_word => k_is)
    (case yn_Possible_history => k_is)
    (case yn_UnknownDeed_deed => k_is)
    (case yn_UnknownIndex_index => k_is)
    (case yn_UnknownKind_index => k_is)
    (case hz_all => k_is)
    (case hz_int => k_is)
    (case hz_isinstance => k_is)
    (case hz_len => k_is)
    (case hz_list => k_is)
    (case hz_max => k_is)
    (case hz_range => k_is)
    (case a__law_mix => k_is)
    (case l__law_mix => k_is)
    (case c__law_mix => k_is)
    (case k__law_mix => k_is)
    (case a__law_next => k_is)
    (case l__law_next => k_is)
    (case c__law_next => k_is)
    (case k__law_next => k_is)
    (case a__law_bare => k_is)
    (case l__law_bare => k_is)
    (case c__law_bare => k_is)
    (case k__law_bare => k_is)
    (case a__law_thrown => k_is)
    (case l__law_thrown => k_is)
    (case c__law_thrown => k_is)
    (case k__law_thrown => k_is)
    (case a__law_classes => k_is)
    (case l__law_classes => k_is)
    (case c__law_classes => k_is)
    (case k__law_classes => k_is)
    (case a__law_parts => k_is)
    (case l__law_parts => k_is)
    (case c__law_parts => k_is)
    (case k__law_parts => k_is)
    (case a__law_right => k_is)
    (case l__law_right => k_is)
    (case c__law_right => k_is)
    (case k__law_right => k_is)
    (case a_law => k_is)
    (case l_law => k_is)
    (case c_law => k_is)
    (case k_law => k_is)
