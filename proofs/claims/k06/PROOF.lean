import PyProof.Rows.All
import Wide.All
import OpenK.AllK
import Wide.FinOn
import PyProof.EqLayable
import PyProof.StrBlockL
import PyProof.StrBlock2
import HandS.ForMost
import HandS.Slots
import HandS.SlotsOwn
import HandS.Exc
import HandS.ExcOwn
import HandS.Star
import HandS.TupAny
import HandS.TupMul
import HandS.Comp
import HandS.Property
import HandS.WordsExc
import HandS.Iter
import HandS.IsInst
import HandS.Text
import HandS.FStr
import HandS.WordsDict
import KE.GoesEnum
import HandS.DictComp
import HandS.HeadHook3
import HandS.SetFor
import HandS.More
import HandS.Strs
import PyProof.DictUpdate
import HandS.Ends
import HandS.ExcInit
import HandS.TryMany
import HandS.ExcField
import HandS.DeepEq
import HandS.ListItems
import HandS.Style
import HandS.Finally
import HandS.Conv
import HandS.ExcIs
import PySem.Challenge.RW_copyfollows_k06_books_refused
import PyProof.StrLawsTight
import PyProof.FitsReplace
import KE.RegKIsAll
import KE.RegKTryMore
set_option Elab.async false
set_option linter.all false
/-! Abs: plain data, a plain heap, and what the constructs of Python do with them: a shallow language of total functions. No machine in sight. -/
namespace PA
open PySem (Str PyData)

inductive AV where
  | non | bl (b : Bool) | int (i : Int) | str (s : Str) | tup (xs : List AV) | loc (l : Nat) | gl (g : String) | ty (n : String)
  deriving Inhabited

inductive AO where
  | lst (xs : List AV) | dct (kvs : List (AV × AV)) | lck (kvs : List (AV × AV)) | ins (c : String) (fs : List (Str × AV))
  deriving Inhabited

abbrev Heap := List AO
structure Exc where
  cls : String
  fs : List (Str × AV)

inductive Res (α : Type) where
  | ok (a : α) (h : Heap) | exc (e : Exc) (h : Heap) | bad

def bnd {α β : Type} (m : Heap → Res α) (k : α → Heap → Res β) : Heap → Res β := fun h =>
  match m h with
  | .ok a h' => k a h'
  | .exc e h' => .exc e h'
  | .bad => .bad

abbrev Env := List (Option AV)
abbrev EE := Env → Heap → Res AV
abbrev LL := Env → Heap → Res (List AV)
abbrev BB := Env → Heap → Res Bool
abbrev FF := List AV → Heap → Res AV

def AV.isNon : AV → Bool
  | .non => true
  | _ => false

def szl : Nat := 16777216

/-! ### data -/
def datsW (f : AV → Option PyData) : List AV → Option (List PyData)
  | [] => some []
  | x :: xs => match f x, datsW f xs with
    | some d, some ds => some (d :: ds)
    | _, _ => none
def datH (h : Heap) : Nat → AV → Option PyData
  | 0, .non => some .none
  | 0, .bl b => some (.bool b)
  | 0, .int i => some (.int i)
  | 0, .str s => some (.str s)
  | 0, _ => none
  | n + 1, .non => some .none
  | n + 1, .bl b => some (.bool b)
  | n + 1, .int i => some (.int i)
  | n + 1, .str s => some (.str s)
  | n + 1, .tup xs => (datsW (datH h n) xs).map .tuple
  | n + 1, .loc l => match h[l]? with
    | some (.lst xs) => (datsW (datH h n) xs).map .list
    | _ => none
  | n + 1, .gl _ => none
  | n + 1, .ty _ => none

def seqOf (h : Heap) : AV → Option (List AV)
  | .tup xs => some xs
  | .loc l => match h[l]? with
    | some (.lst xs) => some xs
    | _ => none
  | _ => none

/-- the place that an index of any sign means -/
def ixN (n : Nat) (i : Int) : Option Nat := if 0 ≤ i then (if i < n then some i.toNat else none) else if -(n : Int) ≤ i then some (i + n).toNat else none
def atI (xs : List AV) (i : Int) : Option AV := (ixN xs.length i).bind fun j => xs[j]?
/-- == of flat values -/
def flat : AV → Bool
  | .non | .bl _ | .int _ | .str _ => true
  | _ => false
def eqF : AV → AV → Bool
  | .non, .non => true
  | .bl a, .bl b => a == b
  | .bl a, .int b => (if a then 1 else 0) == b
  | .int a, .bl b => a == (if b then 1 else 0)
  | .int a, .int b => a == b
  | .str a, .str b => a == b
  | _, _ => false
def inF (x : AV) (xs : List AV) : Bool := xs.any fun y => eqF y x
/-- keys of dicts: ints, texts -/
def isKey : AV → Bool
  | .int _ | .str _ => true
  | _ => false
def keyEq : AV → AV → Bool
  | .int a, .int b => decide (a = b)
  | .str a, .str b => decide (a = b)
  | _, _ => false
def dGet (kvs : List (AV × AV)) (k : AV) : Option AV := (kvs.find? fun p => keyEq p.1 k).map (·.2)
def dPut (kvs : List (AV × AV)) (k v : AV) : List (AV × AV) :=
  if (kvs.any fun p => keyEq p.1 k) = true then kvs.map (fun p => if keyEq p.1 k = true then (p.1, v) else p) else kvs ++ [(k, v)]

/-! ### expressions -/
def eVar (i : Nat) : EE := fun ρ h => match ρ[i]? with
  | some (some v) => .ok v h
  | _ => .bad
def eC (v : AV) : EE := fun _ h => .ok v h
def lNil : LL := fun _ h => .ok [] h
def lCons (e : EE) (l : LL) : LL := fun ρ => bnd (e ρ) fun v => bnd (l ρ) fun vs h => .ok (v :: vs) h
def lStar (e : EE) (l : LL) : LL := fun ρ => bnd (e ρ) fun v h => match seqOf h v with
  | some xs => bnd (l ρ) (fun vs h => .ok (xs ++ vs) h) h
  | none => .bad
def eTup (l : LL) : EE := fun ρ => bnd (l ρ) fun vs h => if vs.length ≤ szl then .ok (.tup vs) h else .bad
def eLst (l : LL) : EE := fun ρ => bnd (l ρ) fun vs h => if vs.length ≤ szl then .ok (.loc h.length) (h ++ [.lst vs]) else .bad
abbrev O2 := AV → AV → Heap → Res AV
def eBin (o : O2) (a b : EE) : EE := fun ρ => bnd (a ρ) fun x => bnd (b ρ) fun y => o x y
def tB (e : EE) : BB := fun ρ => bnd (e ρ) fun v h => match v with
  | .bl b => .ok b h
  | _ => .bad
def tNot (t : BB) : BB := fun ρ => bnd (t ρ) fun b h => .ok (!b) h
def tAnd (t u : BB) : BB := fun ρ => bnd (t ρ) fun b => if b = true then u ρ else fun h => .ok false h
def tOr (t u : BB) : BB := fun ρ => bnd (t ρ) fun b => if b = true then (fun h => .ok true h) else u ρ
def eNot (e : EE) : EE := fun ρ => bnd (e ρ) fun v h => match v with
  | .bl b => .ok (.bl (!b)) h
  | _ => .bad
def eAnd (a b : EE) : EE := fun ρ => bnd (a ρ) fun v h => match v with
  | .bl true => b ρ h
  | .bl false => .ok (.bl false) h
  | _ => .bad
def eOr (a b : EE) : EE := fun ρ => bnd (a ρ) fun v h => match v with
  | .bl true => .ok (.bl true) h
  | .bl false => b ρ h
  | _ => .bad
def eIf (t : BB) (a b : EE) : EE := fun ρ => bnd (t ρ) fun c => if c = true then a ρ else b ρ
def eChain (o o' : O2) (a b c : EE) : EE := fun ρ => bnd (a ρ) fun x => bnd (b ρ) fun y => bnd (o x y) fun r h => match r with
  | .bl true => bnd (c ρ) (fun z => o' y z) h
  | .bl false => .ok (.bl false) h
  | _ => .bad
/-- e.f, e an instance of c -/
def eAttr (c : String) (f : Str) (e : EE) : EE := fun ρ => bnd (e ρ) fun v h => match v with
  | .loc l => match h[l]? with
    | some (.ins c' fs) => if c' = c then (match fs.lookup f with
      | some x => .ok x h
      | none => .bad) else .bad
    | _ => .bad
  | _ => .bad

/-! ### calls -/
def eCall (F : FF) (l : LL) : EE := fun ρ => bnd (l ρ) F
def isIns (c : String) (h : Heap) : AV → Bool
  | .loc l => match h[l]? with
    | some (.ins c' _) => decide (c' = c)
    | _ => false
  | _ => false
def noFld (m : Str) (h : Heap) : AV → Bool
  | .loc l => match h[l]? with
    | some (.ins _ fs) => (fs.lookup m).isNone
    | _ => false
  | _ => false
def eMeth (c : String) (m : Str) (F : FF) (e : EE) (l : LL) : EE := fun ρ => bnd (e ρ) fun v h =>
  if (isIns c h v && noFld m h v) = true then bnd (l ρ) (fun vs => F (v :: vs)) h else .bad
def noExc {α : Type} : Res α → Res α
  | .exc _ _ => .bad
  | r => r
def eProp (c : String) (F : FF) (e : EE) : EE := fun ρ => bnd (e ρ) fun v h => if isIns c h v = true then noExc (F [v] h) else .bad
def eMake (c : String) (F : FF) (l : LL) : EE := fun ρ => bnd (l ρ) fun vs h =>
  match F (.loc h.length :: vs) (h ++ [.ins c []]) with
  | .ok .non h' => .ok (.loc h.length) h'
  | .ok _ _ => .bad
  | .exc e h' => .exc e h'
  | .bad => .bad

/-! ### operators -/
def oAdd : O2 := fun x y h => match x, y with
  | .int i, .int j => .ok (.int (i + j)) h
  | .str s, .str t => if s.length + t.length ≤ szl then .ok (.str (s ++ t)) h else .bad
  | .tup xs, .tup ys => if xs.length + ys.length ≤ szl then .ok (.tup (xs ++ ys)) h else .bad
  | .loc a, .loc b => match h[a]?, h[b]? with
    | some (.lst xs), some (.lst ys) => if xs.length + ys.length ≤ szl then .ok (.loc h.length) (h ++ [.lst (xs ++ ys)]) else .bad
    | _, _ => .bad
  | _, _ => .bad
def oAddI : O2 := fun x y h => match x, y with
  | .int i, .int j => .ok (.int (i + j)) h
  | _, _ => .bad
def oSub : O2 := fun x y h => match x, y with
  | .int i, .int j => .ok (.int (i - j)) h
  | _, _ => .bad
def oMul : O2 := fun x y h => match x, y with
  | .int i, .int j => if (-(2 ^ 64) < i ∧ i < 2 ^ 64) ∨ (-(2 ^ 64) < j ∧ j < 2 ^ 64) then .ok (.int (i * j)) h else .bad
  | .str s, .int j => if 0 ≤ j ∧ j ≤ 1000 ∧ s.length ≤ 1000 then .ok (.str (PySem.Txt.mul s j)) h else .bad
  | .tup xs, .int j => if 2 ≤ j ∧ j ≤ 1000 ∧ xs.length ≤ 1000 ∧ xs.length ≠ 0 then .ok (.tup (List.replicate j.toNat xs).flatten) h else .bad
  | _, _ => .bad
/-- % by a positive number -/
def oMod : O2 := fun x y h => match x, y with
  | .int i, .int j => if 0 < j then .ok (.int (i % j)) h else .bad
  | _, _ => .bad
/-- // by a small positive number -/
def oDiv : O2 := fun x y h => match x, y with
  | .int i, .int j => if 0 < j ∧ j < 1073741824 then .ok (.int (i / j)) h else .bad
  | _, _ => .bad
def oPow : O2 := fun x y h => match x, y with
  | .int i, .int j => if 0 ≤ j ∧ j ≤ 1000 ∧ -1000 ≤ i ∧ i ≤ 1000 then .ok (.int (i ^ j.toNat)) h else .bad
  | _, _ => .bad
def eqA (h : Heap) (x y : AV) : Option Bool := match datH h 40 x, datH h 40 y with
  | some d, some e => if (PySem.SeqAt.shaped d && PySem.SeqAt.shaped e) = true then some (PyData.eqv d e) else none
  | _, _ => none
def oEq : O2 := fun x y h => match eqA h x y with
  | some b => .ok (.bl b) h
  | none => .bad
def oNe : O2 := fun x y h => match eqA h x y with
  | some b => .ok (.bl (!b)) h
  | none => .bad
def oCmpI (p : Int → Int → Bool) : O2 := fun x y h => match x, y with
  | .int i, .int j => .ok (.bl (p i j)) h
  | _, _ => .bad
def oLt : O2 := oCmpI fun i j => decide (i < j)
def oLe : O2 := oCmpI fun i j => decide (i ≤ j)
def oGt : O2 := oCmpI fun i j => decide (j < i)
def oGe : O2 := oCmpI fun i j => decide (j ≤ i)
def oIsN : O2 := fun x y h => match y with
  | .non => .ok (.bl x.isNon) h
  | _ => .bad
def oNotN : O2 := fun x y h => match y with
  | .non => .ok (.bl (!x.isNon)) h
  | _ => .bad

/-- a[b], b an int -/
def oIx : O2 := fun x y h => match y with
  | .int i => match seqOf h x with
    | some xs => match atI xs i with
      | some v => .ok v h
      | none => .bad
    | none => .bad
  | _ => .bad
/-- x in a tuple or a list of flat items -/
def oIn : O2 := fun x y h => match seqOf h y with
  | some xs => if (flat x && xs.all flat) = true then .ok (.bl (inF x xs)) h else .bad
  | none => .bad
def oNotIn : O2 := fun x y h => match seqOf h y with
  | some xs => if (flat x && xs.all flat) = true then .ok (.bl (!inF x xs)) h else .bad
  | none => .bad
def dctOf (h : Heap) : AV → Option (List (AV × AV))
  | .loc l => match h[l]? with
    | some (.dct kvs) => some kvs
    | some (.lck kvs) => some kvs
    | _ => none
  | _ => none
/-- d[k] -/
def oDGet : O2 := fun x y h => match dctOf h x with
  | some kvs => if isKey y = true then (match dGet kvs y with
    | some v => .ok v h
    | none => .bad) else .bad
  | none => .bad
def oDIn : O2 := fun y x h => match dctOf h x with
  | some kvs => if isKey y = true then .ok (.bl (dGet kvs y).isSome) h else .bad
  | none => .bad
def oDNotIn : O2 := fun y x h => match dctOf h x with
  | some kvs => if isKey y = true then .ok (.bl (!(dGet kvs y).isSome)) h else .bad
  | none => .bad
/-- d[k], k in d, d a dict of the module: its pairs -/
def oKGet (kvs : List (Str × AV)) : O2 := fun _ y h => match y with
  | .str z => match kvs.lookup z with
    | some v => .ok v h
    | none => .bad
  | _ => .bad
def oKIn (kvs : List (Str × AV)) : O2 := fun y _ h => match y with
  | .str z => .ok (.bl (kvs.lookup z).isSome) h
  | _ => .bad
def oKNotIn (kvs : List (Str × AV)) : O2 := fun y _ h => match y with
  | .str z => .ok (.bl (!(kvs.lookup z).isSome)) h
  | _ => .bad
/-- {} -/
def eNewD : EE := fun _ h => .ok (.loc h.length) (h ++ [.dct []])

/-! ### statements -/
inductive SR where
  | nx (ρ : Env) (h : Heap) | ret (v : AV) (h : Heap) | brk (ρ : Env) (h : Heap) | ct (ρ : Env) (h : Heap) | exc (e : Exc) (ρ : Env) (h : Heap) | bad
abbrev SS := Env → Heap → SR
/-- go on with an expression's value -/
def sBnd {α : Type} (m : Env → Heap → Res α) (k : α → SS) : SS := fun ρ h => match m ρ h with
  | .ok a h' => k a ρ h'
  | .exc e h' => .exc e ρ h'
  | .bad => .bad
def sNil : SS := fun ρ h => .nx ρ h
def sSeq (a b : SS) : SS := fun ρ h => match a ρ h with
  | .nx ρ' h' => b ρ' h'
  | r => r
def sExpr (e : EE) : SS := sBnd e fun _ ρ h => .nx ρ h
def sRet (e : EE) : SS := sBnd e fun v _ h => .ret v h
def sRetN : SS := fun _ h => .ret .non h
def sIf (t : BB) (a b : SS) : SS := sBnd t fun c => if c = true then a else b
abbrev Tg := AV → Env → Option Env
def gName (i : Nat) : Tg := fun v ρ => some (ρ.set i (some v))
def gNames : List Nat → List AV → Env → Option Env
  | [], [], ρ => some ρ
  | i :: is, v :: vs, ρ => gNames is vs (ρ.set i (some v))
  | _, _, _ => none
def gTup (is : List Nat) : Tg := fun v ρ => match v with
  | .tup xs => gNames is xs ρ
  | _ => none
def sAsg (g : Tg) (e : EE) : SS := sBnd e fun v ρ h => match g v ρ with
  | some ρ' => .nx ρ' h
  | none => .bad
def sSet (i : Nat) (e : EE) : SS := sBnd e fun v ρ h => .nx (ρ.set i (some v)) h
def putF (f : Str) (v : AV) : List (Str × AV) → List (Str × AV)
  | [] => [(f, v)]
  | (g, w) :: r => if g = f then (g, v) :: r else (g, w) :: putF f v r
/-- o.f = e, o an instance of c -/
def sAttr (c : String) (o : EE) (f : Str) (e : EE) : SS := sBnd e fun x => sBnd o fun v ρ h => match v with
  | .loc l => match h[l]? with
    | some (.ins c' fs) => if c' = c ∧ fs.length < 100 then .nx ρ (h.set l (.ins c (putF f x fs))) else .bad
    | _ => .bad
  | _ => .bad
/-- o.f += e -/
def sAttrAug (c : String) (op : O2) (o : EE) (f : Str) (e : EE) : SS := sBnd o fun v => sBnd (fun _ h => match v with
  | .loc l => match h[l]? with
    | some (.ins c' fs) => if c' = c then (match fs.lookup f with
      | some x => Res.ok x h
      | none => .bad) else .bad
    | _ => .bad
  | _ => .bad) fun x => sBnd e fun y => sBnd (fun _ => op x y) fun z ρ h => match v with
  | .loc l => match h[l]? with
    | some (.ins c' fs) => if c' = c ∧ fs.length < 100 then .nx ρ (h.set l (.ins c (putF f z fs))) else .bad
    | _ => .bad
  | _ => .bad
/-- xs[i] = e -/
def sIx (o i e : EE) : SS := sBnd e fun x => sBnd o fun v => sBnd i fun k ρ h => match v, k with
  | .loc l, .int j => match h[l]? with
    | some (.lst xs) => match ixN xs.length j with
      | some m => .nx ρ (h.set l (.lst (xs.set m x)))
      | none => .bad
    | _ => .bad
  | _, _ => .bad
/-- d[k] = e -/
def sDPut (o i e : EE) : SS := sBnd e fun x => sBnd o fun v => sBnd i fun k ρ h => match v with
  | .loc l => match h[l]? with
    | some (.dct kvs) => if (isKey k = true ∧ kvs.length < 100000) then .nx ρ (h.set l (.dct (dPut kvs k x))) else .bad
    | _ => .bad
  | _ => .bad
def sIter (items : Heap → Option (List AV)) (g : Tg) (body : SS) : Nat → Nat → SS
  | 0, _ => fun _ _ => .bad
  | k + 1, i => fun ρ h => match items h with
    | none => .bad
    | some ys => match ys[i]? with
      | none => .nx ρ h
      | some x => match g x ρ with
        | none => .bad
        | some ρ1 => match body ρ1 h with
          | .nx ρ' h' => sIter items g body k (i + 1) ρ' h'
          | .ct ρ' h' => sIter items g body k (i + 1) ρ' h'
          | .brk ρ' h' => .nx ρ' h'
          | r => r
abbrev II := Env → Heap → Res (Heap → Option (List AV))
def fuel : Nat := 16777300
def sFor (it : II) (g : Tg) (body : SS) : SS := sBnd it fun items => sIter items g body fuel 0
def sWhileN (t : BB) (body : SS) : Nat → SS
  | 0 => fun _ _ => .bad
  | k + 1 => sBnd t fun c => if c = true then (fun ρ h => match body ρ h with
      | .nx ρ' h' => sWhileN t body k ρ' h'
      | .ct ρ' h' => sWhileN t body k ρ' h'
      | .brk ρ' h' => .nx ρ' h'
      | r => r) else sNil
def sWhile (t : BB) (body : SS) : SS := sWhileN t body fuel
/-- the items of a tuple -/
def iTup (e : EE) : II := fun ρ => bnd (e ρ) fun v h => match v with
  | .tup xs => .ok (fun _ => some xs) h
  | _ => .bad
def lstOf (h : Heap) (l : Nat) : Option (List AV) := match h[l]? with
  | some (.lst xs) => some xs
  | _ => none
/-- the items of a list of ours, as they stand -/
def iLoc (e : EE) : II := fun ρ => bnd (e ρ) fun v h => match v with
  | .loc l => match h[l]? with
    | some (.lst _) => .ok (fun h => lstOf h l) h
    | _ => .bad
  | _ => .bad
/-- a made list's items -/
def iTmp (l : LL) : II := fun ρ => bnd (l ρ) fun xs h => .ok (fun _ => some xs) h
def rangeL (lo hi : Int) : List AV := (List.range (hi - lo).toNat).map fun (k : Nat) => AV.int (lo + (k : Int))
def iRange (lo hi : EE) : II := fun ρ => bnd (lo ρ) fun a => bnd (hi ρ) fun b h => match a, b with
  | .int i, .int j => if -(2 ^ 62) ≤ i ∧ i < 2 ^ 62 ∧ -(2 ^ 62) ≤ j ∧ j < 2 ^ 62 then .ok (fun _ => some (rangeL i j)) h else .bad
  | _, _ => .bad
def iRange0 (hi : EE) : II := fun ρ => bnd (hi ρ) fun b h => match b with
  | .int j => if -(2 ^ 62) ≤ j ∧ j < 2 ^ 62 then .ok (fun _ => some (rangeL 0 j)) h else .bad
  | _ => .bad
def numbered (xs : List AV) : List AV := xs.zipIdx.map fun p => .tup [.int (p.2 : Nat), p.1]
/-- enumerate of a list -/
def iEnum (e : EE) : II := fun ρ => bnd (e ρ) fun v h => match v with
  | .loc l => match h[l]? with
    | some (.lst _) => .ok (fun h => (lstOf h l).map numbered) h
    | _ => .bad
  | _ => .bad
/-- enumerate of a tuple -/
def iEnumT (e : EE) : II := fun ρ => bnd (e ρ) fun v h => match v with
  | .tup xs => .ok (fun _ => some (numbered xs)) h
  | _ => .bad
/-- the keys of a dict of the module -/
def iKeysK (ks : List Str) : II := fun _ h => .ok (fun _ => some (ks.map .str)) h
/-- for k in d, d a dict of ours, locked meanwhile -/
def sForD (e : EE) (g : Tg) (body : SS) : SS := sBnd e fun v ρ h => match v with
  | .loc l => match h[l]? with
    | some (.dct kvs) =>
      let back : Heap → Heap := fun h' => h'.set l (.dct kvs)
      match sIter (fun _ => some (kvs.map (·.1))) g body fuel 0 ρ (h.set l (.lck kvs)) with
      | .nx ρ' h' => .nx ρ' (back h')
      | .ret v h' => .ret v (back h')
      | .exc e ρ' h' => .exc e ρ' h'
      | _ => .bad
    | _ => .bad
  | _ => .bad
def wipeA (ρ : Env) : List Nat → Env
  | [] => ρ
  | v :: vs => (wipeA ρ vs).set v none
/-- a comprehension's turns -/
def lcIter (items : Heap → Option (List AV)) (g : Tg) (t : BB) (e : EE) (ρ : Env) : Nat → Nat → List AV → Heap → Res (List AV)
  | 0, _, _ => fun _ => .bad
  | k + 1, i, acc => fun h => match items h with
    | none => .bad
    | some ys => match ys[i]? with
      | none => .ok acc h
      | some x => match g x ρ with
        | none => .bad
        | some ρ1 => match t ρ1 h with
          | .ok true h1 => match e ρ1 h1 with
            | .ok y h2 => if acc.length < szl then lcIter items g t e ρ k (i + 1) (acc ++ [y]) h2 else .bad
            | _ => .bad
          | .ok false h1 => lcIter items g t e ρ k (i + 1) acc h1
          | _ => .bad
def tYes : BB := fun _ h => .ok true h
def lComp (it : II) (g : Tg) (t : BB) (e : EE) (vs : List Nat) : LL := fun ρ => bnd (it ρ) fun items => lcIter items g t e (wipeA ρ vs) fuel 0 []
/-- a made list kept -/
def eKeep (l : LL) : EE := fun ρ => bnd (l ρ) fun xs h => .ok (.loc h.length) (h ++ [.lst xs])
/-- tuple(..) of a made list -/
def eTupOf (l : LL) : EE := fun ρ => bnd (l ρ) fun xs h => .ok (.tup xs) h
def blsOf : List AV → Option (List Bool)
  | [] => some []
  | .bl b :: r => (blsOf r).map (b :: ·)
  | _ => none
def eAllOf (l : LL) : EE := fun ρ => bnd (l ρ) fun xs h => match blsOf xs with
  | some bs => .ok (.bl (bs.all id)) h
  | none => .bad
def eAnyOf (l : LL) : EE := fun ρ => bnd (l ρ) fun xs h => match blsOf xs with
  | some bs => .ok (.bl (bs.any id)) h
  | none => .bad
/-! ### built-ins -/
def tyOf (h : Heap) : AV → Option String
  | .non => some "NoneType"
  | .bl _ => some "bool"
  | .int _ => some "int"
  | .str _ => some "str"
  | .tup _ => some "tuple"
  | .loc l => match h[l]? with
    | some (.lst _) => some "list"
    | some (.dct _) => some "dict"
    | some (.lck _) => some "dict"
    | _ => none
  | _ => none
/-- isinstance(x, T), T a written type -/
def bIsi : FF := fun vs h => match vs with
  | [x, .ty T] => match tyOf h x with
    | some t => if (["int", "bool", "str", "tuple", "dict", "list"].contains T) = true then .ok (.bl (t == T || (t == "bool" && T == "int"))) h else .bad
    | none => .bad
  | _ => .bad
def dctU (h : Heap) : AV → Option (List (AV × AV))
  | .loc l => match h[l]? with
    | some (.dct kvs) => some kvs
    | _ => none
  | _ => none
def bLen : FF := fun vs h => match vs with
  | [.str s] => if s.length ≤ szl then .ok (.int s.length) h else .bad
  | [x] => match seqOf h x with
    | some xs => .ok (.int xs.length) h
    | none => match dctU h x with
      | some kvs => .ok (.int kvs.length) h
      | none => .bad
  | _ => .bad
def bInt : FF := fun vs h => match vs with
  | [.int i] => .ok (.int i) h
  | [.bl b] => .ok (.int (if b then 1 else 0)) h
  | _ => .bad
def bStrI : FF := fun vs h => match vs with
  | [.int i] => if i.natAbs.log2 < 1920 then .ok (.str (toString i : String)) h else .bad
  | _ => .bad
def bMax2 : FF := fun vs h => match vs with
  | [.int i, .int j] => .ok (.int (if j > i then j else i)) h
  | _ => .bad
def bTuple : FF := fun vs h => match vs with
  | [x] => match seqOf h x with
    | some xs => .ok (.tup xs) h
    | none => .bad
  | _ => .bad
/-- list(x) of a tuple or a list -/
def bList : FF := fun vs h => match vs with
  | [x] => match seqOf h x with
    | some xs => .ok (.loc h.length) (h ++ [.lst xs])
    | none => .bad
  | _ => .bad
/-- xs.append(v) .. : what a method of a built-in does with the receiver and the arguments -/
abbrev MM := AV → List AV → Heap → Res AV
def mAppend : MM := fun x vs h => match x, vs with
  | .loc l, [y] => match h[l]? with
    | some (.lst xs) => if xs.length < szl then .ok .non (h.set l (.lst (xs ++ [y]))) else .bad
    | _ => .bad
  | _, _ => .bad
def mExtend : MM := fun x vs h => match x, vs with
  | .loc l, [.loc k] => match h[l]?, h[k]? with
    | some (.lst xs), some (.lst ys) => if xs.length + ys.length ≤ szl then .ok .non (h.set l (.lst (xs ++ ys))) else .bad
    | _, _ => .bad
  | _, _ => .bad
def mPop : MM := fun x vs h => match x, vs with
  | .loc l, [] => match h[l]? with
    | some (.lst xs) => match xs[xs.length - 1]? with
      | some y => .ok y (h.set l (.lst xs.dropLast))
      | none => .bad
    | _ => .bad
  | _, _ => .bad
def mClear : MM := fun x vs h => match x, vs with
  | .loc l, [] => match h[l]? with
    | some (.lst xs) => .ok .non (h.set l (.lst []))
    | _ => .bad
  | _, _ => .bad
/-- o.m(..), m a method of a built-in type -/
def eBm (m : MM) (o : EE) (l : LL) : EE := fun ρ => bnd (o ρ) fun x => bnd (l ρ) fun vs => m x vs
/-- o.m(made list) -/
def mExtendT (xs : AV) (ys : List AV) : Heap → Res AV := fun h => match xs with
  | .loc l => match h[l]? with
    | some (.lst xs) => if xs.length + ys.length ≤ szl then .ok .non (h.set l (.lst (xs ++ ys))) else .bad
    | _ => .bad
  | _ => .bad
def eBmT (m : AV → List AV → Heap → Res AV) (o : EE) (l : LL) : EE := fun ρ => bnd (o ρ) fun x => bnd (l ρ) fun vs => m x vs

def strsOf : List AV → Option (List Str)
  | [] => some []
  | .str b :: r => (strsOf r).map (b :: ·)
  | _ => none
/-- x.split(y), a made list -/
def lSplit (o e : EE) : LL := fun ρ => bnd (o ρ) fun x h => match x with
  | .str a => bnd (e ρ) (fun y h => match y with
    | .str b => if (b.length == 0) = false ∧ a.length + 2 ≤ szl then .ok ((PySem.Txt.split a b).map .str) h else .bad
    | _ => .bad) h
  | _ => .bad
def joinS (a : Str) (xs : List AV) : Heap → Res AV := fun h => match strsOf xs with
  | some ys => if (ys.map (·.length)).sum + ys.length * a.length ≤ 16777216 then .ok (.str (PySem.Txt.join a ys)) h else .bad
  | none => .bad
/-- x.join(a made list) -/
def eJoinT (o : EE) (l : LL) : EE := fun ρ => bnd (o ρ) fun x h => match x with
  | .str a => bnd (l ρ) (joinS a) h
  | _ => .bad
/-- x.join(a tuple | a list) -/
def eJoin (o e : EE) : EE := fun ρ => bnd (o ρ) fun x h => match x with
  | .str a => bnd (e ρ) (fun y h => match seqOf h y with
    | some xs => joinS a xs h
    | none => .bad) h
  | _ => .bad
/-- {x} in an f-string -/
def eFmt (e : EE) : EE := fun ρ => bnd (e ρ) fun v h => match v with
  | .str y => if y.length ≤ szl then .ok (.str y) h else .bad
  | .int i => if i.natAbs.log2 < 1920 then .ok (.str (toString i : String)) h else .bad
  | _ => .bad
def fJoin : List EE → Str → EE
  | [], acc => fun _ h => .ok (.str acc) h
  | t :: ts, acc => fun ρ => bnd (t ρ) fun v h => match v with
    | .str y => if (acc ++ y).length ≤ szl then fJoin ts (acc ++ y) ρ h else .bad
    | _ => .bad
def eFStr (ts : List EE) : EE := fJoin ts Str.empty
/-- a made list: of a display -/
def lDisp (l : LL) : LL := fun ρ => bnd (l ρ) fun vs h => if vs.length ≤ szl then .ok vs h else .bad
/-- x += e at a name -/
def sAug (i : Nat) (o : O2) (e : EE) : SS := sBnd (eVar i) fun x => sBnd e fun y => sBnd (fun _ => o x y) fun z ρ h => .nx (ρ.set i (some z)) h
/-- {k: v, ..} with written text keys -/
def lDct : List (Str × EE) → Env → Heap → Res (List (Str × AV))
  | [], _ => fun h => .ok [] h
  | (k, e) :: r, ρ => bnd (e ρ) fun v => bnd (lDct r ρ) fun vs h => .ok ((k, v) :: vs) h
/-- a made list of a tuple or a list -/
def lOf (e : EE) : LL := fun ρ => bnd (e ρ) fun v h => match seqOf h v with
  | some xs => .ok xs h
  | none => .bad
/-- {'a': e, ..} -/
def eDisp (kes : List (Str × EE)) : EE := fun ρ => bnd (lDct kes ρ) fun ps h => .ok (.loc h.length) (h ++ [.dct (ps.foldl (fun acc p => dPut acc (.str p.1) p.2) [])])
/-- a == b by a's own __eq__, both instances of c -/
def oOwnEq (c : String) (F : FF) : O2 := fun x y h => if (isIns c h x && isIns c h y) = true then noExc (F [x, y] h) else .bad
def isLst (h : Heap) : AV → Bool
  | .loc l => match h[l]? with
    | some (.lst _) => true
    | _ => false
  | _ => false
def eLm (M : MM) (o : EE) (l : LL) : EE := fun ρ => bnd (o ρ) fun x h => if isLst h x = true then bnd (l ρ) (fun vs => M x vs) h else .bad
/-- int(text) of a text of few digits: the value -/
def bIntS (val : Str → Option Int) : FF := fun vs h => match vs with
  | [.str z] => match val z with
    | some n => .ok (.int n) h
    | none => .bad
  | _ => .bad
/-- isinstance(x, c), c a class of the module: an instance of just that class, or data -/
def bIsC (c : String) : FF := fun vs h => match vs with
  | [x, .gl c'] => if c' = c then (if isIns c h x = true then .ok (.bl true) h else match tyOf h x with
    | some _ => .ok (.bl false) h
    | none => .bad) else .bad
  | _ => .bad
/-- a == b of two dicts with flat values that are equal -/
def flatKvs (kvs : List (AV × AV)) : Bool := kvs.all fun p => flat p.2
def sameKvs (xs ys : List (AV × AV)) : Bool := decide (xs.length = ys.length) && xs.all fun p => match dGet ys p.1 with
  | some v => eqF v p.2 && (match v, p.2 with
    | .str _, .str _ => true
    | .int _, .int _ => true
    | _, _ => false)
  | none => false
def oEqD : O2 := fun x y h => match dctU h x, dctU h y with
  | some xs, some ys => if sameKvs xs ys = true then .ok (.bl true) h else .bad
  | _, _ => .bad
def sBad : SS := fun _ _ => .bad
/-- C(..) of a class without __init__ that is raised -/
def sRaise (c : String) (names : List Str) (l : LL) : SS := sBnd l fun vs ρ h => if vs.length = names.length then .exc ⟨c, names.zip vs⟩ ρ h else .bad
/-- try: body except (cs): suite -/
def sTry (body : SS) (catch_ : Exc → Option SS) : SS := fun ρ h => match body ρ h with
  | .exc e ρ' h' => match catch_ e with
    | some s => s ρ' h'
    | none => .exc e ρ' h'
  | r => r
/-- a def's body run: the arguments, then empty slots -/
def runF (ar n : Nat) (b : SS) : FF := fun vs h =>
  if vs.length = ar then
    match b (vs.map some ++ List.replicate n none) h with
    | .nx _ h' => .ok .non h'
    | .ret v h' => .ok v h'
    | .exc e _ h' => .exc e h'
    | _ => .bad
  else .bad
/-! ### dicts walked -/
def keysOf (kvs : List (AV × AV)) : List AV := kvs.map (·.1)
def pickE (e : EE) : Env → Heap → Option Nat := fun ρ h => match e ρ h with
  | .ok (.loc l) _ => some l
  | _ => none
def unlockS (l : Nat) (kvs : List (AV × AV)) : SR → SR
  | .nx ρ h => .nx ρ (h.set l (.dct kvs))
  | .brk ρ h => .brk ρ (h.set l (.dct kvs))
  | .ct ρ h => .ct ρ (h.set l (.dct kvs))
  | .ret v h => .ret v (h.set l (.dct kvs))
  | .exc e ρ h => .exc e ρ h
  | .bad => .bad
/-- the dict that e means is locked while m runs -/
def sLock (pick : Env → Heap → Option Nat) (m : SS) : SS := fun ρ h => match pick ρ h with
  | some l => match h[l]? with
    | some (.dct kvs) => unlockS l kvs (m ρ (h.set l (.lck kvs)))
    | _ => .bad
  | none => .bad
def unlockR {α : Type} (l : Nat) (kvs : List (AV × AV)) : Res α → Res α
  | .ok a h => .ok a (h.set l (.dct kvs))
  | .exc e h => .exc e h
  | .bad => .bad
def xLock {α : Type} (pick : Env → Heap → Option Nat) (m : Env → Heap → Res α) : Env → Heap → Res α := fun ρ h => match pick ρ h with
  | some l => match h[l]? with
    | some (.dct kvs) => unlockR l kvs (m ρ (h.set l (.lck kvs)))
    | _ => .bad
  | none => .bad
/-- the keys of a locked dict -/
def iKeysL (e : EE) : II := fun ρ => bnd (e ρ) fun v h => match v with
  | .loc l => match h[l]? with
    | some (.lck kvs) => .ok (fun _ => some (keysOf kvs)) h
    | _ => .bad
  | _ => .bad
/-- the keys of a dict that is locked from now on -/
def iKeysF (e : EE) : II := fun ρ => bnd (e ρ) fun v h => match v with
  | .loc l => match h[l]? with
    | some (.dct kvs) => .ok (fun _ => some (keysOf kvs)) (h.set l (.lck kvs))
    | _ => .bad
  | _ => .bad
/-- a dict comprehension's turns -/
def dcIter (items : Heap → Option (List AV)) (g : Tg) (t : BB) (ek ev : EE) (ρ : Env) : Nat → Nat → List (AV × AV) → Heap → Res (List (AV × AV))
  | 0, _, _ => fun _ => .bad
  | k + 1, i, acc => fun h => match items h with
    | none => .bad
    | some ys => match ys[i]? with
      | none => .ok acc h
      | some x => match g x ρ with
        | none => .bad
        | some ρ1 => match t ρ1 h with
          | .ok true h1 => match ek ρ1 h1 with
            | .ok y h2 => match ev ρ1 h2 with
              | .ok z h3 => if isKey y = true ∧ acc.length < 100000 then dcIter items g t ek ev ρ k (i + 1) (dPut acc y z) h3 else .bad
              | _ => .bad
            | _ => .bad
          | .ok false h1 => dcIter items g t ek ev ρ k (i + 1) acc h1
          | _ => .bad
/-- {k: v for ..} -/
def eDc (it : II) (g : Tg) (t : BB) (ek ev : EE) (vs : List Nat) : EE := fun ρ => bnd (it ρ) fun items => bnd (dcIter items g t ek ev (wipeA ρ vs) fuel 0 []) fun kvs h => .ok (.loc h.length) (h ++ [.dct kvs])
/-! ### sorted(set(t)), t a tuple of texts -/
def insS (x : Str) : List Str → List Str
  | [] => [x]
  | y :: r => if x = y then y :: r else if x.cps.toList < y.cps.toList then x :: y :: r else y :: insS x r
def sortD (xs : List Str) : List Str := xs.foldr insS []
def eSortSet (e : EE) : EE := fun ρ => bnd (e ρ) fun v h => match v with
  | .tup xs => match strsOf xs with
    | some ys => if ys.length < 64 then .ok (.loc h.length) (h ++ [.lst ((sortD ys).map .str)]) else .bad
    | none => .bad
  | _ => .bad
/-- d.update(d2) -/
def mUpd : MM := fun x vs h => match x, vs with
  | .loc l, [.loc k] => if l = k then .bad else match h[l]?, h[k]? with
    | some (.dct xs), some (.dct ys) => if xs.length + ys.length ≤ 100000 then .ok .non (h.set l (.dct (ys.foldl (fun acc p => dPut acc p.1 p.2) xs))) else .bad
    | _, _ => .bad
  | _, _ => .bad
def isDct (h : Heap) : AV → Bool
  | .loc l => match h[l]? with
    | some (.dct _) => true
    | _ => false
  | _ => false
def eDm (M : MM) (o : EE) (l : LL) : EE := fun ρ => bnd (o ρ) fun x h => if isDct h x = true then bnd (l ρ) (fun vs => M x vs) h else .bad
/-- dict(d) -/
def bDict : FF := fun vs h => match vs with
  | [x] => match dctOf h x with
    | some kvs => .ok (.loc h.length) (h ++ [.dct kvs])
    | none => .bad
  | _ => .bad
end PA
/-! Abs2: more constructs: the law's script. -/
namespace PA
open PySem (Str PyData)
/-- the law's script, walked -/
def iScr (ns : List Int) (e : EE) : II := fun ρ => bnd (e ρ) fun v h => match v with
  | .gl g => if g = "#s" then .ok (fun _ => some (ns.map .int)) h else .bad
  | _ => .bad
/-- list(script) -/
def bListS (ns : List Int) : FF := fun vs h => match vs with
  | [.gl g] => if g = "#s" then .ok (.loc h.length) (h ++ [.lst (ns.map .int)]) else .bad
  | _ => .bad
/-- o.m(..) of a slotted class -/
def eMethS (c : String) (F : FF) (e : EE) (l : LL) : EE := fun ρ => bnd (e ρ) fun v h => if isIns c h v = true then bnd (l ρ) (fun vs => F (v :: vs)) h else .bad
/-- len of a dict of the module -/
def eLenK (n : Nat) : EE := fun _ h => .ok (.int n) h
/-- xs.extend(made list) -/
def eExtT (o : EE) (l : LL) : EE := fun ρ => bnd (o ρ) fun x h => if isLst h x = true then bnd (l ρ) (fun vs => mExtendT x vs) h else .bad
end PA
/-! Abs3: raise, try. -/
namespace PA
open PySem (Str PyData)
/-- raise c() of a class without __init__ -/
def sRaise0 (c : String) : SS := fun ρ h => .exc ⟨c, []⟩ ρ h
/-- raise c(e, ..) of a class whose __init__ keeps its arguments in these fields (the last one stands first) -/
def sRaiseN (c : String) (names : List Str) (l : LL) : SS := sBnd l fun vs ρ h => if vs.length = names.length then .exc ⟨c, (names.zip vs).reverse⟩ ρ h else .bad
/-- an except clause: which classes it takes, the slot of its name, its suite -/
structure ClA where
  f : String → Option Bool
  i : Option Nat
  s : Exc → SS
def offE (i : Option Nat) (ρ : Env) : Env := match i with
  | some i => ρ.set i none
  | none => ρ
def offS (i : Option Nat) : SR → SR
  | .nx ρ h => .nx (offE i ρ) h
  | .brk ρ h => .brk (offE i ρ) h
  | .ct ρ h => .ct (offE i ρ) h
  | .ret v h => .ret v h
  | _ => .bad
def catchA : List ClA → Exc → SS
  | [], e => fun ρ h => .exc e ρ h
  | k :: r, e => match k.f e.cls with
    | none => sBad
    | some false => catchA r e
    | some true => fun ρ h => if (k.i.all fun i => decide (i < ρ.length)) = true then offS k.i (k.s e (offE k.i ρ) h) else .bad
def sTryA (body : SS) (ks : List ClA) : SS := fun ρ h => match body ρ h with
  | .exc e ρ' h' => catchA ks e ρ' h'
  | r => r
/-- e.f of the caught one -/
def xFld (c : String) (f : Str) : Exc → EE := fun E _ h => if E.cls = c then (match E.fs.lookup f with
  | some v => .ok v h
  | none => .bad) else .bad
def xIsE (f : String → Option Bool) : Exc → EE := fun E _ h => match f E.cls with
  | some b => .ok (.bl b) h
  | none => .bad
/-- (e1, e2) -/
def xTup2 (m1 m2 : Exc → EE) : Exc → EE := fun E ρ => bnd (m1 E ρ) fun x => bnd (m2 E ρ) fun y h => .ok (.tup [x, y]) h
/-- a slice's bounds, as CPython reads them -/
def sixA (n d : Nat) : Option Int → Nat
  | none => d
  | some v => if v < 0 then (v + (n : Int)).toNat else min v.toNat n
def cutA (xs : List AV) (lo hi : Option Int) : List AV := (xs.drop (sixA xs.length 0 lo)).take (sixA xs.length xs.length hi - sixA xs.length 0 lo)
def bndO (m : Option EE) : Env → Heap → Res (Option Int) := fun ρ => match m with
  | none => fun h => .ok none h
  | some e => bnd (e ρ) fun v h => match v with
    | .int i => .ok (some i) h
    | _ => .bad
/-- xs[lo:hi] of a list -/
def eSliceL (e : EE) (lo hi : Option EE) : EE := fun ρ => bnd (e ρ) fun x => bnd (bndO lo ρ) fun l => bnd (bndO hi ρ) fun u h => match x with
  | .loc a => match h[a]? with
    | some (.lst xs) => .ok (.loc h.length) (h ++ [.lst (cutA xs l u)])
    | _ => .bad
  | _ => .bad
/-- d.get(k, x) -/
def eGet2 (o i x : EE) : EE := fun ρ => bnd (o ρ) fun d h => if isDct h d = true then bnd (i ρ) (fun k => bnd (x ρ) fun v h => match dctOf h d with
  | some kvs => if isKey k = true then (match dGet kvs k with
    | some w => .ok w h
    | none => .ok v h) else .bad
  | none => .bad) h else .bad
/-- {0: v, ..} with written ints as keys -/
def lDctI : List (Int × EE) → Env → Heap → Res (List (Int × AV))
  | [], _ => fun h => .ok [] h
  | (k, e) :: r, ρ => bnd (e ρ) fun v => bnd (lDctI r ρ) fun vs h => .ok ((k, v) :: vs) h
def eDispI (kes : List (Int × EE)) : EE := fun ρ => bnd (lDctI kes ρ) fun ps h => .ok (.loc h.length) (h ++ [.dct (ps.foldl (fun acc p => dPut acc (.int p.1) p.2) [])])
def clF (l : List (String × Bool)) (n : String) : Option Bool := l.lookup n
end PA
/-! Abs4: -x, xs * n, d.pop, d.clear, a dict turned about, keys as a list, sorted, == of nested ones. -/
namespace PA
open PySem (Str PyData)
def eNeg (m : EE) : EE := fun ρ => bnd (m ρ) fun v h => match v with
  | .int i => .ok (.int (-i)) h
  | _ => .bad
/-- xs * n of a list -/
def oMulL : O2 := fun x y h => match x, y with
  | .loc l, .int k => match h[l]? with
    | some (.lst xs) => if 0 ≤ k ∧ k ≤ 1000 ∧ xs.length ≤ 1000 then .ok (.loc h.length) (h ++ [.lst (List.replicate k.toNat xs).flatten]) else .bad
    | _ => .bad
  | _, _ => .bad
def dDrop (kvs : List (AV × AV)) (k : AV) : List (AV × AV) := kvs.filter fun p => !keyEq p.1 k
/-- d.pop(k, x) -/
def eDPop2 (o i x : EE) : EE := fun ρ => bnd (o ρ) fun d h => if isDct h d = true then bnd (i ρ) (fun k => bnd (x ρ) fun v h => match dctU h d with
  | some kvs => if isKey k = true then (match dGet kvs k, d with
    | some w, .loc l => .ok w (h.set l (.dct (dDrop kvs k)))
    | none, _ => .ok v h
    | _, _ => .bad) else .bad
  | none => .bad) h else .bad
/-- d.clear() -/
def eDClear (o : EE) : EE := fun ρ => bnd (o ρ) fun d h => match d with
  | .loc l => match h[l]? with
    | some (.dct _) => .ok .non (h.set l (.dct []))
    | _ => .bad
  | _ => .bad
/-- dict(list(d.items())[::-1]) -/
def eRevIt (o : EE) : EE := fun ρ => bnd (o ρ) fun d h => match dctU h d with
  | some kvs => .ok (.loc h.length) (h ++ [.dct (kvs.reverse.foldl (fun acc p => dPut acc p.1 p.2) [])])
  | none => .bad
/-- list(d) -/
def bListD : FF := fun vs h => match vs with
  | [x] => match dctOf h x with
    | some kvs => .ok (.loc h.length) (h ++ [.lst (keysOf kvs)])
    | none => .bad
  | _ => .bad
/-- sorted(xs) of a list of texts, each once -/
def bSorted : FF := fun vs h => match vs with
  | [.loc l] => match h[l]? with
    | some (.lst xs) => match strsOf xs with
      | some ys => if ys.Nodup ∧ ys.length < 64 then .ok (.loc h.length) (h ++ [.lst ((sortD ys).map .str)]) else .bad
      | none => .bad
    | _ => .bad
  | _ => .bad
/-- equal, one beside one: flat data, tuples of such, dicts of flat texts or ints -/
def sameF : AV → AV → Bool
  | .non, .non => true
  | .bl a, .bl b => a == b
  | .int a, .int b => a == b
  | .str a, .str b => a == b
  | _, _ => false
def sameL (f : AV → AV → Bool) : List AV → List AV → Bool
  | [], [] => true
  | x :: xs, y :: ys => f x y && sameL f xs ys
  | _, _ => false
def isTup : AV → Bool
  | .tup _ => true
  | _ => false
def sameV (h : Heap) (x y : AV) : Bool := sameF x y || (isTup x && isTup y && decide (eqA h x y = some true)) || (match dctU h x, dctU h y with
  | some ks, some ls => sameKvs ks ls
  | _, _ => false)
/-- a != b of two lists whose items are equal -/
def oNeV : O2 := fun x y h => match x, y with
  | .loc l, .loc k => match h[l]?, h[k]? with
    | some (.lst xs), some (.lst ys) => if sameL (sameV h) xs ys = true then .ok (.bl false) h else .bad
    | _, _ => .bad
  | _, _ => .bad
/-- a == b of two dicts of texts -/
def hitsA (ys : List (AV × AV)) : List (AV × AV) → Option Bool
  | [] => some true
  | (k, v) :: r => match dGet ys k with
    | none => some false
    | some u => match v, u with
      | .str a, .str b => (hitsA ys r).map fun e => (a == b) && e
      | _, _ => none
def oEqDs : O2 := fun x y h => match dctU h x, dctU h y with
  | some xs, some ys => match hitsA ys xs with
    | some b => .ok (.bl (xs.length == ys.length && b)) h
    | none => .bad
  | _, _ => .bad
/-- a == b, a of the class c with its own __eq__, b a list -/
def oOwnEqL (c : String) (F : FF) : O2 := fun x y h => if (isIns c h x && isLst h y) = true then noExc (F [x, y] h) else .bad
/-- m1 if t else m2 -/
def xIf (t m1 m2 : Exc → EE) : Exc → EE := fun E ρ => bnd (t E ρ) fun v h => match v with
  | .bl true => m1 E ρ h
  | .bl false => m2 E ρ h
  | _ => .bad
end PA
set_option maxRecDepth 100000
set_option maxHeartbeats 2000000
/-! Lift1: how plain data and the plain heap lie in the hand layer's heap; what a rule promises. -/
namespace PL
open PySem PySem.Spec PyProof.Rows L2 PA

/-- what is fixed: the written part, where defs and classes stand, the slots of slotted classes -/
structure Cz where
  P : Program
  w : World
  K : PySem.W.Frag
  mg : Str → Option Value
  base : PySem.Heap
  ad : String → Addr
  sl : String → Option (List Str)
  scr : List Int

mutual
inductive AvR (C : Cz) (ι : Nat → Addr) (n : Nat) (H : Hp) : AV → V → Prop
  | non : AvR C ι n H .non .non
  | bl (b : Bool) : AvR C ι n H (.bl b) (.bl b)
  | int (i : Int) : AvR C ι n H (.int i) (.int i)
  | str (s : Str) : AvR C ι n H (.str s) (.str s)
  | tup {a : Addr} {xs : List AV} {vs : List V} : SqT C.K H a vs → AvRs C ι n H xs vs → AvR C ι n H (.tup xs) (.ref a)
  | loc {l : Nat} : l < n → AvR C ι n H (.loc l) (.ref (ι l))
  | gl (g : String) : AvR C ι n H (.gl g) (.ref (C.ad g))
  | ty (t : String) : AvR C ι n H (.ty t) (.ty t)
inductive AvRs (C : Cz) (ι : Nat → Addr) (n : Nat) (H : Hp) : List AV → List V → Prop
  | nil : AvRs C ι n H [] []
  | cons {x : AV} {v : V} {xs : List AV} {vs : List V} : AvR C ι n H x v → AvRs C ι n H xs vs → AvRs C ι n H (x :: xs) (v :: vs)
end

inductive FsR (C : Cz) (ι : Nat → Addr) (n : Nat) (H : Hp) : List (Str × AV) → List (Str × V) → Prop
  | nil : FsR C ι n H [] []
  | cons {f : Str} {x : AV} {v : V} {fs : List (Str × AV)} {gs : List (Str × V)} : AvR C ι n H x v → FsR C ι n H fs gs → FsR C ι n H ((f, x) :: fs) ((f, v) :: gs)
/-- keys: ints and texts -/
inductive KsR (C : Cz) (ι : Nat → Addr) (n : Nat) (H : Hp) : List (AV × AV) → List (Key × V) → Prop
  | nil : KsR C ι n H [] []
  | int {i : Int} {x : AV} {v : V} {fs : List (AV × AV)} {gs : List (Key × V)} : AvR C ι n H x v → KsR C ι n H fs gs → KsR C ι n H ((.int i, x) :: fs) ((.inl i, v) :: gs)
  | str {i : Str} {x : AV} {v : V} {fs : List (AV × AV)} {gs : List (Key × V)} : AvR C ι n H x v → KsR C ι n H fs gs → KsR C ι n H ((.str i, x) :: fs) ((.inr i, v) :: gs)
/-- a slotted instance's slots -/
def SlsR (C : Cz) (ι : Nat → Addr) (n : Nat) (H : Hp) (names : List Str) (fs : List (Str × AV)) (vs : List (Option V)) : Prop :=
  ∀ (i : Nat) (f : Str) (x : AV), names[i]? = some f → fs.lookup f = some x → ∃ v, vs[i]? = some (some v) ∧ AvR C ι n H x v

def ObR (C : Cz) (ι : Nat → Addr) (n : Nat) (H : Hp) (a : Addr) : AO → Prop
  | .lst xs => ∃ vs, H a = some (.lst vs) ∧ AvRs C ι n H xs vs
  | .dct kvs => ∃ ks, H a = some (.dK ks) ∧ KsR C ι n H kvs ks
  | .lck kvs => ∃ o ks, H a = some (.frz o (.dK ks)) ∧ KsR C ι n H kvs ks
  | .ins c fs => (C.sl c = none ∧ ∃ dx gs, H a = some (.ins (C.ad c) dx gs) ∧ FsR C ι n H fs gs) ∨
      (∃ names dx vs, C.sl c = some names ∧ ((H a = some (.ins (C.ad c) dx []) ∧ H dx = some (.own a) ∧ vs = []) ∨ (H a = some (SlX.SlO a (C.ad c) dx vs) ∧ H dx = some (.xd []))) ∧ dx ≠ a ∧ SlsR C ι n H names fs vs)

/-- the law's script: a list that nobody writes -/
def ScR (C : Cz) (H : Hp) : Prop := (∃ o, H (C.ad "#s") = some (.frz o (.lst (C.scr.map V.int)))) ∨
  ∃ (o : Obj) (its : Array Value) (n : Nat), C.K.lookup (C.ad "#s") = some o ∧ o.cls = .type "list" ∧ o.dict = none ∧ o.data = .seq its n ∧ its.size ≤ sizeLine ∧ Vals (C.scr.map V.int) its.toList
theorem ScR.keep {C : Cz} {H H' : Hp} (s : ScR C H) (k : ∀ p o u, H p = some (.frz o u) → H' p = some (.frz o u)) : ScR C H' := by
  rcases s with ⟨o, e⟩ | e
  · exact .inl ⟨o, k _ _ _ e⟩
  · exact .inr e
theorem ScR.upd {C : Cz} {H : Hp} {p : Addr} {u : HO} (s : ScR C H) (nf : ∀ o u, H p ≠ some (.frz o u)) : ScR C (L2.upd H p u) :=
  s.keep fun q o w e => by rw [upd_ne (fun z => nf o w (by rw [← z]; exact e))]; exact e
structure Rep (C : Cz) (ι : Nat → Addr) (h : PA.Heap) (H : Hp) : Prop where
  at_ : ∀ l o, h[l]? = some o → ObR C ι h.length H (ι l) o
  inj : ∀ l l', l < h.length → l' < h.length → ι l = ι l' → l = l'
  scr : ScR C H

structure Ext (ι : Nat → Addr) (n : Nat) (H : Hp) (ι' : Nat → Addr) (n' : Nat) (H' : Hp) : Prop where
  le : n ≤ n'
  agree : ∀ l, l < n → ι' l = ι l
  frame : ∀ p o, H p = some o → (∀ y, o ≠ .own y) → (∀ l, l < n → ι l ≠ p) → H' p = some o
  fresh : ∀ l, n ≤ l → l < n' → H (ι' l) = none
  dom : ∀ p, H p ≠ none → H' p ≠ none
  frz : ∀ p o u, H p = some (.frz o u) → H' p = some (.frz o u)

theorem Ext.refl {ι : Nat → Addr} {n : Nat} {H : Hp} : Ext ι n H ι n H :=
  ⟨Nat.le_refl _, fun _ _ => rfl, fun _ _ e _ _ => e, fun l a b => absurd (Nat.lt_of_lt_of_le b a) (Nat.lt_irrefl _), fun _ e => e, fun _ _ _ e => e⟩
theorem Ext.trans {ι ι1 ι2 : Nat → Addr} {n n1 n2 : Nat} {H H1 H2 : Hp} (a : Ext ι n H ι1 n1 H1) (b : Ext ι1 n1 H1 ι2 n2 H2) : Ext ι n H ι2 n2 H2 where
  le := Nat.le_trans a.le b.le
  agree := fun l hl => (b.agree l (Nat.lt_of_lt_of_le hl a.le)).trans (a.agree l hl)
  frame := fun p o e ho hp => b.frame p o (a.frame p o e ho hp) ho fun l hl z => by
    by_cases q : l < n
    · exact hp l q ((a.agree l q).symm.trans z)
    · have := a.fresh l (Nat.le_of_not_lt q) hl
      rw [z, e] at this
      cases this
  fresh := fun l h1 h2 => by
    by_cases q : l < n1
    · rw [b.agree l q]
      exact a.fresh l h1 q
    · have f := b.fresh l (Nat.le_of_not_lt q) h2
      cases e : H (ι2 l) with
      | none => rfl
      | some o => exact absurd f (a.dom _ (by rw [e]; exact fun z => nomatch z))
  dom := fun p hp => b.dom p (a.dom p hp)
  frz := fun p o u e => b.frz p o u (a.frz p o u e)

section
variable {C : Cz} {ι ι' : Nat → Addr} {h h' : PA.Heap} {n n' : Nat} {H H' : Hp}
theorem slO_notup {a C dx : Addr} {vs : List (Option V)} {xs : List V} : SlX.SlO a C dx vs ≠ .tup xs := fun z => by unfold SlX.SlO at z; cases z
theorem slO_nofrz {a C dx : Addr} {vs : List (Option V)} {o : Obj} {u : HO} : SlX.SlO a C dx vs ≠ .frz o u := fun z => by unfold SlX.SlO at z; cases z
/-- an object of ours is no tuple -/
theorem ObR.notup {a : Addr} {o : AO} (r : ObR C ι n H a o) {xs : List V} (t : Rd H a (.tup xs)) : False := by
  have key : ∀ u, H a = some u → (∀ xs, u ≠ .tup xs) → (∀ o w, u ≠ .frz o w) → False := fun u e h1 h2 => by
    rcases t with t | ⟨o, t⟩
    · rw [e] at t; exact h1 xs (Option.some.inj t)
    · rw [e] at t; exact h2 o _ (Option.some.inj t)
  cases o with
  | lst ys => obtain ⟨vs, e, _⟩ := r; exact key _ e (fun _ z => nomatch z) (fun _ _ z => nomatch z)
  | dct ys => obtain ⟨vs, e, _⟩ := r; exact key _ e (fun _ z => nomatch z) (fun _ _ z => nomatch z)
  | lck ys =>
    obtain ⟨o, vs, e, _⟩ := r
    rcases t with t | ⟨o', t⟩
    · rw [e] at t; cases t
    · rw [e] at t; cases t
  | ins c fs =>
    rcases r with ⟨_, dx, gs, e, _⟩ | ⟨_, dx, vs, _, sl, _⟩
    · exact key _ e (fun _ z => nomatch z) (fun _ _ z => nomatch z)
    · rcases sl with ⟨e, _, _⟩ | ⟨e, _⟩
      · exact key _ e (fun _ z => nomatch z) (fun _ _ z => nomatch z)
      · exact key _ e (fun _ => slO_notup) (fun _ _ => slO_nofrz)
theorem Rep.there (r : Rep C ι h H) {l : Nat} (hl : l < h.length) : ∃ o, h[l]? = some o ∧ ObR C ι h.length H (ι l) o := ⟨h[l], by simp [hl], r.at_ l _ (by simp [hl])⟩
theorem Rep.sqT (r : Rep C ι h H) (e : Ext ι h.length H ι' n' H') {a : Addr} {xs : List V} (t : SqT C.K H a xs) : SqT C.K H' a xs := by
  rcases t with t | t
  · have off : ∀ l, l < h.length → ι l ≠ a := fun l hl z => by
      obtain ⟨o, _, ob⟩ := r.there hl
      exact (z ▸ ob).notup t
    rcases t with t | ⟨o, t⟩
    · exact .inl (.inl (e.frame _ _ t (fun _ z => nomatch z) off))
    · exact .inl (.inr ⟨o, e.frame _ _ t (fun _ z => nomatch z) off⟩)
  · exact .inr t
mutual
theorem Rep.av (r : Rep C ι h H) (e : Ext ι h.length H ι' n' H') : ∀ {x : AV} {v : V}, AvR C ι h.length H x v → AvR C ι' n' H' x v
  | _, _, .non => .non
  | _, _, .bl b => .bl b
  | _, _, .int i => .int i
  | _, _, .str s => .str s
  | _, _, .tup t q => .tup (r.sqT e t) (Rep.avs r e q)
  | _, _, .loc (l := l) hl => by rw [← e.agree l hl]; exact .loc (Nat.lt_of_lt_of_le hl e.le)
  | _, _, .gl g => .gl g
  | _, _, .ty t => .ty t
theorem Rep.avs (r : Rep C ι h H) (e : Ext ι h.length H ι' n' H') : ∀ {xs : List AV} {vs : List V}, AvRs C ι h.length H xs vs → AvRs C ι' n' H' xs vs
  | _, _, .nil => .nil
  | _, _, .cons a b => .cons (Rep.av r e a) (Rep.avs r e b)
end
theorem Rep.fsr (r : Rep C ι h H) (e : Ext ι h.length H ι' n' H') : ∀ {xs : List (Str × AV)} {vs : List (Str × V)}, FsR C ι h.length H xs vs → FsR C ι' n' H' xs vs
  | _, _, .nil => .nil
  | _, _, .cons a b => .cons (r.av e a) (Rep.fsr r e b)
theorem Rep.ksr (r : Rep C ι h H) (e : Ext ι h.length H ι' n' H') : ∀ {xs : List (AV × AV)} {vs : List (Key × V)}, KsR C ι h.length H xs vs → KsR C ι' n' H' xs vs
  | _, _, .nil => .nil
  | _, _, .int a b => .int (r.av e a) (Rep.ksr r e b)
  | _, _, .str a b => .str (r.av e a) (Rep.ksr r e b)
theorem Rep.sls (r : Rep C ι h H) (e : Ext ι h.length H ι' n' H') {names : List Str} {fs : List (Str × AV)} {vs : List (Option V)} (q : SlsR C ι h.length H names fs vs) : SlsR C ι' n' H' names fs vs :=
  fun i f x h1 h2 => let ⟨v, e1, e2⟩ := q i f x h1 h2; ⟨v, e1, r.av e e2⟩
mutual
theorem AvR.map (k : ∀ a xs, SqT C.K H a xs → SqT C.K H' a xs) (hn : n ≤ n') (ag : ∀ l, l < n → ι' l = ι l) : ∀ {x : AV} {v : V}, AvR C ι n H x v → AvR C ι' n' H' x v
  | _, _, .non => .non
  | _, _, .bl b => .bl b
  | _, _, .int i => .int i
  | _, _, .str s => .str s
  | _, _, .tup t q => .tup (k _ _ t) (AvRs.map k hn ag q)
  | _, _, .loc (l := l) hl => by rw [← ag l hl]; exact .loc (Nat.lt_of_lt_of_le hl hn)
  | _, _, .gl g => .gl g
  | _, _, .ty t => .ty t
theorem AvRs.map (k : ∀ a xs, SqT C.K H a xs → SqT C.K H' a xs) (hn : n ≤ n') (ag : ∀ l, l < n → ι' l = ι l) : ∀ {xs : List AV} {vs : List V}, AvRs C ι n H xs vs → AvRs C ι' n' H' xs vs
  | _, _, .nil => .nil
  | _, _, .cons a b => .cons (AvR.map k hn ag a) (AvRs.map k hn ag b)
end
theorem FsR.map (k : ∀ a xs, SqT C.K H a xs → SqT C.K H' a xs) (hn : n ≤ n') (ag : ∀ l, l < n → ι' l = ι l) : ∀ {xs : List (Str × AV)} {vs : List (Str × V)}, FsR C ι n H xs vs → FsR C ι' n' H' xs vs
  | _, _, .nil => .nil
  | _, _, .cons a b => .cons (AvR.map k hn ag a) (FsR.map k hn ag b)
theorem KsR.map (k : ∀ a xs, SqT C.K H a xs → SqT C.K H' a xs) (hn : n ≤ n') (ag : ∀ l, l < n → ι' l = ι l) : ∀ {xs : List (AV × AV)} {vs : List (Key × V)}, KsR C ι n H xs vs → KsR C ι' n' H' xs vs
  | _, _, .nil => .nil
  | _, _, .int a b => .int (AvR.map k hn ag a) (KsR.map k hn ag b)
  | _, _, .str a b => .str (AvR.map k hn ag a) (KsR.map k hn ag b)
theorem AvRs.length {xs : List AV} {vs : List V} (r : AvRs C ι n H xs vs) : xs.length = vs.length := by
  induction xs generalizing vs with
  | nil => cases r; rfl
  | cons x xs ih => cases r with | cons a b => simp [ih b]
theorem AvRs.append {xs ys : List AV} {vs ws : List V} (r : AvRs C ι n H xs vs) (q : AvRs C ι n H ys ws) : AvRs C ι n H (xs ++ ys) (vs ++ ws) := by
  induction xs generalizing vs with
  | nil => cases r; exact q
  | cons x xs ih => cases r with | cons a b => exact .cons a (ih b)
theorem AvRs.get {xs : List AV} {vs : List V} (r : AvRs C ι n H xs vs) {i : Nat} {x : AV} (e : xs[i]? = some x) : ∃ v, vs[i]? = some v ∧ AvR C ι n H x v := by
  induction xs generalizing vs i with
  | nil => simp at e
  | cons y ys ih =>
    cases r with
    | cons a b =>
      cases i with
      | zero => simp at e; subst e; exact ⟨_, rfl, a⟩
      | succ i => obtain ⟨v, e1, e2⟩ := ih b (by simpa using e); exact ⟨v, by simpa using e1, e2⟩
theorem AvRs.set {xs : List AV} {vs : List V} {x : AV} {v : V} (r : AvRs C ι n H xs vs) (q : AvR C ι n H x v) (i : Nat) : AvRs C ι n H (xs.set i x) (vs.set i v) := by
  induction xs generalizing vs i with
  | nil => cases r; exact .nil
  | cons y ys ih =>
    cases r with
    | cons a b =>
      cases i with
      | zero => exact .cons q b
      | succ i => exact .cons a (ih b i)
theorem FsR.lookup {fs : List (Str × AV)} {gs : List (Str × V)} (r : FsR C ι n H fs gs) (f : Str) : (∃ x v, fs.lookup f = some x ∧ gs.lookup f = some v ∧ AvR C ι n H x v) ∨ (fs.lookup f = none ∧ gs.lookup f = none) := by
  induction fs generalizing gs with
  | nil => cases r; exact .inr ⟨rfl, rfl⟩
  | cons p fs ih =>
    cases r with
    | cons a b =>
      rename_i g x v gs
      by_cases q : f = g
      · subst q; exact .inl ⟨x, v, by simp [List.lookup], by simp [List.lookup], a⟩
      · have q' : (f == g) = false := by simpa using q
        simp only [List.lookup, q']
        exact ih b
theorem FsR.length {fs : List (Str × AV)} {gs : List (Str × V)} (r : FsR C ι n H fs gs) : fs.length = gs.length := by
  induction fs generalizing gs with
  | nil => cases r; rfl
  | cons p fs ih => cases r with | cons a b => simp [ih b]
theorem FsR.put {fs : List (Str × AV)} {gs : List (Str × V)} {x : AV} {v : V} (r : FsR C ι n H fs gs) (q : AvR C ι n H x v) (f : Str) : FsR C ι n H (PA.putF f x fs) (L2.putF f v gs) := by
  induction fs generalizing gs with
  | nil => cases r; exact .cons q .nil
  | cons p fs ih =>
    cases r with
    | cons a b =>
      rename_i g y w gs
      show FsR C ι n H (if g = f then _ else _) (if g = f then _ else _)
      by_cases e : g = f
      · rw [if_pos e, if_pos e]; exact .cons q b
      · rw [if_neg e, if_neg e]; exact .cons a (ih b)
theorem ObR.kind {a : Addr} {o : AO} (r : ObR C ι n H a o) : ∃ u, H a = some u ∧ (∀ fs, u ≠ .xd fs) ∧ ∀ y, u ≠ .own y := by
  cases o with
  | lst ys => obtain ⟨_, e, _⟩ := r; exact ⟨_, e, (fun _ z => nomatch z), (fun _ z => nomatch z)⟩
  | dct ys => obtain ⟨_, e, _⟩ := r; exact ⟨_, e, (fun _ z => nomatch z), (fun _ z => nomatch z)⟩
  | lck ys => obtain ⟨_, _, e, _⟩ := r; exact ⟨_, e, (fun _ z => nomatch z), (fun _ z => nomatch z)⟩
  | ins c fs =>
    rcases r with ⟨_, _, _, e, _⟩ | ⟨_, _, _, _, sl, _⟩
    · exact ⟨_, e, (fun _ z => nomatch z), (fun _ z => nomatch z)⟩
    · rcases sl with ⟨e, _, _⟩ | ⟨e, _⟩
      · exact ⟨_, e, (fun _ z => nomatch z), (fun _ z => nomatch z)⟩
      · exact ⟨_, e, (fun _ z => by unfold SlX.SlO at z; cases z), (fun _ z => by unfold SlX.SlO at z; cases z)⟩
theorem ObR.noxd {a : Addr} {o : AO} {fs : List (Str × V)} (r : ObR C ι n H a o) (e : H a = some (.xd fs)) : False := by
  obtain ⟨u, h1, h2, _⟩ := r.kind
  rw [h1] at e
  exact h2 _ (Option.some.inj e)
theorem ObR.noown {a y : Addr} {o : AO} (r : ObR C ι n H a o) (e : H a = some (.own y)) : False := by
  obtain ⟨u, h1, _, h2⟩ := r.kind
  rw [h1] at e
  exact h2 _ (Option.some.inj e)
/-- an object that stands as it stood -/
theorem Rep.obr (r : Rep C ι h H) (e : Ext ι h.length H ι' n' H') {a : Addr} {o : AO} (q : ObR C ι h.length H a o) (st : H' a = H a) (so : ∀ dx, H dx = some (.own a) → H' dx = some (.own a)) : ObR C ι' n' H' a o := by
  cases o with
  | lst xs => obtain ⟨vs, e1, e2⟩ := q; exact ⟨vs, st.trans e1, r.avs e e2⟩
  | dct xs => obtain ⟨vs, e1, e2⟩ := q; exact ⟨vs, st.trans e1, r.ksr e e2⟩
  | lck xs => obtain ⟨o, vs, e1, e2⟩ := q; exact ⟨o, vs, st.trans e1, r.ksr e e2⟩
  | ins c fs =>
    rcases q with ⟨e0, dx, gs, e1, e2⟩ | ⟨names, dx, vs, e0, sl, ne, e2⟩
    · exact .inl ⟨e0, dx, gs, st.trans e1, r.fsr e e2⟩
    · refine .inr ⟨names, dx, vs, e0, ?_, ne, r.sls e e2⟩
      rcases sl with ⟨s1, s2, s3⟩ | ⟨s1, s2⟩
      · exact .inl ⟨st.trans s1, so _ s2, s3⟩
      · refine .inr ⟨st.trans s1, e.frame _ _ s2 (fun _ z => nomatch z) fun l hl z => ?_⟩
        obtain ⟨o, _, ob⟩ := r.there hl
        rw [z] at ob
        exact ob.noxd s2

/-- tracked beside ours: kept -/
theorem Ext.laid (r : Rep C ι h H) {p : Addr} {o : HO} (hp : H p = none) : Ext ι h.length H ι h.length (upd H p o) where
  le := Nat.le_refl _
  agree := fun _ _ => rfl
  frame := fun q u e _ _ => by rw [upd_ne (ne_of_none e hp)]; exact e
  fresh := fun l a b => absurd (Nat.lt_of_lt_of_le b a) (Nat.lt_irrefl _)
  dom := fun q e => by
    by_cases z : q = p
    · rw [z, upd_same]; exact fun z => nomatch z
    · rw [upd_ne z]; exact e
  frz := fun q o' u e => by rw [upd_ne (ne_of_none e hp)]; exact e
theorem ObR.some_ {a : Addr} {o : AO} (r : ObR C ι n H a o) : ∃ u, H a = some u := by
  cases o with
  | lst ys => obtain ⟨vs, e, _⟩ := r; exact ⟨_, e⟩
  | dct ys => obtain ⟨vs, e, _⟩ := r; exact ⟨_, e⟩
  | lck ys => obtain ⟨_, vs, e, _⟩ := r; exact ⟨_, e⟩
  | ins c fs =>
    rcases r with ⟨_, dx, gs, e, _⟩ | ⟨_, dx, vs, _, sl, _⟩
    · exact ⟨_, e⟩
    · rcases sl with ⟨e, _, _⟩ | ⟨e, _⟩ <;> exact ⟨_, e⟩
theorem Rep.off (r : Rep C ι h H) {p : Addr} (hp : H p = none) {l : Nat} (hl : l < h.length) : ι l ≠ p := fun z => by
  obtain ⟨o, _, ob⟩ := r.there hl
  obtain ⟨u, e⟩ := ob.some_
  rw [z, hp] at e; cases e
theorem Rep.laid (r : Rep C ι h H) {p : Addr} {o : HO} (hp : H p = none) : Rep C ι h (upd H p o) :=
  ⟨fun l ob e => r.obr (Ext.laid r hp) (r.at_ l ob e) (upd_ne (r.off hp (List.getElem?_eq_some_iff.mp e).1)) (fun dx q => by rw [upd_ne (ne_of_none q hp)]; exact q), r.inj, r.scr.keep (Ext.laid r hp).frz⟩
/-- a new object of ours -/
def put1 (ι : Nat → Addr) (n : Nat) (p : Addr) : Nat → Addr := fun l => if l = n then p else ι l
theorem put1_same {p : Addr} : put1 ι n p n = p := if_pos rfl
theorem put1_lt {p : Addr} {l : Nat} (hl : l < n) : put1 ι n p l = ι l := if_neg (Nat.ne_of_lt hl)
theorem Ext.grow (r : Rep C ι h H) {p : Addr} {o : HO} (hp : H p = none) : Ext ι h.length H (put1 ι h.length p) (h.length + 1) (upd H p o) where
  le := Nat.le_succ _
  agree := fun l hl => put1_lt hl
  frame := fun q u e _ _ => by rw [upd_ne (ne_of_none e hp)]; exact e
  fresh := fun l a b => by
    have : l = h.length := by omega
    subst this
    rw [put1_same]; exact hp
  dom := (Ext.laid r hp).dom
  frz := (Ext.laid (o := o) r hp).frz
theorem Rep.grow (r : Rep C ι h H) {p : Addr} {o : HO} {ao : AO} (hp : H p = none) (ob : ObR C (put1 ι h.length p) (h.length + 1) (upd H p o) p ao) : Rep C (put1 ι h.length p) (h ++ [ao]) (upd H p o) := by
  refine ⟨fun l o' e => ?_, fun l l' a b e => ?_, r.scr.keep (Ext.laid (o := o) r hp).frz⟩
  · rw [List.length_append, List.length_singleton]
    by_cases q : l < h.length
    · rw [List.getElem?_append_left q] at e
      rw [put1_lt q]
      exact r.obr (Ext.grow r hp) (r.at_ l o' e) (upd_ne (r.off hp q)) (fun dx q => by rw [upd_ne (ne_of_none q hp)]; exact q)
    · have hl : l < h.length + 1 := by have := (List.getElem?_eq_some_iff.mp e).1; simpa using this
      have : l = h.length := by omega
      subst this
      rw [List.getElem?_append_right (Nat.le_refl _), Nat.sub_self] at e
      simp at e
      subst e
      rw [put1_same]
      exact ob
  · rw [List.length_append, List.length_singleton] at a b
    by_cases q : l < h.length
    · by_cases q' : l' < h.length
      · rw [put1_lt q, put1_lt q'] at e; exact r.inj l l' q q' e
      · have : l' = h.length := by omega
        subst this
        rw [put1_lt q, put1_same] at e
        exact absurd e (r.off hp q)
    · have : l = h.length := by omega
      subst this
      by_cases q' : l' < h.length
      · rw [put1_lt q', put1_same] at e
        exact absurd e.symm (r.off hp q')
      · omega
/-- an object of ours changed -/
theorem Ext.chg (r : Rep C ι h H) {l : Nat} {u : HO} (hl : l < h.length) (nf : ∀ o u, H (ι l) ≠ some (.frz o u)) : Ext ι h.length H ι h.length (upd H (ι l) u) where
  le := Nat.le_refl _
  agree := fun _ _ => rfl
  frame := fun q o e _ hq => by rw [upd_ne (Ne.symm (hq l hl))]; exact e
  fresh := fun l a b => absurd (Nat.lt_of_lt_of_le b a) (Nat.lt_irrefl _)
  dom := fun q e => by
    by_cases z : q = ι l
    · rw [z, upd_same]; exact fun z => nomatch z
    · rw [upd_ne z]; exact e
  frz := fun q o' u' e => by rw [upd_ne (fun z => nf o' u' (by rw [← z]; exact e))]; exact e
theorem Rep.chg (r : Rep C ι h H) {l : Nat} {u : HO} {ao : AO} (hl : l < h.length) (nf : ∀ o u, H (ι l) ≠ some (.frz o u)) (ob : ObR C ι h.length (upd H (ι l) u) (ι l) ao) : Rep C ι (h.set l ao) (upd H (ι l) u) := by
  refine ⟨fun k o e => ?_, fun k k' a b e => r.inj k k' (by simpa using a) (by simpa using b) e, r.scr.keep (Ext.chg r hl nf).frz⟩
  rw [List.length_set]
  by_cases q : l = k
  · subst q
    rw [List.getElem?_set_self hl] at e
    cases e
    exact ob
  · rw [List.getElem?_set_ne q] at e
    have hk := (List.getElem?_eq_some_iff.mp e).1
    refine r.obr (Ext.chg r hl nf) (r.at_ k o e) (upd_ne fun z => q (r.inj k l hk hl z).symm) fun dx qd => ?_
    rw [upd_ne (fun z => ?_)]
    · exact qd
    · obtain ⟨o2, _, ob2⟩ := r.there hl
      rw [z] at qd
      exact ob2.noown qd
/-- a list beside ours is written -/
theorem side_sqT {D : Addr} {ys : List V} {u : HO} (hD : H D = some (.lst ys)) {a : Addr} {xs : List V} (t : SqT C.K H a xs) : SqT C.K (upd H D u) a xs := by
  rcases t with (t | ⟨o, t⟩) | t
  · exact .inl (.inl (by rw [upd_ne (fun z => by rw [z, hD] at t; cases t)]; exact t))
  · exact .inl (.inr ⟨o, by rw [upd_ne (fun z => by rw [z, hD] at t; cases t)]; exact t⟩)
  · exact .inr t
theorem Rep.side (r : Rep C ι h H) {D : Addr} {ys : List V} {u : HO} (hD : H D = some (.lst ys)) (off : ∀ l, l < h.length → ι l ≠ D) : Rep C ι h (upd H D u) := by
  refine ⟨fun l o e => ?_, r.inj, r.scr.upd fun o w z => by rw [hD] at z; cases z⟩
  have hl := (List.getElem?_eq_some_iff.mp e).1
  have st : upd H D u (ι l) = H (ι l) := upd_ne (off l hl)
  have q := r.at_ l o e
  cases o with
  | lst xs => obtain ⟨vs, e1, e2⟩ := q; exact ⟨vs, st.trans e1, e2.map (fun _ _ => side_sqT hD) (Nat.le_refl _) fun _ _ => rfl⟩
  | dct xs => obtain ⟨vs, e1, e2⟩ := q; exact ⟨vs, st.trans e1, e2.map (fun _ _ => side_sqT hD) (Nat.le_refl _) fun _ _ => rfl⟩
  | lck xs => obtain ⟨o, vs, e1, e2⟩ := q; exact ⟨o, vs, st.trans e1, e2.map (fun _ _ => side_sqT hD) (Nat.le_refl _) fun _ _ => rfl⟩
  | ins c fs =>
    rcases q with ⟨e0, dx, gs, e1, e2⟩ | ⟨names, dx, vs, e0, sl, ne, e2⟩
    · exact .inl ⟨e0, dx, gs, st.trans e1, e2.map (fun _ _ => side_sqT hD) (Nat.le_refl _) fun _ _ => rfl⟩
    · refine .inr ⟨names, dx, vs, e0, ?_, ne, fun i f x h1 h2 => let ⟨v, e3, e4⟩ := e2 i f x h1 h2; ⟨v, e3, e4.map (fun _ _ => side_sqT hD) (Nat.le_refl _) fun _ _ => rfl⟩⟩
      rcases sl with ⟨s1, s2, s3⟩ | ⟨s1, s2⟩
      · exact .inl ⟨st.trans s1, by rw [upd_ne (fun z => by rw [z, hD] at s2; cases s2)]; exact s2, s3⟩
      · exact .inr ⟨st.trans s1, by rw [upd_ne (fun z => by rw [z, hD] at s2; cases s2)]; exact s2⟩
theorem Ext.side {ι0 : Nat → Addr} {n0 : Nat} {H0 : Hp} (e : Ext ι0 n0 H0 ι n H) {D : Addr} {u : HO} (hD : H0 D = none) : Ext ι0 n0 H0 ι n (upd H D u) where
  le := e.le
  agree := e.agree
  frame := fun p o q ho k => by rw [upd_ne (ne_of_none q hD)]; exact e.frame p o q ho k
  fresh := e.fresh
  dom := fun p q => by
    by_cases z : p = D
    · rw [z, upd_same]; exact fun z => nomatch z
    · rw [upd_ne z]; exact e.dom p q
  frz := fun p o w q => by rw [upd_ne (ne_of_none q hD)]; exact e.frz p o w q
end
end PL
set_option maxRecDepth 100000
set_option maxHeartbeats 2000000
/-! Lift2: what a rule promises; names, constants, operators, tests, tuples, fields, calls. -/
namespace PL
open PySem PySem.Spec PyProof.Rows L2 PA

/-- an exception that flies: its class, its own dict -/
def ExR (C : Cz) (ι : Nat → Addr) (n : Nat) (H : Hp) (e : Exc) (cls : Value) (d : Option Addr) : Prop :=
  cls = .ref (C.ad e.cls) ∧ ((e.fs = [] ∧ d = none) ∨ ∃ dd gs, d = some dd ∧ H dd = some (.xd gs) ∧ FsR C ι n H e.fs gs)

abbrev RR (α β : Type) := (Nat → Addr) → Nat → Hp → α → β → Prop
def GPost {α β : Type} (C : Cz) (R : RR α β) (ι : Nat → Addr) (h : PA.Heap) (H : Hp) (Q : β → Hp → Prop) (W : XK) : Res α → Prop
  | .ok a h' => ∀ ι' H' b, Ext ι h.length H ι' h'.length H' → Rep C ι' h' H' → R ι' h'.length H' a b → Q b H'
  | .exc e h' => ∀ ι' H' cls d, Ext ι h.length H ι' h'.length H' → Rep C ι' h' H' → ExR C ι' h'.length H' e cls d → W cls d H'
  | .bad => False
abbrev rB : RR Bool Bool := fun _ _ _ a b => a = b

section
variable {C : Cz} {α β α' β' : Type} {R : RR α β} {R' : RR α' β'} {ι ι' : Nat → Addr} {h h' : PA.Heap} {H H' : Hp} {W W' : XK}
theorem GPost.mono {Q Q' : β → Hp → Prop} {r : Res α} (p : GPost C R ι h H Q W r) (k : ∀ b H, Q b H → Q' b H) : GPost C R ι h H Q' W r := by
  cases r with
  | ok a h1 => exact fun ι1 H1 b e rr x => k _ _ (p ι1 H1 b e rr x)
  | exc e h1 => exact p
  | bad => exact p
theorem GPost.shift {Q : β → Hp → Prop} {r : Res α} (p : GPost C R ι h H Q W r) (e : Ext ι h.length H ι' h'.length H') : GPost C R ι' h' H' Q W r := by
  cases r with
  | ok a h1 => exact fun ι1 H1 b e1 rr x => p ι1 H1 b (e.trans e1) rr x
  | exc e' h1 => exact fun ι1 H1 c d e1 rr x => p ι1 H1 c d (e.trans e1) rr x
  | bad => exact p
theorem GPost.bnd {Q : β' → Hp → Prop} {m : PA.Heap → Res α} {k : α → PA.Heap → Res α'} (p : GPost C R' ι h H Q W (PA.bnd m k h)) :
    GPost C R ι h H (fun b H1 => ∃ ι1 h1 a, Rep C ι1 h1 H1 ∧ Ext ι h.length H ι1 h1.length H1 ∧ R ι1 h1.length H1 a b ∧ GPost C R' ι1 h1 H1 Q W (k a h1)) W (m h) := by
  unfold PA.bnd at p
  cases e : m h with
  | ok a h1 =>
    rw [e] at p
    exact fun ι1 H1 b e1 rr x => ⟨ι1, h1, a, rr, e1, x, GPost.shift (h := h) (h' := h1) p e1⟩
  | exc e' h1 => rw [e] at p; exact p
  | bad => rw [e] at p; exact p
end

/-- the slots -/
def EnR (C : Cz) (ι : Nat → Addr) (n : Nat) (H : Hp) (ρ : PA.Env) (σ : L2.St) : Prop := ρ.length = σ.length ∧ ∀ (i : Nat) (a : AV), ρ[i]? = some (some a) → ∃ v, σ[i]? = some (some v) ∧ AvR C ι n H a v
section
variable {C : Cz} {ι ι' : Nat → Addr} {h h' : PA.Heap} {n n' : Nat} {H H' : Hp} {ρ : PA.Env} {σ : L2.St}
theorem EnR.ext (q : EnR C ι h.length H ρ σ) (r : Rep C ι h H) (e : Ext ι h.length H ι' n' H') : EnR C ι' n' H' ρ σ :=
  ⟨q.1, fun i a hi => let ⟨v, e1, e2⟩ := q.2 i a hi; ⟨v, e1, r.av e e2⟩⟩
theorem EnR.set (q : EnR C ι n H ρ σ) {a : AV} {v : V} (r : AvR C ι n H a v) (i : Nat) : EnR C ι n H (ρ.set i (some a)) (σ.set i (some v)) := by
  refine ⟨by simp [q.1], fun j b hj => ?_⟩
  by_cases z : i = j
  · subst z
    have hl : i < ρ.length := by
      have := (List.getElem?_eq_some_iff.mp hj).1
      simpa using this
    rw [List.getElem?_set_self hl] at hj
    cases hj
    exact ⟨v, by rw [List.getElem?_set_self (by rw [← q.1]; exact hl)], r⟩
  · rw [List.getElem?_set_ne z] at hj
    rw [List.getElem?_set_ne z]
    exact q.2 j b hj
end

def tG {α β : Type} (C : Cz) (R : RR α β) (m : PA.Env → PA.Heap → Res α) (W : WX) : L2.St → Hp → (β → Hp → Prop) → Prop := fun σ H Q =>
  ∃ ι h ρ, Rep C ι h H ∧ EnR C ι h.length H ρ σ ∧ GPost C R ι h H Q (fun c d H' => W c d σ H') (m ρ h)
abbrev tE (C : Cz) (m : EE) (W : WX) : TE := tG C (AvR C) m W
abbrev tL (C : Cz) (m : LL) (W : WX) : TA := tG C (AvRs C) m W
abbrev tT (C : Cz) (m : BB) (W : WX) : TT := tG C rB m W

def RE (C : Cz) (X : Cx) (e : Expr) (m : EE) : Prop := ∀ W, Takes X W → PE X e (tE C m W)
def RL (C : Cz) (X : Cx) (es : List Expr) (m : LL) : Prop := ∀ W, Takes X W → PA X es (tL C m W)
def RT (C : Cz) (X : Cx) (e : Expr) (m : BB) : Prop := ∀ W, Takes X W → PT X e (tT C m W)
def RW (C : Cz) (X : Cx) (e : Expr) (m : BB) : Prop := ∀ W, Takes X W → PW X e (tT C m W)

theorem PE_imp {X : Cx} {e : Expr} {t t' : TE} (p : PE X e t) (k : ∀ σ H Q, t' σ H Q → t σ H Q) : PE X e t' := ⟨fun pins s σ H Q I q => p.run pins s σ H Q I (k σ H Q q)⟩
theorem PT_imp {X : Cx} {e : Expr} {t t' : TT} (p : PT X e t) (k : ∀ σ H Q, t' σ H Q → t σ H Q) : PT X e t' := ⟨fun pins s σ H Q I q => p.run pins s σ H Q I (k σ H Q q)⟩
theorem PW_imp {X : Cx} {e : Expr} {t t' : TT} (p : PW X e t) (k : ∀ σ H Q, t' σ H Q → t σ H Q) : PW X e t' := ⟨fun whole pins s σ H Q I q => p.run whole pins s σ H Q I (k σ H Q q)⟩
theorem PA_imp {X : Cx} {e : List Expr} {t t' : TA} (p : PA X e t) (k : ∀ σ H Q, t' σ H Q → t σ H Q) : PA X e t' := ⟨fun pos pins s σ H Q I q => p.run pos pins s σ H Q I (k σ H Q q)⟩
theorem PS_imp {X : Cx} {e : Stmt} {t t' : TS} (p : PS X e t) (k : ∀ D σ H, t' D σ H → t D σ H) : PS X e t' := ⟨fun pins s σ H D I q => p.run pins s σ H D I (k D σ H q)⟩
theorem PSs_imp {X : Cx} {e : List Stmt} {t t' : TS} (p : PSs X e t) (k : ∀ D σ H, t' D σ H → t D σ H) : PSs X e t' := ⟨fun pins s σ H D I q => p.run pins s σ H D I (k D σ H q)⟩

section
variable {C : Cz} {X : Cx}
/-! ### names, constants -/
theorem re_var (i : Nat) {x : Str} {pos : Pos} (hN : X.N[i]? = some x := by rfl) (hv : Vis X.env.scope x := by first | exact Or.inl rfl | exact Or.inr (Or.inl rfl) | exact Or.inr (Or.inr rfl)) (hd : (x == ("__debug__" : Str)) = false := by decide)
    (hcd : (x == ("__classdict__" : Str)) = false := by decide) : RE C X (.Name x pos) (eVar i) := fun W tk => by
  refine PE_imp (pe_var hN hv hd hcd) fun σ H Q ⟨ι, h, ρ, r, en, p⟩ => ?_
  unfold eVar at p
  cases e : ρ[i]? with
  | none => rw [e] at p; exact p.elim
  | some o =>
    cases o with
    | none => rw [e] at p; exact p.elim
    | some a =>
      rw [e] at p
      obtain ⟨v, e1, e2⟩ := en.2 i a e
      exact ⟨v, e1, p ι H v Ext.refl r e2⟩
theorem re_c {e : Expr} {a : AV} {v : V} (p : PE X e (tC v)) (k : ∀ ι n H, AvR C ι n H a v) : RE C X e (eC a) := fun W tk =>
  PE_imp p fun σ H Q ⟨ι, h, ρ, r, en, q⟩ => q ι H v Ext.refl r (k _ _ _)
theorem re_int {i : Int} {j pos} : RE C X (.Constant (.int i) j pos) (eC (.int i)) := re_c pe_int fun _ _ _ => .int i
theorem re_bl {b : Bool} {j pos} : RE C X (.Constant (.bool b) j pos) (eC (.bl b)) := re_c pe_bl fun _ _ _ => .bl b
theorem re_non {j pos} : RE C X (.Constant .none j pos) (eC .non) := re_c pe_non fun _ _ _ => .non
theorem re_str {x : Str} {j pos} : RE C X (.Constant (.str x) j pos) (eC (.str x)) := re_c pe_str fun _ _ _ => .str x

/-! ### argument lists, displays -/
theorem rl_nil : RL C X [] lNil := fun W tk => PA_imp pa_nil fun σ H Q ⟨ι, h, ρ, r, en, p⟩ => p ι H [] Ext.refl r .nil
theorem rl_cons {e : Expr} {es : List Expr} {m : EE} {l : LL} (he : RE C X e m) (hl : RL C X es l) (hs : starEach (e :: es) X.env = (false, eval e X.env) :: starEach es X.env := by rfl) : RL C X (e :: es) (lCons m l) := fun W tk =>
  PA_imp (pa_cons (he W tk) (hl W tk) hs) fun σ H Q ⟨ι, h, ρ, r, en, p⟩ =>
    ⟨ι, h, ρ, r, en, (GPost.bnd (R := AvR C) p).mono fun x H1 ⟨ι1, h1, a, r1, e1, x1, p1⟩ =>
      ⟨ι1, h1, ρ, r1, en.ext r e1, (GPost.bnd (R := AvRs C) p1).mono fun ys H2 ⟨ι2, h2, as, r2, e2, x2, p2⟩ =>
        p2 ι2 H2 (x :: ys) Ext.refl r2 (.cons (r1.av e2 x1) x2)⟩⟩
theorem re_tup {es : List Expr} {l : LL} {c pos} (hl : RL C X es l) : RE C X (.Tuple es c pos) (eTup l) := fun W tk =>
  PE_imp (pe_tup (hl W tk)) fun σ H Q ⟨ι, h, ρ, r, en, p⟩ => ⟨ι, h, ρ, r, en, (GPost.bnd (R := AvRs C) p).mono fun xs H1 ⟨ι1, h1, as, r1, e1, x1, p1⟩ => by
    by_cases z : as.length ≤ szl
    · rw [if_pos z] at p1
      refine ⟨by rw [← x1.length]; exact z, fun q hq => ?_⟩
      exact p1 ι1 _ (.ref q) (Ext.laid r1 hq) (r1.laid hq) (.tup (SqT.of upd_same) (r1.avs (Ext.laid r1 hq) x1))
    · rw [if_neg z] at p1; exact p1.elim⟩
theorem re_lst {es : List Expr} {l : LL} {pos} (hl : RL C X es l) : RE C X (.List es pos) (eLst l) := fun W tk =>
  PE_imp (pe_lst (hl W tk)) fun σ H Q ⟨ι, h, ρ, r, en, p⟩ => ⟨ι, h, ρ, r, en, (GPost.bnd (R := AvRs C) p).mono fun xs H1 ⟨ι1, h1, as, r1, e1, x1, p1⟩ => by
    by_cases z : as.length ≤ szl
    · rw [if_pos z] at p1
      refine ⟨by rw [← x1.length]; exact z, fun q hq => ?_⟩
      have e2 := Ext.grow (o := .lst xs) r1 hq
      have key := p1 (put1 ι1 h1.length q) _ (.ref q) (by rw [List.length_append]; exact e2) (r1.grow (ao := .lst as) hq ⟨xs, upd_same, r1.avs e2 x1⟩) (by
        have t : AvR C (put1 ι1 h1.length q) (h1 ++ [AO.lst as]).length (upd H1 q (.lst xs)) (.loc h1.length) (.ref (put1 ι1 h1.length q h1.length)) := .loc (by simp)
        rw [put1_same] at t
        exact t)
      exact key
    · rw [if_neg z] at p1; exact p1.elim⟩
/-- a sequence of ours -/
theorem seq_of {ι : Nat → Addr} {h : PA.Heap} {H : Hp} {a : AV} {v : V} {xs : List AV} (r : Rep C ι h H) (x : AvR C ι h.length H a v) (e : seqOf h a = some xs) :
    ∃ q vs, v = .ref q ∧ (SqT C.K H q vs ∨ SqL C.K H q vs) ∧ AvRs C ι h.length H xs vs := by
  cases x with
  | non => simp [seqOf] at e
  | bl b => simp [seqOf] at e
  | int i => simp [seqOf] at e
  | str i => simp [seqOf] at e
  | gl i => simp [seqOf] at e
  | ty i => simp [seqOf] at e
  | tup t q => simp [seqOf] at e; subst e; exact ⟨_, _, rfl, .inl t, q⟩
  | loc hl =>
    rename_i l
    unfold seqOf at e
    dsimp only at e
    cases z : h[l]? with
    | none => rw [z] at e; cases e
    | some o =>
      rw [z] at e
      cases o with
      | lst ys => cases e; obtain ⟨vs, e1, e2⟩ := r.at_ l _ z; exact ⟨_, vs, rfl, .inr (SqL.of e1), e2⟩
      | dct ys => cases e
      | lck ys => cases e
      | ins c fs => cases e
theorem rl_star {e : Expr} {es : List Expr} {m : EE} {l : LL} {p : Pos} (hK : X.K = C.K) (he : RE C X e m) (hl : RL C X es l) (hs : starEach (.Starred e p :: es) X.env = (true, eval e X.env) :: starEach es X.env := by rfl) : RL C X (.Starred e p :: es) (lStar m l) := fun W tk =>
  PA_imp (StX.pa_star (he W tk) (hl W tk) hs) fun σ H Q ⟨ι, h, ρ, r, en, p⟩ =>
    ⟨ι, h, ρ, r, en, (GPost.bnd (R := AvR C) p).mono fun x H1 ⟨ι1, h1, a, r1, e1, x1, p1⟩ => by
      cases z : seqOf h1 a with
      | none => rw [z] at p1; exact p1.elim
      | some xs =>
        rw [z] at p1
        obtain ⟨q, vs, rfl, sq, av⟩ := seq_of r1 x1 z
        rw [hK]
        exact ⟨q, vs, rfl, sq, ι1, h1, ρ, r1, en.ext r e1, (GPost.bnd (R := AvRs C) p1).mono fun ys H2 ⟨ι2, h2, as, r2, e2, x2, p2⟩ =>
          p2 ι2 H2 (vs ++ ys) Ext.refl r2 ((r1.avs e2 av).append x2)⟩⟩

/-! ### operators -/
def rA (C : Cz) (o : O2) : R2 := fun x y H Q => ∃ ι h a b W, Rep C ι h H ∧ AvR C ι h.length H a x ∧ AvR C ι h.length H b y ∧ GPost C (AvR C) ι h H Q W (o a b h)
def OpA (C : Cz) (X : Cx) (f : Value → Value → Sem Value) (o : O2) : Prop := OpR X f (rA C o)
theorem bin_imp {o : O2} {ma mb : EE} {W : WX} {σ : L2.St} {H : Hp} {Q : VK} (q : tE C (eBin o ma mb) W σ H Q) : tOp (rA C o) (tE C ma W) (tE C mb W) σ H Q := by
  obtain ⟨ι, h, ρ, r, en, p⟩ := q
  exact ⟨ι, h, ρ, r, en, (GPost.bnd (R := AvR C) p).mono fun x H1 ⟨ι1, h1, a, r1, e1, x1, p1⟩ =>
    ⟨ι1, h1, ρ, r1, en.ext r e1, (GPost.bnd (R := AvR C) p1).mono fun y H2 ⟨ι2, h2, b, r2, e2, x2, p2⟩ => ⟨ι2, h2, a, b, _, r2, r1.av e2 x1, x2, p2⟩⟩⟩
theorem re_bin {op : Operator} {o : O2} {a b : Expr} {ma mb : EE} {pos : Pos} (ho : OpA C X (binaryOp op) o) (ha : RE C X a ma) (hb : RE C X b mb) : RE C X (.BinOp a op b pos) (eBin o ma mb) := fun W tk =>
  PE_imp (pe_op ho (ha W tk) (hb W tk)) fun σ H Q q => bin_imp q
theorem re_cmp {op : CmpOp} {o : O2} {a b : Expr} {ma mb : EE} {pos : Pos} (ho : OpA C X (compareOp op) o) (ha : RE C X a ma) (hb : RE C X b mb) (hm : behindInMarks op b = false := by first | exact nomark _ | with_unfolding_all rfl) : RE C X (.Compare a [op] [b] pos) (eBin o ma mb) := fun W tk =>
  PE_imp (pe_cmpR ho (ha W tk) (hb W tk) hm) fun σ H Q q => bin_imp q
theorem tB_imp {m : EE} {W : WX} {σ : L2.St} {H : Hp} {Q : Bool → Hp → Prop} (q : tT C (tB m) W σ H Q) : tE C m W σ H fun x H1 => ∃ k, x = .bl k ∧ Q k H1 := by
  obtain ⟨ι, h, ρ, r, en, p⟩ := q
  exact ⟨ι, h, ρ, r, en, (GPost.bnd (R := AvR C) p).mono fun x H1 ⟨ι1, h1, a, r1, e1, x1, p1⟩ => by
    cases x1 with
    | bl b => exact ⟨b, rfl, p1 ι1 H1 b Ext.refl r1 rfl⟩
    | _ => exact p1.elim⟩
theorem rt_cmp {op : CmpOp} {o : O2} {a b : Expr} {ma mb : EE} {pos : Pos} (ho : OpA C X (compareOp op) o) (ha : RE C X a ma) (hb : RE C X b mb) (hm : behindInMarks op b = false := by first | exact nomark _ | with_unfolding_all rfl) : RT C X (.Compare a [op] [b] pos) (tB (eBin o ma mb)) := fun W tk =>
  PT_imp (pt_cmpR ho (ha W tk) (hb W tk) hm) fun σ H Q q => bin_imp (tB_imp q)
theorem rt_val {e : Expr} {m : EE} (h : RE C X e m) (he : ∀ whole, isTrue e X.env whole = (do let v ← whole; standAt e.pos; holding [v] (truthy v)) := by intro _; rfl) : RT C X e (tB m) := fun W tk =>
  PT_imp (pt_val (h W tk) he) fun σ H Q q => tB_imp q
theorem rt_not {a : Expr} {m : BB} {pos : Pos} (ha : RT C X a m) : RT C X (.UnaryOp .Not a pos) (tNot m) := fun W tk =>
  PT_imp (pt_not (ha W tk)) fun σ H Q ⟨ι, h, ρ, r, en, p⟩ => ⟨ι, h, ρ, r, en, (GPost.bnd (R := rB) p).mono fun x H1 ⟨ι1, h1, a, r1, e1, x1, p1⟩ => by
    cases x1
    exact p1 ι1 H1 _ Ext.refl r1 rfl⟩
theorem rw_and1 {a : Expr} {m : BB} {pos : Pos} (ha : RT C X a m) : RW C X (.BoolOp .And [a] pos) m := fun W tk => pw_and1 (ha W tk)
theorem rw_or1 {a : Expr} {m : BB} {pos : Pos} (ha : RT C X a m) : RW C X (.BoolOp .Or [a] pos) m := fun W tk => pw_or1 (ha W tk)
theorem rw_and {a b : Expr} {rest : List Expr} {m u : BB} {pos : Pos} (ha : RT C X a m) (hb : RW C X (.BoolOp .And (b :: rest) pos) u) : RW C X (.BoolOp .And (a :: b :: rest) pos) (tAnd m u) := fun W tk =>
  PW_imp (pw_and (ha W tk) (hb W tk)) fun σ H Q ⟨ι, h, ρ, r, en, p⟩ => ⟨ι, h, ρ, r, en, (GPost.bnd (R := rB) p).mono fun x H1 ⟨ι1, h1, a, r1, e1, x1, p1⟩ => by
    cases x1
    by_cases z : x = true
    · rw [if_pos z] at p1 ⊢; exact ⟨ι1, h1, ρ, r1, en.ext r e1, p1⟩
    · rw [if_neg z] at p1 ⊢; exact p1 ι1 H1 _ Ext.refl r1 rfl⟩
theorem rw_or {a b : Expr} {rest : List Expr} {m u : BB} {pos : Pos} (ha : RT C X a m) (hb : RW C X (.BoolOp .Or (b :: rest) pos) u) : RW C X (.BoolOp .Or (a :: b :: rest) pos) (tOr m u) := fun W tk =>
  PW_imp (pw_or (ha W tk) (hb W tk)) fun σ H Q ⟨ι, h, ρ, r, en, p⟩ => ⟨ι, h, ρ, r, en, (GPost.bnd (R := rB) p).mono fun x H1 ⟨ι1, h1, a, r1, e1, x1, p1⟩ => by
    cases x1
    by_cases z : x = true
    · rw [if_pos z] at p1 ⊢; exact p1 ι1 H1 _ Ext.refl r1 rfl
    · rw [if_neg z] at p1 ⊢; exact ⟨ι1, h1, ρ, r1, en.ext r e1, p1⟩⟩
theorem rw_pt {e : Expr} {m : BB} (h : RW C X e m) : RT C X e m := fun W tk => (h W tk).pt
theorem re_one {op} {a : Expr} {m : EE} {pos : Pos} (h : RE C X a m) : RE C X (.BoolOp op [a] pos) m := fun W tk => pe_one (h W tk)
theorem re_not {a : Expr} {m : EE} {pos : Pos} (ha : RE C X a m) : RE C X (.UnaryOp .Not a pos) (eNot m) := fun W tk =>
  PE_imp (pe_not (ha W tk)) fun σ H Q ⟨ι, h, ρ, r, en, p⟩ => ⟨ι, h, ρ, r, en, (GPost.bnd (R := AvR C) p).mono fun x H1 ⟨ι1, h1, a, r1, e1, x1, p1⟩ => by
    cases x1 with
    | bl b => exact ⟨b, rfl, p1 ι1 H1 _ Ext.refl r1 (.bl _)⟩
    | _ => exact p1.elim⟩
theorem re_and {a b : Expr} {rest : List Expr} {m u : EE} {pos : Pos} (ha : RE C X a m) (hb : RE C X (.BoolOp .And (b :: rest) pos) u) : RE C X (.BoolOp .And (a :: b :: rest) pos) (eAnd m u) := fun W tk =>
  PE_imp (pe_and (ha W tk) (hb W tk)) fun σ H Q ⟨ι, h, ρ, r, en, p⟩ => ⟨ι, h, ρ, r, en, (GPost.bnd (R := AvR C) p).mono fun x H1 ⟨ι1, h1, a, r1, e1, x1, p1⟩ => by
    cases x1 with
    | bl b =>
      cases b with
      | true => exact ⟨true, rfl, by rw [if_pos rfl]; exact ⟨ι1, h1, ρ, r1, en.ext r e1, p1⟩⟩
      | false => exact ⟨false, rfl, by rw [if_neg Bool.false_ne_true]; exact p1 ι1 H1 _ Ext.refl r1 (.bl _)⟩
    | _ => exact p1.elim⟩
theorem re_or {a b : Expr} {rest : List Expr} {m u : EE} {pos : Pos} (ha : RE C X a m) (hb : RE C X (.BoolOp .Or (b :: rest) pos) u) : RE C X (.BoolOp .Or (a :: b :: rest) pos) (eOr m u) := fun W tk =>
  PE_imp (pe_or (ha W tk) (hb W tk)) fun σ H Q ⟨ι, h, ρ, r, en, p⟩ => ⟨ι, h, ρ, r, en, (GPost.bnd (R := AvR C) p).mono fun x H1 ⟨ι1, h1, a, r1, e1, x1, p1⟩ => by
    cases x1 with
    | bl b =>
      cases b with
      | true => exact ⟨true, rfl, by rw [if_pos rfl]; exact p1 ι1 H1 _ Ext.refl r1 (.bl _)⟩
      | false => exact ⟨false, rfl, by rw [if_neg Bool.false_ne_true]; exact ⟨ι1, h1, ρ, r1, en.ext r e1, p1⟩⟩
    | _ => exact p1.elim⟩
theorem re_if {c a b : Expr} {t : BB} {m u : EE} {pos : Pos} (hc : RT C X c t) (ha : RE C X a m) (hb : RE C X b u) : RE C X (.IfExp c a b pos) (eIf t m u) := fun W tk =>
  PE_imp (pe_ifExp (hc W tk) (ha W tk) (hb W tk)) fun σ H Q ⟨ι, h, ρ, r, en, p⟩ => ⟨ι, h, ρ, r, en, (GPost.bnd (R := rB) p).mono fun x H1 ⟨ι1, h1, a, r1, e1, x1, p1⟩ => by
    cases x1
    by_cases z : x = true
    · rw [if_pos z] at p1 ⊢; exact ⟨ι1, h1, ρ, r1, en.ext r e1, p1⟩
    · rw [if_neg z] at p1 ⊢; exact ⟨ι1, h1, ρ, r1, en.ext r e1, p1⟩⟩
theorem chain_imp {o o' : O2} {ma mb mc : EE} {W : WX} {σ : L2.St} {H : Hp} {Q : VK} (q : tE C (eChain o o' ma mb mc) W σ H Q) : tChain (rA C o) (rA C o') (tE C ma W) (tE C mb W) (tE C mc W) σ H Q := by
  obtain ⟨ι, h, ρ, r, en, p⟩ := q
  refine ⟨ι, h, ρ, r, en, (GPost.bnd (R := AvR C) p).mono fun x H1 ⟨ι1, h1, a, r1, e1, x1, p1⟩ => ?_⟩
  refine ⟨ι1, h1, ρ, r1, en.ext r e1, (GPost.bnd (R := AvR C) p1).mono fun y H2 ⟨ι2, h2, b, r2, e2, x2, p2⟩ => ?_⟩
  refine ⟨ι2, h2, a, b, _, r2, r1.av e2 x1, x2, (GPost.bnd (R := AvR C) p2).mono fun z H3 ⟨ι3, h3, c, r3, e3, x3, p3⟩ => ?_⟩
  cases x3 with
  | bl k =>
    cases k with
    | true =>
      refine ⟨true, rfl, ?_⟩
      rw [if_pos rfl]
      exact ⟨ι3, h3, ρ, r3, (en.ext r (e1.trans (e2.trans e3))), (GPost.bnd (R := AvR C) p3).mono fun z H4 ⟨ι4, h4, d, r4, e4, x4, p4⟩ => ⟨ι4, h4, b, d, _, r4, r3.av e4 (r2.av e3 x2), x4, p4⟩⟩
    | false =>
      refine ⟨false, rfl, ?_⟩
      rw [if_neg Bool.false_ne_true]
      exact p3 ι3 H3 _ Ext.refl r3 (.bl _)
  | _ => exact p3.elim
theorem re_chain {op op' : CmpOp} {o o' : O2} {a b c : Expr} {ma mb mc : EE} {pos : Pos} (ho : OpA C X (compareOp op) o) (ho' : OpA C X (compareOp op') o') (ha : RE C X a ma) (hb : RE C X b mb) (hc : RE C X c mc)
    (hm : lastMarks [op, op'] [b, c] = false := by with_unfolding_all rfl) : RE C X (.Compare a [op, op'] [b, c] pos) (eChain o o' ma mb mc) := fun W tk =>
  PE_imp (pe_chain ho ho' (ha W tk) (hb W tk) (hc W tk) hm) fun σ H Q q => chain_imp q
end
end PL
set_option maxRecDepth 100000
set_option maxHeartbeats 2000000
/-! Lift3: operators, comparisons, subscripts, dicts' reads, fields. -/
namespace PL
open PySem PySem.Spec PyProof.Rows L2 PA
section
variable {C : Cz} {X : Cx}
theorem seq_str {a : AV} {s : Str} (e : a = .str s) {h : PA.Heap} : seqOf h a = none := by subst e; rfl
/-- a list of ours, at its place -/
theorem lst_at {ι : Nat → Addr} {h : PA.Heap} {H : Hp} {l : Nat} {xs : List AV} (r : Rep C ι h H) (e : h[l]? = some (.lst xs)) : ∃ vs, H (ι l) = some (.lst vs) ∧ AvRs C ι h.length H xs vs := r.at_ l _ e
theorem grow_lst {ι : Nat → Addr} {h : PA.Heap} {H : Hp} {Q : VK} {W : XK} {xs : List AV} {vs : List V} (r : Rep C ι h H) (x : AvRs C ι h.length H xs vs) (p : GPost C (AvR C) ι h H Q W (.ok (.loc h.length) (h ++ [.lst xs]))) {q : Addr} (hq : H q = none) : Q (.ref q) (upd H q (.lst vs)) := by
  have e2 := Ext.grow (o := .lst vs) r hq
  refine p (put1 ι h.length q) _ (.ref q) (by rw [List.length_append]; exact e2) (r.grow (ao := .lst xs) hq ⟨vs, upd_same, r.avs e2 x⟩) ?_
  have t : AvR C (put1 ι h.length q) (h ++ [AO.lst xs]).length (upd H q (.lst vs)) (.loc h.length) (.ref (put1 ι h.length q h.length)) := .loc (by simp)
  rw [put1_same] at t
  exact t
theorem laid_tup {ι : Nat → Addr} {h : PA.Heap} {H : Hp} {Q : VK} {W : XK} {xs : List AV} {vs : List V} (r : Rep C ι h H) (x : AvRs C ι h.length H xs vs) (p : GPost C (AvR C) ι h H Q W (.ok (.tup xs) h)) {q : Addr} (hq : H q = none) : Q (.ref q) (upd H q (.tup vs)) :=
  p ι _ (.ref q) (Ext.laid r hq) (r.laid hq) (.tup (SqT.of upd_same) (r.avs (Ext.laid r hq) x))
theorem op_subA : OpA C X (binaryOp .Sub) oSub := by
  intro pins s σ H x y v u Q I rx ry h
  obtain ⟨ι, h, a, b, W, r, xa, xb, p⟩ := h
  cases xa with
  | int i =>
    cases xb with
    | int j => exact op_sub pins s σ H _ _ v u Q I rx ry ⟨i, j, rfl, rfl, p ι H _ Ext.refl r (.int _)⟩
    | _ => exact p.elim
  | _ => exact p.elim
theorem op_modA : OpA C X (binaryOp .Mod) oMod := by
  intro pins s σ H x y v u Q I rx ry h
  obtain ⟨ι, h, a, b, W, r, xa, xb, p⟩ := h
  cases xa with
  | int i =>
    cases xb with
    | int j =>
      unfold oMod at p
      dsimp only at p
      by_cases z : 0 < j
      · rw [if_pos z] at p
        exact op_mod pins s σ H _ _ v u Q I rx ry ⟨i, j, rfl, rfl, z, p ι H _ Ext.refl r (.int _)⟩
      · rw [if_neg z] at p; exact p.elim
    | _ => exact p.elim
  | _ => exact p.elim
theorem op_divA : OpA C X (binaryOp .FloorDiv) oDiv := by
  intro pins s σ H x y v u Q I rx ry h
  obtain ⟨ι, h, a, b, W, r, xa, xb, p⟩ := h
  cases xa with
  | int i =>
    cases xb with
    | int j =>
      unfold oDiv at p
      dsimp only at p
      by_cases z : 0 < j ∧ j < 1073741824
      · rw [if_pos z] at p
        exact op_fdiv pins s σ H _ _ v u Q I rx ry ⟨i, j, rfl, rfl, z, p ι H _ Ext.refl r (.int _)⟩
      · rw [if_neg z] at p; exact p.elim
    | _ => exact p.elim
  | _ => exact p.elim
theorem op_powA : OpA C X (binaryOp .Pow) oPow := by
  intro pins s σ H x y v u Q I rx ry h
  obtain ⟨ι, h, a, b, W, r, xa, xb, p⟩ := h
  cases xa with
  | int i =>
    cases xb with
    | int j =>
      unfold oPow at p
      dsimp only at p
      by_cases z : 0 ≤ j ∧ j ≤ 1000 ∧ -1000 ≤ i ∧ i ≤ 1000
      · rw [if_pos z] at p
        exact op_pow pins s σ H _ _ v u Q I rx ry ⟨i, j, rfl, rfl, ⟨z.1, by omega, by omega⟩, p ι H _ Ext.refl r (.int _)⟩
      · rw [if_neg z] at p; exact p.elim
    | _ => exact p.elim
  | _ => exact p.elim
theorem op_addA (hK : X.K = C.K) : OpA C X (binaryOp .Add) oAdd := by
  intro pins s σ H x y v u Q I rx ry h
  obtain ⟨ι, h, a, b, W, r, xa, xb, p⟩ := h
  cases xa with
  | int i =>
    cases xb with
    | int j => exact op_add pins s σ H _ _ v u Q I rx ry ⟨i, j, rfl, rfl, p ι H _ Ext.refl r (.int _)⟩
    | _ => exact p.elim
  | str i =>
    cases xb with
    | str j =>
      unfold oAdd at p
      dsimp only at p
      by_cases z : i.length + j.length ≤ szl
      · rw [if_pos z] at p
        exact op_add_str pins s σ H _ _ v u Q I rx ry ⟨i, j, rfl, rfl, z, p ι H _ Ext.refl r (.str _)⟩
      · rw [if_neg z] at p; exact p.elim
    | _ => exact p.elim
  | tup t xs =>
    rename_i a1 ys vs
    cases xb with
    | tup t' xs' =>
      rename_i a2 ys' vs'
      unfold oAdd at p
      dsimp only at p
      by_cases z : ys.length + ys'.length ≤ szl
      · rw [if_pos z] at p
        refine op_catA pins s σ H _ _ v u Q I rx ry ⟨a1, a2, vs, vs', rfl, rfl, by rw [hK]; exact t, by rw [hK]; exact t', by rw [← xs.length, ← xs'.length]; exact z, fun e => ?_, fun e1 e2 => ?_, fun e1 e2 q hq => ?_⟩
        · have z1 : ys = [] := by
            have := xs.length
            rw [e] at this
            exact List.eq_nil_of_length_eq_zero this
          subst z1
          exact p ι H _ Ext.refl r (.tup t' xs')
        · have z1 : ys' = [] := by
            have := xs'.length
            rw [e2] at this
            exact List.eq_nil_of_length_eq_zero this
          subst z1
          rw [List.append_nil] at p
          exact p ι H _ Ext.refl r (.tup t xs)
        · exact laid_tup r (xs.append xs') p hq
      · rw [if_neg z] at p; exact p.elim
    | _ => exact p.elim
  | loc hl =>
    rename_i l
    cases xb with
    | loc hl' =>
      rename_i l'
      unfold oAdd at p
      dsimp only at p
      cases e1 : h[l]? with
      | none => rw [e1] at p; exact p.elim
      | some o1 =>
        cases o1 with
        | lst ys =>
          cases e2 : h[l']? with
          | none => rw [e1, e2] at p; exact p.elim
          | some o2 =>
            cases o2 with
            | lst ys' =>
              rw [e1, e2] at p
              dsimp only at p
              by_cases z : ys.length + ys'.length ≤ szl
              · rw [if_pos z] at p
                obtain ⟨vs, h1, x1⟩ := lst_at r e1
                obtain ⟨vs', h2, x2⟩ := lst_at r e2
                exact op_cat pins s σ H _ _ v u Q I rx ry ⟨_, _, vs, vs', rfl, rfl, h1, h2, by rw [← x1.length, ← x2.length]; exact z, fun q hq => grow_lst r (x1.append x2) p hq⟩
              · rw [if_neg z] at p; exact p.elim
            | _ => rw [e1, e2] at p; exact p.elim
        | _ => rw [e1] at p; exact p.elim
    | _ => exact p.elim
  | _ => exact p.elim

/-! ### comparisons -/
theorem cmpA {op : CmpOp} {f : Int → Int → Bool} (ho : OpR X (compareOp op) (rI0 fun i j => .bl (f i j))) : OpA C X (compareOp op) (oCmpI f) := by
  intro pins s σ H x y v u Q I rx ry h
  obtain ⟨ι, h, a, b, W, r, xa, xb, p⟩ := h
  cases xa with
  | int i =>
    cases xb with
    | int j => exact ho pins s σ H _ _ v u Q I rx ry ⟨i, j, rfl, rfl, p ι H _ Ext.refl r (.bl _)⟩
    | _ => exact p.elim
  | _ => exact p.elim
theorem op_ltA : OpA C X (compareOp .Lt) oLt := cmpA op_lt
theorem op_leA : OpA C X (compareOp .LtE) oLe := cmpA op_le
theorem op_gtA : OpA C X (compareOp .Gt) oGt := cmpA op_gt
theorem op_geA : OpA C X (compareOp .GtE) oGe := cmpA op_ge
theorem isnon_of {ι : Nat → Addr} {n : Nat} {H : Hp} {a : AV} {x : V} (xa : AvR C ι n H a x) : decide (x = V.non) = a.isNon := by
  cases xa <;> rfl
theorem op_isNA : OpA C X (compareOp .Is) oIsN := by
  intro pins s σ H x y v u Q I rx ry h
  obtain ⟨ι, h, a, b, W, r, xa, xb, p⟩ := h
  cases xb with
  | non => exact op_isN pins s σ H _ _ v u Q I rx ry ⟨rfl, by rw [isnon_of xa]; exact p ι H _ Ext.refl r (.bl _)⟩
  | _ => exact p.elim
theorem op_notNA : OpA C X (compareOp .IsNot) oNotN := by
  intro pins s σ H x y v u Q I rx ry h
  obtain ⟨ι, h, a, b, W, r, xa, xb, p⟩ := h
  cases xb with
  | non => exact op_notN pins s σ H _ _ v u Q I rx ry ⟨rfl, by rw [isnon_of xa]; exact p ι H _ Ext.refl r (.bl _)⟩
  | _ => exact p.elim
theorem datsW_dp {ι : Nat → Addr} {n : Nat} {H : Hp} {f : AV → Option PyData} (k : ∀ {a : AV} {x : V} {d : PyData}, AvR C ι n H a x → f a = some d → Dp C.K H x d) : ∀ {as : List AV} {xs : List V} {ds : List PyData}, AvRs C ι n H as xs → datsW f as = some ds → DpAll C.K H xs ds
  | _, _, d, .nil, e => by unfold datsW at e; cases e; exact .nil
  | _, _, d, .cons (x := x) (xs := xs) a b, e => by
    unfold datsW at e
    cases e1 : f x with
    | none => simp only [e1] at e; cases e
    | some d1 =>
      cases e2 : datsW f xs with
      | none => simp only [e1, e2] at e; cases e
      | some ds => simp only [e1, e2] at e; cases e; exact .cons (k a e1) (datsW_dp k b e2)
theorem dat_dp {ι : Nat → Addr} {h : PA.Heap} {H : Hp} (r : Rep C ι h H) : ∀ (n : Nat) {a : AV} {x : V} {d : PyData}, AvR C ι h.length H a x → datH h n a = some d → Dp C.K H x d
  | 0, _, _, d, .non, e => by unfold datH at e; cases e; exact .non
  | 0, _, _, d, .bl b, e => by unfold datH at e; cases e; exact .bl b
  | 0, _, _, d, .int b, e => by unfold datH at e; cases e; exact .int b
  | 0, _, _, d, .str b, e => by unfold datH at e; cases e; exact .str b
  | n + 1, _, _, d, .non, e => by unfold datH at e; cases e; exact .non
  | n + 1, _, _, d, .bl b, e => by unfold datH at e; cases e; exact .bl b
  | n + 1, _, _, d, .int b, e => by unfold datH at e; cases e; exact .int b
  | n + 1, _, _, d, .str b, e => by unfold datH at e; cases e; exact .str b
  | 0, _, _, d, .tup t q, e => by unfold datH at e; cases e
  | 0, _, _, d, .loc hl, e => by unfold datH at e; cases e
  | n + 1, _, _, d, .tup (xs := xs) t q, e => by
    unfold datH at e
    cases e1 : datsW (datH h n) xs with
    | none => rw [e1] at e; cases e
    | some ds => rw [e1] at e; cases e; exact .tup t (datsW_dp (fun x y => dat_dp r n x y) q e1)
  | n + 1, _, _, d, .loc (l := l) hl, e => by
    unfold datH at e
    cases e0 : h[l]? with
    | none => simp only [e0] at e; cases e
    | some o =>
      cases o with
      | lst xs =>
        simp only [e0] at e
        cases e1 : datsW (datH h n) xs with
        | none => rw [e1] at e; cases e
        | some ds =>
          rw [e1] at e
          cases e
          obtain ⟨vs, h1, x1⟩ := lst_at r e0
          exact .lst (SqL.of h1) (datsW_dp (fun x y => dat_dp r n x y) x1 e1)
      | dct xs => simp only [e0] at e; cases e
      | lck xs => simp only [e0] at e; cases e
      | ins c fs => simp only [e0] at e; cases e
  | n, _, _, d, .gl g, e => by cases n <;> (unfold datH at e; cases e)
  | n, _, _, d, .ty g, e => by cases n <;> (unfold datH at e; cases e)
theorem eqA_dp {ι : Nat → Addr} {h : PA.Heap} {H : Hp} {a b : AV} {x y : V} {k : Bool} (r : Rep C ι h H) (xa : AvR C ι h.length H a x) (xb : AvR C ι h.length H b y) (e : eqA h a b = some k) :
    ∃ d d', Dp C.K H x d ∧ Dp C.K H y d' ∧ SeqAt.shaped d = true ∧ SeqAt.shaped d' = true ∧ k = PyData.eqv d d' := by
  unfold eqA at e
  cases e1 : datH h 40 a with
  | none => simp only [e1] at e; cases e
  | some d =>
    cases e2 : datH h 40 b with
    | none => simp only [e1, e2] at e; cases e
    | some d' =>
      simp only [e1, e2] at e
      by_cases z : (SeqAt.shaped d && SeqAt.shaped d') = true
      · rw [if_pos z] at e
        cases e
        rw [Bool.and_eq_true] at z
        exact ⟨d, d', dat_dp r 40 xa e1, dat_dp r 40 xb e2, z.1, z.2, rfl⟩
      · rw [if_neg z] at e; cases e
theorem op_eqA (hK : X.K = C.K) (hu : X.A.units + 64 < cLine) : OpA C X (compareOp .Eq) oEq := by
  intro pins s σ H x y v u Q I rx ry h
  obtain ⟨ι, h, a, b, W, r, xa, xb, p⟩ := h
  unfold oEq at p
  cases e : eqA h a b with
  | none => rw [e] at p; exact p.elim
  | some k =>
    rw [e] at p
    obtain ⟨d, d', h1, h2, s1, s2, ek⟩ := eqA_dp r xa xb e
    exact op_eqD hu pins s σ H _ _ v u Q I rx ry ⟨d, d', by rw [hK]; exact h1, by rw [hK]; exact h2, s1, s2, by rw [← ek]; exact p ι H _ Ext.refl r (.bl _)⟩
theorem op_neA (hK : X.K = C.K) (hu : X.A.units + 64 < cLine) : OpA C X (compareOp .NotEq) oNe := by
  intro pins s σ H x y v u Q I rx ry h
  obtain ⟨ι, h, a, b, W, r, xa, xb, p⟩ := h
  unfold oNe at p
  cases e : eqA h a b with
  | none => rw [e] at p; exact p.elim
  | some k =>
    rw [e] at p
    obtain ⟨d, d', h1, h2, s1, s2, ek⟩ := eqA_dp r xa xb e
    exact op_neD hu pins s σ H _ _ v u Q I rx ry ⟨d, d', by rw [hK]; exact h1, by rw [hK]; exact h2, s1, s2, by rw [← ek]; exact p ι H _ Ext.refl r (.bl _)⟩

/-! ### subscripts, in -/
theorem ixN_eq (n : Nat) (i : Int) : PA.ixN n i = L2.ixN n i := rfl
theorem atI_av {ι : Nat → Addr} {n : Nat} {H : Hp} {xs : List AV} {vs : List V} (q : AvRs C ι n H xs vs) {i : Int} {a : AV} (e : PA.atI xs i = some a) : ∃ v, L2.atI vs i = some v ∧ AvR C ι n H a v := by
  unfold PA.atI at e
  unfold L2.atI
  rw [← q.length]
  cases z : PA.ixN xs.length i with
  | none => rw [z] at e; cases e
  | some j =>
    rw [z] at e
    obtain ⟨v, e1, e2⟩ := q.get (i := j) e
    refine ⟨v, ?_, e2⟩
    rw [← ixN_eq, z]
    exact e1
theorem ix_A (hK : X.K = C.K) : IxR X (rA C oIx) := by
  intro value slice pins s σ H x y v u Q I rx ry h hs
  obtain ⟨ι, h, a, b, W, r, xa, xb, p⟩ := h
  cases xb with
  | int i =>
    unfold oIx at p
    dsimp only at p
    cases e : seqOf h a with
    | none => rw [e] at p; exact p.elim
    | some xs =>
      rw [e] at p
      dsimp only at p
      cases e2 : PA.atI xs i with
      | none => rw [e2] at p; exact p.elim
      | some w =>
        rw [e2] at p
        obtain ⟨q, vs, rfl, sq, av⟩ := seq_of r xa e
        obtain ⟨z, h1, h2⟩ := atI_av av e2
        have fin := p ι H _ Ext.refl r h2
        rcases sq with sq | sq
        · exact ix_tup value slice pins s σ H _ _ v u Q I rx ry ⟨q, vs, i, z, rfl, rfl, by rw [hK]; exact sq, h1, fin⟩ hs
        · exact ix_list value slice pins s σ H _ _ v u Q I rx ry ⟨q, vs, i, z, rfl, rfl, by rw [hK]; exact sq, h1, fin⟩ hs
  | _ => exact p.elim
theorem re_ix {a b : Expr} {ma mb : EE} {pos : Pos} (hK : X.K = C.K) (ha : RE C X a ma) (hb : RE C X b mb) (hs : PlainIx b := by exact fun _ _ => rfl) : RE C X (.Subscript a b pos) (eBin oIx ma mb) := fun W tk =>
  PE_imp (pe_ix (ix_A hK) (ha W tk) (hb W tk) hs) fun σ H Q q => bin_imp q
theorem flat_of {ι : Nat → Addr} {n : Nat} {H : Hp} {a : AV} {x : V} (xa : AvR C ι n H a x) (f : flat a = true) : flatV x = true := by
  cases xa <;> first | rfl | cases f
theorem eqF_of {ι : Nat → Addr} {n : Nat} {H : Hp} {a b : AV} {x y : V} (xa : AvR C ι n H a x) (xb : AvR C ι n H b y) (f : flat a = true) (g : flat b = true) : eqF a b = eqV x y := by
  cases xa <;> first | (cases f; done) | (cases xb <;> first | rfl | (cases g; done))
theorem inF_of {ι : Nat → Addr} {n : Nat} {H : Hp} {a : AV} {x : V} {xs : List AV} {vs : List V} (xa : AvR C ι n H a x) (q : AvRs C ι n H xs vs) (f : flat a = true) (g : xs.all flat = true) : vs.all flatV = true ∧ inF a xs = inV x vs := by
  induction xs generalizing vs with
  | nil => cases q; exact ⟨rfl, rfl⟩
  | cons y ys ih =>
    cases q with
    | cons p q =>
      rw [List.all_cons, Bool.and_eq_true] at g
      obtain ⟨h1, h2⟩ := ih q g.2
      refine ⟨by rw [List.all_cons, Bool.and_eq_true]; exact ⟨flat_of p g.1, h1⟩, ?_⟩
      show (eqF y a || inF a ys) = (eqV _ x || inV x _)
      rw [h2, eqF_of p xa g.1 f]
theorem op_inA (hK : X.K = C.K) : OpA C X (compareOp .In) oIn := by
  intro pins s σ H x y v u Q I rx ry h
  obtain ⟨ι, h, a, b, W, r, xa, xb, p⟩ := h
  unfold oIn at p
  cases e : seqOf h b with
  | none => rw [e] at p; exact p.elim
  | some xs =>
    rw [e] at p
    dsimp only at p
    by_cases z : (flat a && xs.all flat) = true
    · rw [if_pos z] at p
      rw [Bool.and_eq_true] at z
      obtain ⟨q, vs, rfl, sq, av⟩ := seq_of r xb e
      obtain ⟨h1, h2⟩ := inF_of xa av z.1 z.2
      refine op_in_seq pins s σ H _ _ v u Q I rx ry ⟨q, vs, rfl, ?_, flat_of xa z.1, h1, ?_⟩
      · rw [hK]; exact sq.elim Or.inr Or.inl
      · rw [if_neg Bool.false_ne_true, ← h2]; exact p ι H _ Ext.refl r (.bl _)
    · rw [if_neg z] at p; exact p.elim
theorem op_notInA (hK : X.K = C.K) : OpA C X (compareOp .NotIn) oNotIn := by
  intro pins s σ H x y v u Q I rx ry h
  obtain ⟨ι, h, a, b, W, r, xa, xb, p⟩ := h
  unfold oNotIn at p
  cases e : seqOf h b with
  | none => rw [e] at p; exact p.elim
  | some xs =>
    rw [e] at p
    dsimp only at p
    by_cases z : (flat a && xs.all flat) = true
    · rw [if_pos z] at p
      rw [Bool.and_eq_true] at z
      obtain ⟨q, vs, rfl, sq, av⟩ := seq_of r xb e
      obtain ⟨h1, h2⟩ := inF_of xa av z.1 z.2
      refine op_notIn_seq pins s σ H _ _ v u Q I rx ry ⟨q, vs, rfl, ?_, flat_of xa z.1, h1, ?_⟩
      · rw [hK]; exact sq.elim Or.inr Or.inl
      · rw [if_pos rfl, ← h2]; exact p ι H _ Ext.refl r (.bl _)
    · rw [if_neg z] at p; exact p.elim
end
end PL
set_option maxRecDepth 100000
set_option maxHeartbeats 2000000
/-! Lift4: fields, statements, calls of defs, methods, properties, new instances. -/
namespace PL
open PySem PySem.Spec PyProof.Rows L2 PA

/-- a statement's ends -/
def SPost (C : Cz) (ι : Nat → Addr) (h : PA.Heap) (H : Hp) (D : Ends) (W : WX) : SR → Prop
  | .nx ρ' h' => ∀ ι' H' σ', Ext ι h.length H ι' h'.length H' → Rep C ι' h' H' → EnR C ι' h'.length H' ρ' σ' → D.nx σ' H'
  | .brk ρ' h' => ∀ ι' H' σ', Ext ι h.length H ι' h'.length H' → Rep C ι' h' H' → EnR C ι' h'.length H' ρ' σ' → D.bk σ' H'
  | .ct ρ' h' => ∀ ι' H' σ', Ext ι h.length H ι' h'.length H' → Rep C ι' h' H' → EnR C ι' h'.length H' ρ' σ' → D.ct σ' H'
  | .ret a h' => ∀ ι' H' v, Ext ι h.length H ι' h'.length H' → Rep C ι' h' H' → AvR C ι' h'.length H' a v → D.rt v H'
  | .exc e ρ' h' => ∀ ι' H' σ' cls d, Ext ι h.length H ι' h'.length H' → Rep C ι' h' H' → EnR C ι' h'.length H' ρ' σ' → ExR C ι' h'.length H' e cls d → W cls d σ' H'
  | .bad => False
def tS (C : Cz) (m : SS) (W : WX) : TS := fun D σ H => ∃ ι h ρ, Rep C ι h H ∧ EnR C ι h.length H ρ σ ∧ SPost C ι h H D W (m ρ h)
def RS (C : Cz) (X : Cx) (st : Stmt) (m : SS) : Prop := ∀ W, Takes X W → PS X st (tS C m W)
def RSs (C : Cz) (X : Cx) (st : List Stmt) (m : SS) : Prop := ∀ W, Takes X W → PSs X st (tS C m W)
section
variable {C : Cz} {ι ι' : Nat → Addr} {h h' : PA.Heap} {H H' : Hp} {D D' : Ends} {W : WX}
theorem SPost.shift {r : SR} (p : SPost C ι h H D W r) (e : Ext ι h.length H ι' h'.length H') : SPost C ι' h' H' D W r := by
  cases r with
  | nx ρ h1 => exact fun a b c e1 => p a b c (e.trans e1)
  | brk ρ h1 => exact fun a b c e1 => p a b c (e.trans e1)
  | ct ρ h1 => exact fun a b c e1 => p a b c (e.trans e1)
  | ret v h1 => exact fun a b c e1 => p a b c (e.trans e1)
  | exc e' ρ h1 => exact fun a b c d f e1 => p a b c d f (e.trans e1)
  | bad => exact p
/-- an expression ahead of a statement's rest -/
theorem SPost.bnd {α β : Type} {R : RR α β} {m : PA.Env → PA.Heap → Res α} {k : α → SS} {ρ : PA.Env} {σ : L2.St} (r : Rep C ι h H) (en : EnR C ι h.length H ρ σ) (p : SPost C ι h H D W (sBnd m k ρ h)) :
    GPost C R ι h H (fun b H1 => ∃ ι1 h1 a, Rep C ι1 h1 H1 ∧ Ext ι h.length H ι1 h1.length H1 ∧ R ι1 h1.length H1 a b ∧ SPost C ι1 h1 H1 D W (k a ρ h1)) (fun c d H' => W c d σ H') (m ρ h) := by
  unfold sBnd at p
  cases e : m ρ h with
  | ok a h1 =>
    rw [e] at p
    exact fun ι1 H1 b e1 rr x => ⟨ι1, h1, a, rr, e1, x, SPost.shift (h := h) (h' := h1) p e1⟩
  | exc e' h1 => rw [e] at p; exact fun ι1 H1 c d e1 rr x => p ι1 H1 σ c d e1 rr (en.ext r e1) x
  | bad => rw [e] at p; exact p
end
section
variable {C : Cz} {X : Cx}
theorem rs_nil : RSs C X [] sNil := fun W tk => PSs_imp pss_nil fun D σ H ⟨ι, h, ρ, r, en, p⟩ => p ι H σ Ext.refl r en
theorem seq_imp {m u : SS} {W : WX} {D : Ends} {σ : L2.St} {H : Hp} (q : tS C (sSeq m u) W D σ H) : tSeq (tS C m W) (tS C u W) D σ H := by
  obtain ⟨ι, h, ρ, r, en, p⟩ := q
  refine ⟨ι, h, ρ, r, en, ?_⟩
  unfold sSeq at p
  cases e : m ρ h with
  | nx ρ' h1 =>
    rw [e] at p
    exact fun ι1 H1 σ1 e1 r1 en1 => ⟨ι1, h1, ρ', r1, en1, SPost.shift (h := h) (h' := h1) p e1⟩
  | brk ρ' h1 => rw [e] at p; exact p
  | ct ρ' h1 => rw [e] at p; exact p
  | ret v h1 => rw [e] at p; exact p
  | exc e' ρ' h1 => rw [e] at p; exact p
  | bad => rw [e] at p; exact p
theorem rs_cons {st : Stmt} {rest : List Stmt} {m u : SS} (h1 : RS C X st m) (h2 : RSs C X rest u) : RSs C X (st :: rest) (sSeq m u) := fun W tk =>
  PSs_imp (pss_cons (h1 W tk) (h2 W tk)) fun D σ H q => seq_imp q
theorem rs_one {st : Stmt} {m : SS} (h1 : RS C X st m) : RSs C X [st] m := fun W tk => pss_one (h1 W tk)
theorem rs_pass {pos : Pos} : RS C X (.Pass pos) sNil := fun W tk => PS_imp ps_pass fun D σ H ⟨ι, h, ρ, r, en, p⟩ => p ι H σ Ext.refl r en
theorem rs_doc {x j pos pos'} : RS C X (.Expr (.Constant (.str x) j pos) pos') sNil := fun W tk => PS_imp ps_doc fun D σ H ⟨ι, h, ρ, r, en, p⟩ => p ι H σ Ext.refl r en
theorem rs_expr {e : Expr} {m : EE} {pos : Pos} (he : RE C X e m) (hs : swapsWith e none pos.line X.env = pure false := by rfl) : RS C X (.Expr e pos) (sExpr m) := fun W tk =>
  PS_imp (ps_expr (he W tk) hs) fun D σ H ⟨ι, h, ρ, r, en, p⟩ => ⟨ι, h, ρ, r, en, (SPost.bnd (R := AvR C) r en p).mono fun x H1 ⟨ι1, h1, a, r1, e1, x1, p1⟩ => p1 ι1 H1 σ Ext.refl r1 (en.ext r e1)⟩
theorem rs_ret {e : Expr} {m : EE} {pos : Pos} (he : RE C X e m) : RS C X (.Return (some e) pos) (sRet m) := fun W tk =>
  PS_imp (ps_ret (he W tk)) fun D σ H ⟨ι, h, ρ, r, en, p⟩ => ⟨ι, h, ρ, r, en, (SPost.bnd (R := AvR C) r en p).mono fun x H1 ⟨ι1, h1, a, r1, e1, x1, p1⟩ => p1 ι1 H1 x Ext.refl r1 x1⟩
theorem rs_retN {pos : Pos} : RS C X (.Return none pos) sRetN := fun W tk => PS_imp ps_retN fun D σ H ⟨ι, h, ρ, r, en, p⟩ => p ι H .non Ext.refl r .non
theorem rs_if {c : Expr} {a b : List Stmt} {t : BB} {m u : SS} {pos : Pos} (hc : RT C X c t) (ha : RSs C X a m) (hb : RSs C X b u) : RS C X (.If c a b pos) (sIf t m u) := fun W tk =>
  PS_imp (ps_if (hc W tk) (ha W tk) (hb W tk)) fun D σ H ⟨ι, h, ρ, r, en, p⟩ => ⟨ι, h, ρ, r, en, (SPost.bnd (R := rB) r en p).mono fun x H1 ⟨ι1, h1, a, r1, e1, x1, p1⟩ => by
    cases x1
    by_cases z : x = true
    · rw [if_pos z] at p1 ⊢; exact ⟨ι1, h1, ρ, r1, en.ext r e1, p1⟩
    · rw [if_neg z] at p1 ⊢; exact ⟨ι1, h1, ρ, r1, en.ext r e1, p1⟩⟩
/-- a target: the slots that it sets -/
def TgOk (C : Cz) (g : TG) (m : Tg) (is : List Nat) : Prop := ∀ (ι : Nat → Addr) (h : PA.Heap) (H : Hp) (ρ ρ' : PA.Env) (σ : L2.St) (a : AV) (v : V) (Q : L2.St → Hp → Prop), Rep C ι h H → EnR C ι h.length H ρ σ → AvR C ι h.length H a v → m a ρ = some ρ' →
  (∀ σ', EnR C ι h.length H ρ' σ' → (∀ vs, (∀ i ∈ is, i ∈ vs) → wipe σ' vs = wipe σ vs) → Q σ' H) → g v σ H Q
structure RG (C : Cz) (X : Cx) (tg : Expr) (m : Tg) (g : TG) (is : List Nat) : Prop where
  pg : PG X tg g
  ok : TgOk C g m is
theorem wipe_set {σ : L2.St} {i : Nat} {x : Option V} : ∀ {vs : List Nat}, i ∈ vs → wipe (σ.set i x) vs = wipe σ vs
  | [], h => by cases h
  | v :: vs, h => by
    unfold wipe
    by_cases z : i = v
    · subst z
      by_cases q : i ∈ vs
      · rw [wipe_set q]
      · have out : ∀ {ws : List Nat} {σ : L2.St}, i ∉ ws → wipe (σ.set i x) ws = (wipe σ ws).set i x := by
          intro ws
          induction ws with
          | nil => intro σ _; rfl
          | cons w ws ih =>
            intro σ hw
            unfold wipe
            rw [ih (fun z => hw (List.mem_cons_of_mem _ z)), List.set_comm]
            exact fun z => hw (by rw [z]; exact List.mem_cons_self)
        rw [out q, List.set_set]
    · rcases List.mem_cons.mp h with q | q
      · exact absurd q z
      · rw [wipe_set q]
theorem rg_name {i : Nat} {x : Str} {pos : Pos} (hN : X.N.Nodup) (hi : X.N[i]? = some x := by rfl) (hx : Loc X.env.scope x := by first | exact Or.inl rfl | exact Or.inr rfl) (hf : X.fn x = true ∨ X.env.scope.names.lookup x = some .local := by first | exact .inl rfl | exact .inr rfl | assumption) : RG C X (.Name x pos) (PA.gName i) (L2.gName i) [i] :=
  ⟨pg_name hN hi hx hf, fun ι h H ρ ρ' σ a v Q r en x e k => by
    cases e
    exact k _ (en.set x i) fun vs hv => wipe_set (hv i List.mem_cons_self)⟩
/-- the names of a tuple target -/
def TgsOk (C : Cz) (g : TGs) (is : List Nat) : Prop := ∀ (ι : Nat → Addr) (h : PA.Heap) (H : Hp) (ρ ρ' : PA.Env) (σ : L2.St) (as : List AV) (vs : List V) (Q : L2.St → Hp → Prop), Rep C ι h H → EnR C ι h.length H ρ σ → AvRs C ι h.length H as vs → PA.gNames is as ρ = some ρ' →
  (∀ σ', EnR C ι h.length H ρ' σ' → (∀ vs, (∀ i ∈ is, i ∈ vs) → wipe σ' vs = wipe σ vs) → Q σ' H) → g vs σ H Q
structure RGs (C : Cz) (X : Cx) (ts : List Expr) (is : List Nat) (g : TGs) : Prop where
  pg : PGs X ts g
  ok : TgsOk C g is
theorem rgs_nil : RGs C X [] [] gNil := ⟨pgs_nil, fun ι h H ρ ρ' σ as vs Q r en x e k => by
  cases x with
  | nil => cases e; exact ⟨rfl, k σ en fun _ _ => rfl⟩
  | cons a b => cases e⟩
theorem gNames_len : ∀ {is : List Nat} {as : List AV} {ρ ρ' : PA.Env}, PA.gNames is as ρ = some ρ' → as.length = is.length
  | [], [], _, _, _ => rfl
  | [], _ :: _, _, _, e => by cases e
  | _ :: _, [], _, _, e => by cases e
  | i :: is, a :: as, ρ, ρ', e => by
    have := gNames_len (is := is) (as := as) (ρ := ρ.set i (some a)) (ρ' := ρ') e
    simp [this]
theorem rgs_cons {e : Expr} {es : List Expr} {i : Nat} {is : List Nat} {g : TG} {gs : TGs} (h1 : RG C X e (PA.gName i) g [i]) (h2 : RGs C X es is gs)
    (hs : (assignEach (e :: es) X.env).map (·.2) = assign e X.env :: (assignEach es X.env).map (·.2) := by rfl) : RGs C X (e :: es) (i :: is) (gCons g gs) := by
  refine ⟨pgs_cons h1.pg h2.pg hs, fun ι h H ρ ρ' σ as vs Q r en x e k => ?_⟩
  cases x with
  | nil => cases e
  | cons a b =>
    refine ⟨_, _, rfl, h1.ok ι h H ρ _ σ _ _ _ r en a rfl fun σ' en' w1 => ?_⟩
    exact h2.ok ι h H _ ρ' σ' _ _ Q r en' b e fun σ2 en2 w2 => k σ2 en2 fun ws hw => (w2 ws fun i hi => hw i (List.mem_cons_of_mem _ hi)).trans (w1 ws fun i' hi => hw i' (by rw [List.mem_singleton.mp hi]; exact List.mem_cons_self))
theorem rg_tup {es : List Expr} {k : Nat} {pos : Pos} {is : List Nat} {gs : TGs} (hK : X.K = C.K) (hc : X.calm = true) (h : RGs C X es is gs)
    (hn : (assignEach es X.env).length = is.length := by rfl) (hst : (assignEach es X.env).findIdx? (·.1) = none := by rfl) : RG C X (.Tuple es k pos) (PA.gTup is) (L2.gTup C.K is.length gs) is := by
  refine ⟨by rw [← hK]; exact pg_tup hc h.pg hn hst, fun ι h' H ρ ρ' σ a v Q r en x e k => ?_⟩
  cases x with
  | tup t q =>
    exact ⟨_, _, rfl, t, by rw [← q.length]; exact gNames_len e, h.ok ι h' H ρ ρ' σ _ _ Q r en q e k⟩
  | _ => cases e
theorem rs_asg {tg e : Expr} {m : EE} {g : Tg} {g' : TG} {is : List Nat} {pos : Pos} (he : RE C X e m) (hg : RG C X tg g g' is) (hs : swapsWithSole [tg] e pos.line X.env = pure false := by rfl) (hw : swappedStores [tg] e X.env = pure none := by rfl) (h1 : (assignEach [tg] X.env).map (·.2) = [assign tg X.env] := by rfl) : RS C X (.Assign [tg] e pos) (sAsg g m) := fun W tk => by
  refine PS_imp (ps_asg (he W tk) hg.pg hs hw h1) fun D σ H ⟨ι, h, ρ, r, en, p⟩ => ⟨ι, h, ρ, r, en, (SPost.bnd (R := AvR C) r en p).mono fun x H1 ⟨ι1, h1, a, r1, e1, x1, p1⟩ => ?_⟩
  cases z : g a ρ with
  | none => rw [z] at p1; exact p1.elim
  | some ρ' => rw [z] at p1; exact hg.ok ι1 h1 H1 ρ ρ' σ a x _ r1 (en.ext r e1) x1 z fun σ' en' _ => p1 ι1 H1 σ' Ext.refl r1 en'
theorem rs_set (i : Nat) {x : Str} {e : Expr} {m : EE} {pos pos' : Pos} (hN : X.N.Nodup) (he : RE C X e m) (hi : X.N[i]? = some x := by rfl) (hx : Loc X.env.scope x := by first | exact Or.inl rfl | exact Or.inr rfl) (hs : swapsWith e (some (.Name x pos')) pos.line X.env = pure false := by rfl)
    (hf : X.fn x = true ∨ X.env.scope.names.lookup x = some .local := by first | exact .inl rfl | exact .inr rfl | assumption) : RS C X (.Assign [.Name x pos'] e pos) (sSet i m) := fun W tk =>
  PS_imp (ps_set hN hi hx (he W tk) hs hf) fun D σ H ⟨ι, h, ρ, r, en, p⟩ => ⟨ι, h, ρ, r, en, (SPost.bnd (R := AvR C) r en p).mono fun x H1 ⟨ι1, h1, a, r1, e1, x1, p1⟩ =>
    p1 ι1 H1 _ Ext.refl r1 ((en.ext r e1).set x1 i)⟩

/-! ### fields of own classes without slots -/
structure FldA (C : Cz) (c : String) (f : Str) : Prop where
  cl : Cls C.K (C.ad c)
  no : NoAttr C.K (C.ad c) f
  us : C.sl c = none
theorem re_fld {c : String} {f : Str} {e : Expr} {m : EE} {pos : Pos} (hK : X.K = C.K) (F : FldA C c f) (he : RE C X e m) (hb : attributeBase e f X.env (eval e X.env) = eval e X.env := by rfl) : RE C X (.Attribute e f pos) (eAttr c f m) := fun W tk =>
  PE_imp (pe_fld (he W tk) hb) fun σ H Q ⟨ι, h, ρ, r, en, p⟩ => ⟨ι, h, ρ, r, en, (GPost.bnd (R := AvR C) p).mono fun x H1 ⟨ι1, h1, a, r1, e1, x1, p1⟩ => by
    cases x1 with
    | @loc l hl =>
      dsimp only at p1
      cases z : h1[l]? with
      | none => rw [z] at p1; exact p1.elim
      | some o =>
        rw [z] at p1
        cases o with
        | ins c' fs =>
          dsimp only at p1
          by_cases zc : c' = c
          · subst zc
            rw [if_pos rfl] at p1
            have ob := r1.at_ l _ z
            rcases ob with ⟨_, dx, gs, eh, fr⟩ | ⟨names, dx, vs, e0, _⟩
            · rcases fr.lookup f with ⟨y, v, l1, l2, xv⟩ | ⟨l1, l2⟩
              · rw [l1] at p1
                exact ⟨_, _, dx, gs, v, rfl, eh, by rw [hK]; exact F.cl, by rw [hK]; exact F.no, l2, p1 ι1 H1 v Ext.refl r1 xv⟩
              · rw [l1] at p1; exact p1.elim
            · rw [F.us] at e0; cases e0
          · rw [if_neg zc] at p1; exact p1.elim
        | _ => exact p1.elim
    | _ => exact p1.elim⟩
theorem rs_fld {c : String} {f : Str} {o e : Expr} {mo me : EE} {pos pos' : Pos} (hK : X.K = C.K) (F : FldA C c f) (ho : RE C X o mo) (he : RE C X e me) (hs : swapsWith e (some (.Attribute o f pos')) pos.line X.env = pure false := by rfl) : RS C X (.Assign [.Attribute o f pos'] e pos) (sAttr c mo f me) := fun W tk =>
  PS_imp (ps_fld (ho W tk) (he W tk) hs) fun D σ H ⟨ι, h, ρ, r, en, p⟩ => ⟨ι, h, ρ, r, en, (SPost.bnd (R := AvR C) r en p).mono fun y H1 ⟨ι1, h1, b, r1, e1, x1, p1⟩ =>
    ⟨ι1, h1, ρ, r1, en.ext r e1, (SPost.bnd (R := AvR C) r1 (en.ext r e1) p1).mono fun x H2 ⟨ι2, h2, a, r2, e2, x2, p2⟩ => by
      cases x2 with
      | @loc l hl =>
        dsimp only at p2
        cases z : h2[l]? with
        | none => rw [z] at p2; exact p2.elim
        | some o =>
          rw [z] at p2
          cases o with
          | ins c' fs =>
            dsimp only at p2
            by_cases zc : c' = c ∧ fs.length < 100
            · rw [if_pos zc] at p2
              obtain ⟨zc, zl⟩ := zc
              subst zc
              have ob := r2.at_ l _ z
              rcases ob with ⟨us, dx, gs, eh, fr⟩ | ⟨names, dx, vs, e0, _⟩
              · refine ⟨_, _, dx, gs, rfl, eh, by rw [hK]; exact F.cl, by rw [hK]; exact F.no, by rw [← fr.length]; omega, ?_⟩
                have nf : ∀ o u, H2 (ι2 l) ≠ some (.frz o u) := fun o u q => by rw [eh] at q; cases q
                have ex := Ext.chg (u := .ins (C.ad c') dx (L2.putF f y gs)) r2 hl nf
                refine p2 ι2 _ σ (by rw [List.length_set]; exact ex) (r2.chg hl nf (.inl ⟨us, dx, _, upd_same, (r2.fsr ex fr).put (r2.av ex (r1.av e2 x1)) f⟩)) ?_
                rw [List.length_set]
                exact ((en.ext r e1).ext r1 e2).ext r2 ex
              · rw [F.us] at e0; cases e0
            · rw [if_neg zc] at p2; exact p2.elim
          | _ => exact p2.elim
      | _ => exact p2.elim⟩⟩
end
end PL
set_option maxRecDepth 100000
set_option maxHeartbeats 2000000
/-! Lift5: defs and their calls. -/
namespace PL
open PySem PySem.Spec PyProof.Rows L2 PA

/-- what a def promises: its function over plain data -/
def spA (C : Cz) (F : FF) : Sp := fun vs H Q E => ∃ ι h as, Rep C ι h H ∧ AvRs C ι h.length H as vs ∧ GPost C (AvR C) ι h H Q E (F as h)
abbrev FnA (C : Cz) (k : Nat) (f : Addr) (fd : FuncData) (ps : List Str) (F : FF) : Prop := FnOk C.P C.w C.K C.mg C.base (L2.CX C.P C.w) k f fd ps (spA C F)
/-- a context of ours -/
structure Gd (C : Cz) (X : Cx) (k : Nat) : Prop where
  hP : X.prog = C.P
  hw : X.w = C.w
  hK : X.K = C.K
  hm : X.mg = C.mg
  hb : X.base = C.base
  calm : X.calm = true
  nd : X.N.Nodup
  room : Room k X.A
/-- a def of the module, by its name -/
structure CalA (C : Cz) (k : Nat) (x : Str) (F : FF) : Prop where
  ex : ∃ f fd ps, FnA C k f fd ps F ∧ C.mg x = some (.ref f) ∧ PySem.W.keepIn C.K (.ref f) = true ∧ Binds C.K fd ps []
/-- a method of a class without slots -/
structure MetA (C : Cz) (k : Nat) (c : String) (m : Str) (F : FF) : Prop where
  ex : ∃ f fd ps, FnA C k f fd ps F ∧ Cls C.K (C.ad c) ∧ Meth C.K (C.ad c) m f ∧ Binds C.K fd ps []
  us : C.sl c = none
structure PrpA (C : Cz) (k : Nat) (c : String) (m : Str) (F : FF) : Prop where
  ex : ∃ p f fd ps, FnA C k f fd ps F ∧ Cls C.K (C.ad c) ∧ PropOf C.K (C.ad c) m p f ∧ Binds C.K fd ps []
  us : C.sl c = none
/-- a class without slots, called -/
structure MakA (C : Cz) (k : Nat) (c : String) (x : Str) (F : FF) : Prop where
  ex : ∃ f fd ps, FnA C k f fd ps F ∧ Mk C.K (C.ad c) f ∧ C.mg x = some (.ref (C.ad c)) ∧ Binds C.K fd ps []

theorem AvRs.mapSome {C : Cz} {ι : Nat → Addr} {n m : Nat} {H : Hp} {as : List AV} {vs : List V} (r : AvRs C ι n H as vs) : EnR C ι n H (as.map some ++ List.replicate m none) (vs.map some ++ List.replicate m none) := by
  refine ⟨by simp [r.length], fun i a e => ?_⟩
  by_cases z : i < as.length
  · rw [List.getElem?_append_left (by simpa using z), List.getElem?_map] at e
    cases e1 : as[i]? with
    | none => rw [e1] at e; cases e
    | some b =>
      rw [e1] at e
      cases e
      obtain ⟨v, h1, h2⟩ := r.get e1
      refine ⟨v, ?_, h2⟩
      rw [List.getElem?_append_left (by rw [List.length_map, ← r.length]; exact z), List.getElem?_map, h1]
      rfl
  · rw [List.getElem?_append_right (by simpa using Nat.le_of_not_lt z), List.getElem?_replicate] at e
    split at e
    · cases e
    · cases e

section
variable {C : Cz}
theorem fn_okA {x qual : Str} {st : Stmt} {f : Addr} {fd : FuncData} {N ps : List Str} {k : Nat} {body : SS} (F : L2.Fun C.K x qual st f fd) (S : FnScope N ps (defScope st))
    (hb : ∀ (cdv : Value) (A : Around) (outer : List PySem.Env) (s : Shared) (H : Hp) (E : XK), Gd C (cxOf (L2.CX C.P C.w) C.P C.w C.K C.mg C.base N qual (defScope st) f cdv A outer s H E) k →
      RSs C (cxOf (L2.CX C.P C.w) C.P C.w C.K C.mg C.base N qual (defScope st) f cdv A outer s H E) (defBody st) body) : FnA C (k + 1) f fd ps (runF ps.length (N.length - ps.length) body) := by
  refine F.okX S (fun vs H Q E h => ?_) (fun cdv A outer s H vs Q E hr h => ?_)
  · obtain ⟨ι, h, as, r, x, p⟩ := h
    unfold runF at p
    by_cases z : as.length = ps.length
    · rw [← x.length]; exact z
    · rw [if_neg z] at p; exact p.elim
  · obtain ⟨ι, h, as, r, x, p⟩ := h
    refine ⟨_, hb cdv A outer s H E ⟨rfl, rfl, rfl, rfl, rfl, rfl, S.nd, hr⟩ (fun cls d _ H => E cls d H) (takes_of rfl rfl rfl rfl), ?_⟩
    unfold runF at p
    by_cases z : as.length = ps.length
    · rw [if_pos z] at p
      refine ⟨ι, h, as.map some ++ List.replicate (N.length - ps.length) none, r, ?_, ?_⟩
      · have q := x.mapSome (m := N.length - ps.length)
        unfold L2.start
        rw [← x.length, z]
        exact q
      · cases e : body (as.map some ++ List.replicate (N.length - ps.length) none) h with
        | nx ρ' h' => rw [e] at p; exact fun ι1 H1 σ1 e1 r1 en1 => p ι1 H1 .non e1 r1 .non
        | ret v h' => rw [e] at p; exact p
        | exc e' ρ' h' => rw [e] at p; exact fun ι1 H1 σ1 cls d e1 r1 en1 x1 => p ι1 H1 cls d e1 r1 x1
        | brk ρ' h' => rw [e] at p; exact p.elim
        | ct ρ' h' => rw [e] at p; exact p.elim
        | bad => rw [e] at p; exact p.elim
    · rw [if_neg z] at p; exact p.elim
end

section
variable {C : Cz} {X : Cx} {j k : Nat}
theorem Gd.mono {i : Nat} (g : Gd C X j) (h : i ≤ j) : Gd C X i := ⟨g.hP, g.hw, g.hK, g.hm, g.hb, g.calm, g.nd, g.room.mono h⟩
theorem call_imp {F : FF} {l : LL} {W : WX} {σ : L2.St} {H : Hp} {Q : VK} (q : tE C (eCall F l) W σ H Q) : tCallS (spA C F) (WE W) (tL C l W) σ H Q := by
  obtain ⟨ι, h, ρ, r, en, p⟩ := q
  exact ⟨ι, h, ρ, r, en, (GPost.bnd (R := AvRs C) p).mono fun xs H1 ⟨ι1, h1, as, r1, e1, x1, p1⟩ => ⟨ι1, h1, as, r1, x1, p1⟩⟩
theorem re_call {x : Str} {F : FF} {e : Expr} {es : List Expr} {l : LL} {p pos : Pos} (g : Gd C X j) (c : CalA C k x F) (hl : RL C X (e :: es) l) (hk : k ≤ j := by decide) (hg : Gl X x := by rfl) (hdb : (x == ("__debug__" : Str)) = false := by decide)
    (he : starEach (e :: es) X.env = (false, eval e X.env) :: starEach es X.env := by rfl) (hpl : (backTo pos (starEach es X.env)).any (·.1) = false := by rfl) :
    RE C X (.Call (.Name x p) (e :: es) [] pos) (eCall F l) := fun W tk => by
  obtain ⟨f, fd, ps, fn, hm, hkp, hb⟩ := c.ex
  unfold FnA at fn
  rw [← g.hP, ← g.hw, ← g.hK, ← g.hm, ← g.hb] at fn
  rw [← g.hm] at hm
  rw [← g.hK] at hkp hb
  exact PE_imp (pe_callS fn (g.room.mono hk) hg hm hkp hb (fun σ => passAt tk σ) (hl W tk) hdb he hpl) fun σ H Q q => call_imp q
theorem re_call0 {x : Str} {F : FF} {p pos : Pos} (g : Gd C X j) (c : CalA C k x F) (hk : k ≤ j := by decide) (hg : Gl X x := by rfl) (hdb : (x == ("__debug__" : Str)) = false := by decide) :
    RE C X (.Call (.Name x p) [] [] pos) (eCall F lNil) := fun W tk => by
  obtain ⟨f, fd, ps, fn, hm, hkp, hb⟩ := c.ex
  unfold FnA at fn
  rw [← g.hP, ← g.hw, ← g.hK, ← g.hm, ← g.hb] at fn
  rw [← g.hm] at hm
  rw [← g.hK] at hkp hb
  refine ⟨fun pins s σ H Q I q => ?_⟩
  obtain ⟨ι, h, ρ, r, en, p1⟩ := q
  refine wpAny_Call_Name_kw (ld_glob I hg hm ?_ hdb)
  exact PySem.W.callWith_K0 I.kIn hkp (run_fnS (us := []) (vs := []) (E := WE W) fn (g.room.mono hk) hb (passAt tk σ) I .nil ⟨ι, h, [], r, .nil, p1⟩)
theorem isIns_of {c : String} {h : PA.Heap} {ι : Nat → Addr} {H : Hp} {a : AV} {x : V} (us : C.sl c = none) (r : Rep C ι h H) (xa : AvR C ι h.length H a x) (z : isIns c h a = true) : ∃ q dx fs gs l, x = .ref q ∧ a = .loc l ∧ h[l]? = some (.ins c fs) ∧ H q = some (.ins (C.ad c) dx gs) ∧ FsR C ι h.length H fs gs := by
  cases xa with
  | @loc l hl =>
    unfold isIns at z
    dsimp only at z
    cases e : h[l]? with
    | none => rw [e] at z; cases z
    | some o =>
      rw [e] at z
      cases o with
      | ins c' fs =>
        have zc : c' = c := of_decide_eq_true z
        subst zc
        rcases r.at_ l _ e with ⟨_, dx, gs, eh, fr⟩ | ⟨names, dx, vs, e0, _⟩
        · exact ⟨_, dx, fs, gs, l, rfl, rfl, e, eh, fr⟩
        · rw [us] at e0; cases e0
      | _ => cases z
  | _ => cases z
theorem re_meth {c : String} {m : Str} {F : FF} {o e : Expr} {es : List Expr} {mo : EE} {l : LL} {apos pos : Pos} {pl : Sem Bool} (g : Gd C X j) (M : MetA C k c m F) (ho : RE C X o mo) (hl : RL C X (e :: es) l) (hk : k ≤ j := by decide)
    (hst : starEach (e :: es) X.env = (false, eval e X.env) :: starEach es X.env := by rfl) (hpl : (backTo pos (starEach es X.env)).any (·.1) = false := by rfl)
    (ht : eval (.Call (.Attribute o m apos) (e :: es) [] pos) X.env = (do
      let ov ← eval o X.env
      standAt apos.atName
      let (f, first) ← holding [ov] (getMethod ov m pl)
      callWith pos f first (backTo pos (starEach (e :: es) X.env)) (backToKw pos (keywordEach [] X.env))) := by rfl) :
    RE C X (.Call (.Attribute o m apos) (e :: es) [] pos) (eMeth c m F mo l) := fun W tk => by
  obtain ⟨f, fd, ps, fn, hc, hm, hb⟩ := M.ex
  unfold FnA at fn
  rw [← g.hP, ← g.hw, ← g.hK, ← g.hm, ← g.hb] at fn
  rw [← g.hK] at hc hm hb
  refine ⟨fun pins s σ H Q I q => ?_⟩
  obtain ⟨ι, h, ρ, r, en, p⟩ := q
  refine PySem.W.methodCall_KW (pl := pl) (thn ((ho W tk).run pins s σ H _ I ⟨ι, h, ρ, r, en, GPost.bnd (R := AvR C) p⟩) fun u s1 ⟨x, H1, I1, rx, ι1, h1, a, r1, e1, x1, p1⟩ => ?_) ht
  by_cases z : (isIns c h1 a && noFld m h1 a) = true
  · rw [if_pos z] at p1
    rw [Bool.and_eq_true] at z
    obtain ⟨q, dx, fs, gs, l', rfl, ea, el, eh, fr⟩ := isIns_of M.us r1 x1 z.1
    subst ea
    obtain rfl : u = Value.ref q := rx
    have nf : gs.lookup m = none := by
      have z2 := z.2
      unfold noFld at z2
      dsimp only at z2
      rw [el] at z2
      dsimp only at z2
      rcases fr.lookup m with ⟨y, v, l1, l2, _⟩ | ⟨l1, l2⟩
      · rw [l1] at z2; cases z2
      · exact l2
    refine getmeth_ok I1 eh hc hm nf ?_
    refine PySem.W.callWith_K (first := [.ref q]) (h₀ := X.base) I.ok.mod.kin hm.kp (thn ((hl W tk).run pos pins s1 σ H1 _ I1 ⟨ι1, h1, ρ, r1, en.ext r e1, GPost.bnd (R := AvRs C) p1⟩) fun us s2 ⟨vs, H2, I2, r2', ι2, h2, as, r2, e2, x2, p2⟩ => ⟨I2.kIn, ?_⟩) hst hpl
    exact run_fnS (us := .ref q :: us) (vs := .ref q :: vs) (E := WE W) fn (g.room.mono hk) hb (passAt tk σ) I2 (.cons rfl r2') ⟨ι2, h2, .loc l' :: as, r2, .cons (r1.av e2 x1) x2, p2⟩
  · rw [if_neg z] at p1; exact p1.elim
theorem re_meth0 {c : String} {m : Str} {F : FF} {o : Expr} {mo : EE} {apos pos : Pos} {pl : Sem Bool} (g : Gd C X j) (M : MetA C k c m F) (ho : RE C X o mo) (hk : k ≤ j := by decide)
    (ht : eval (.Call (.Attribute o m apos) [] [] pos) X.env = (do
      let ov ← eval o X.env
      standAt apos.atName
      let (f, first) ← holding [ov] (getMethod ov m pl)
      callWith pos f first (backTo pos (starEach [] X.env)) (backToKw pos (keywordEach [] X.env))) := by rfl) :
    RE C X (.Call (.Attribute o m apos) [] [] pos) (eMeth c m F mo lNil) := fun W tk => by
  obtain ⟨f, fd, ps, fn, hc, hm, hb⟩ := M.ex
  unfold FnA at fn
  rw [← g.hP, ← g.hw, ← g.hK, ← g.hm, ← g.hb] at fn
  rw [← g.hK] at hc hm hb
  refine ⟨fun pins s σ H Q I q => ?_⟩
  obtain ⟨ι, h, ρ, r, en, p⟩ := q
  refine PySem.W.methodCall_KW (pl := pl) (thn ((ho W tk).run pins s σ H _ I ⟨ι, h, ρ, r, en, GPost.bnd (R := AvR C) p⟩) fun u s1 ⟨x, H1, I1, rx, ι1, h1, a, r1, e1, x1, p1⟩ => ?_) ht
  by_cases z : (isIns c h1 a && noFld m h1 a) = true
  · rw [if_pos z] at p1
    rw [Bool.and_eq_true] at z
    obtain ⟨q, dx, fs, gs, l', rfl, ea, el, eh, fr⟩ := isIns_of M.us r1 x1 z.1
    subst ea
    obtain rfl : u = Value.ref q := rx
    have nf : gs.lookup m = none := by
      have z2 := z.2
      unfold noFld at z2
      dsimp only at z2
      rw [el] at z2
      dsimp only at z2
      rcases fr.lookup m with ⟨y, v, l1, l2, _⟩ | ⟨l1, l2⟩
      · rw [l1] at z2; cases z2
      · exact l2
    refine getmeth_ok I1 eh hc hm nf ?_
    exact PySem.W.callWith_K0 (first := [.ref q]) I1.kIn hm.kp (run_fnS (us := [.ref q]) (vs := [.ref q]) (E := WE W) fn (g.room.mono hk) hb (passAt tk σ) I1 (.cons rfl .nil) ⟨ι1, h1, [.loc l'], r1, .cons x1 .nil, p1⟩)
  · rw [if_neg z] at p1; exact p1.elim
end
end PL
set_option maxRecDepth 100000
set_option maxHeartbeats 2000000
/-! Lift6: what is walked, for, while, list comprehensions. -/
namespace PL
open PySem PySem.Spec PyProof.Rows L2 PA

/-- J walks these items -/
def ItOk (C : Cz) (ι0 : Nat → Addr) (n0 : Nat) (H0 : Hp) (items : PA.Heap → Option (List AV)) (J : It) : Prop :=
  ∀ (ι : Nat → Addr) (h : PA.Heap) (H : Hp), Ext ι0 n0 H0 ι h.length H → Rep C ι h H → ∀ (i : Nat) (ys : List AV), items h = some ys →
    (∀ x, ys[i]? = some x → J.go i H ∧ ∀ v H', J.yld i H v H' → Ext ι h.length H ι h.length H' ∧ Rep C ι h H' ∧ AvR C ι h.length H' x v) ∧ (ys[i]? = none → J.stop i H)
abbrev tI (C : Cz) (m : II) (W : WX) : TI := tG C (ItOk C) m W
def RI (C : Cz) (X : Cx) (tg iter : Expr) (m : II) : Prop := ∀ W, Takes X W → PI X tg iter (tI C m W)
theorem PI_imp {X : Cx} {tg iter : Expr} {t t' : TI} (p : PI X tg iter t) (k : ∀ σ H Q, t' σ H Q → t σ H Q) : PI X tg iter t' := ⟨fun pins s σ H Q I q => p.run pins s σ H Q I (k σ H Q q)⟩

section
variable {C : Cz} {X : Cx} {tg : Expr} {j : Nat}
theorem itoN {ι0 : Nat → Addr} {n0 : Nat} {H0 : Hp} {xs : List AV} {J : It} (k : ∀ (ι : Nat → Addr) (h : PA.Heap) (H : Hp), Ext ι0 n0 H0 ι h.length H → Rep C ι h H → ∀ (i : Nat), (∀ x, xs[i]? = some x → J.go i H ∧ ∀ v H', J.yld i H v H' → Ext ι h.length H ι h.length H' ∧ Rep C ι h H' ∧ AvR C ι h.length H' x v) ∧ (xs[i]? = none → J.stop i H)) :
    ItOk C ι0 n0 H0 (fun _ => some xs) J := fun ι h H e r i ys z => by
  cases z
  exact k ι h H e r i
/-- a made list -/
def rTmp (C : Cz) (Z : Addr → Prop) : RR (List AV) V := fun ι n H xs v => ∃ p vs, v = .ref p ∧ H p = some (.lst vs) ∧ AvRs C ι n H xs vs ∧ (∀ l, l < n → ι l ≠ p) ∧ ¬ Z p
/-- .. that stands apart from Z -/
def tM (C : Cz) (m : LL) (W : WX) : TE := fun σ H Q => ∃ ι h ρ, Rep C ι h H ∧ EnR C ι h.length H ρ σ ∧ ∃ Z : Addr → Prop, (∀ p, Z p → H p ≠ none) ∧ GPost C (rTmp C Z) ι h H Q (fun c d H' => W c d σ H') (m ρ h)
def RM (C : Cz) (X : Cx) (e : Expr) (m : LL) : Prop := ∀ W, Takes X W → PE X e (tM C m W)
/-- for x in a tuple that is known to be one -/
theorem ri_tup {e : Expr} {m : EE} (g : Gd C X j) (he : RE C X e m) : RI C X tg e (iTup m) := fun W tk =>
  PI_imp (pi_tup (he W tk)) fun σ H R ⟨ι, h, ρ, r, en, p⟩ => ⟨ι, h, ρ, r, en, (GPost.bnd (R := AvR C) p).mono fun x H1 ⟨ι1, h1, a, r1, e1, x1, p1⟩ => by
    cases x1 with
    | @tup q xs vs t av =>
      refine ⟨q, rfl, ⟨vs, by rw [g.hK]; exact t⟩, p1 ι1 H1 (Itt X.K q) Ext.refl r1 (itoN fun ι h H e2 r2 i => ?_)⟩
      have t2 : SqT X.K H q vs := by rw [g.hK]; exact r1.sqT e2 t
      have av2 := r1.avs e2 av
      refine ⟨fun x ex => ?_, fun ex => ?_⟩
      · obtain ⟨v, h1, h2⟩ := av2.get ex
        refine ⟨⟨vs, v, t2, h1⟩, fun v' H' y => ?_⟩
        obtain ⟨rfl, y⟩ := y
        have := y vs t2
        rw [h1] at this
        cases this
        exact ⟨Ext.refl, r2, h2⟩
      · refine ⟨vs, t2, ?_⟩
        rw [← av2.length]
        exact List.getElem?_eq_none_iff.mp ex
    | _ => exact p1.elim⟩
/-- for x in a list of ours -/
theorem ri_loc {e : Expr} {m : EE} (g : Gd C X j) (he : RE C X e m) : RI C X tg e (iLoc m) := fun W tk =>
  PI_imp (pi_list (he W tk)) fun σ H R ⟨ι, h, ρ, r, en, p⟩ => ⟨ι, h, ρ, r, en, (GPost.bnd (R := AvR C) p).mono fun x H1 ⟨ι1, h1, a, r1, e1, x1, p1⟩ => by
    cases x1 with
    | @loc l hl =>
      dsimp only at p1
      cases z : h1[l]? with
      | none => rw [z] at p1; exact p1.elim
      | some o =>
        cases o with
        | lst xs0 =>
          rw [z] at p1
          dsimp only at p1
          obtain ⟨vs0, hv0, _⟩ := lst_at r1 z
          refine ⟨_, rfl, ⟨vs0, SqL.of hv0⟩, p1 ι1 H1 (Itl X.K (ι1 l)) Ext.refl r1 fun ι h H e2 r2 i ys ei => ?_⟩
          unfold lstOf at ei
          dsimp only at ei
          cases z2 : h[l]? with
          | none => rw [z2] at ei; cases ei
          | some o2 =>
            cases o2 with
            | lst ws =>
              rw [z2] at ei
              cases ei
              obtain ⟨vs, hv, av⟩ := lst_at r2 z2
              rw [e2.agree l hl] at hv
              refine ⟨fun x ex => ?_, fun ex => ?_⟩
              · obtain ⟨v, h1, h2⟩ := av.get ex
                refine ⟨⟨vs, v, SqL.of hv, h1⟩, fun v' H' y => ?_⟩
                obtain ⟨rfl, y⟩ := y
                have := y vs (SqL.of hv)
                rw [h1] at this
                cases this
                exact ⟨Ext.refl, r2, h2⟩
              · refine ⟨vs, SqL.of hv, ?_⟩
                rw [← av.length]
                exact List.getElem?_eq_none_iff.mp ex
            | _ => rw [z2] at ei; cases ei
        | _ => rw [z] at p1; exact p1.elim
    | _ => exact p1.elim⟩
/-- for x in a made list -/
theorem ri_tmp {e : Expr} {m : LL} (g : Gd C X j) (he : RM C X e m) : RI C X tg e (iTmp m) := fun W tk =>
  PI_imp (pi_list (he W tk)) fun σ H R ⟨ι, h, ρ, r, en, p⟩ => ⟨ι, h, ρ, r, en, fun _ => False, fun _ z => z.elim, (GPost.bnd (R := rTmp C fun _ => False) p).mono fun x H1 ⟨ι1, h1, xs, r1, e1, x1, p1⟩ => by
    obtain ⟨q, vs, rfl, hq, av, off, _⟩ := x1
    refine ⟨q, rfl, ⟨vs, SqL.of hq⟩, p1 ι1 H1 (Itl X.K q) Ext.refl r1 (itoN fun ι h H e2 r2 i => ?_)⟩
    have t2 : SqL X.K H q vs := SqL.of (e2.frame _ _ hq (fun _ z => nomatch z) off)
    have av2 := r1.avs e2 av
    refine ⟨fun x ex => ?_, fun ex => ?_⟩
    · obtain ⟨v, h1, h2⟩ := av2.get ex
      refine ⟨⟨vs, v, t2, h1⟩, fun v' H' y => ?_⟩
      obtain ⟨rfl, y⟩ := y
      have := y vs t2
      rw [h1] at this
      cases this
      exact ⟨Ext.refl, r2, h2⟩
    · refine ⟨vs, t2, ?_⟩
      rw [← av2.length]
      exact List.getElem?_eq_none_iff.mp ex⟩
theorem range_get {lo hi : Int} {i : Nat} {x : AV} (e : (rangeL lo hi)[i]? = some x) : i < (hi - lo).toNat ∧ x = .int (lo + (i : Int)) := by
  unfold rangeL at e
  rw [List.getElem?_map] at e
  cases z : (List.range (hi - lo).toNat)[i]? with
  | none => rw [z] at e; cases e
  | some k =>
    rw [z] at e
    cases e
    have h1 := List.getElem?_eq_some_iff.mp z
    obtain ⟨h2, h3⟩ := h1
    rw [List.length_range] at h2
    rw [List.getElem_range] at h3
    subst h3
    exact ⟨h2, rfl⟩
theorem range_end {lo hi : Int} {i : Nat} (e : (rangeL lo hi)[i]? = none) : (hi - lo).toNat ≤ i := by
  have := List.getElem?_eq_none_iff.mp e
  simpa [rangeL] using this
theorem range_ok {ι1 : Nat → Addr} {n1 : Nat} {H1 : Hp} {lo hi : Int} : ItOk C ι1 n1 H1 (fun _ => some (rangeL lo hi)) (Itr lo (hi - lo).toNat) := itoN fun ι h H e2 r2 i => by
  refine ⟨fun x ex => ?_, fun ex => range_end ex⟩
  obtain ⟨h1, rfl⟩ := range_get ex
  refine ⟨h1, fun v H' y => ?_⟩
  obtain ⟨rfl, rfl⟩ := y
  exact ⟨Ext.refl, r2, .int _⟩
theorem ri_range0 {a : Expr} {m : EE} {p pos : Pos} (g : Gd C X j) (hm : C.mg "range" = none) (ha : RE C X a m) (hg : Gl X "range" := by rfl) (hs : starEach [a] X.env = [(false, eval a X.env)] := by rfl) : RI C X tg (.Call (.Name "range" p) [a] [] pos) (iRange0 m) := fun W tk =>
  PI_imp (pi_range1 hg (by rw [g.hm]; exact hm) (pa_cons (ha W tk) pa_nil hs) hs) fun σ H R ⟨ι, h, ρ, r, en, p⟩ => ⟨ι, h, ρ, r, en, (GPost.bnd (R := AvR C) p).mono fun x H1 ⟨ι1, h1, a, r1, e1, x1, p1⟩ => by
    cases x1 with
    | int i =>
      dsimp only at p1
      by_cases z : -(2 ^ 62) ≤ i ∧ i < 2 ^ 62
      · rw [if_pos z] at p1
        refine ⟨i, rfl, z.1, z.2, p1 ι1 H1 _ Ext.refl r1 ?_⟩
        have q := range_ok (C := C) (ι1 := ι1) (n1 := h1.length) (H1 := H1) (lo := 0) (hi := i)
        rw [Int.sub_zero] at q
        exact q
      · rw [if_neg z] at p1; exact p1.elim
    | _ => exact p1.elim⟩
theorem ri_range {a b : Expr} {m u : EE} {p pos : Pos} (g : Gd C X j) (hm : C.mg "range" = none) (ha : RE C X a m) (hb : RE C X b u) (hg : Gl X "range" := by rfl) (hs : starEach [a, b] X.env = [(false, eval a X.env), (false, eval b X.env)] := by rfl) (hs2 : starEach [b] X.env = [(false, eval b X.env)] := by rfl) :
    RI C X tg (.Call (.Name "range" p) [a, b] [] pos) (iRange m u) := fun W tk =>
  PI_imp (pi_range2 hg (by rw [g.hm]; exact hm) (pa_cons (ha W tk) (pa_cons (hb W tk) pa_nil hs2) (by rw [hs, hs2])) hs hs2) fun σ H R ⟨ι, h, ρ, r, en, p⟩ => ⟨ι, h, ρ, r, en, (GPost.bnd (R := AvR C) p).mono fun x H1 ⟨ι1, h1, a, r1, e1, x1, p1⟩ =>
    ⟨ι1, h1, ρ, r1, en.ext r e1, (GPost.bnd (R := AvR C) p1).mono fun y H2 ⟨ι2, h2, b, r2, e2, x2, p2⟩ => by
      cases x1 with
      | int i =>
        cases x2 with
        | int j =>
          dsimp only at p2
          by_cases z : -(2 ^ 62) ≤ i ∧ i < 2 ^ 62 ∧ -(2 ^ 62) ≤ j ∧ j < 2 ^ 62
          · rw [if_pos z] at p2
            exact ⟨i, j, rfl, z, p2 ι2 H2 _ Ext.refl r2 range_ok⟩
          · rw [if_neg z] at p2; exact p2.elim
        | _ => exact p2.elim
      | _ => exact p2.elim⟩⟩

/-! ### for -/
theorem rs_for {iter : Expr} {body : List Stmt} {it : II} {g : Tg} {g' : TG} {is : List Nat} {m : SS} {pos : Pos} (gd : Gd C X j) (hp : PassesOwn (model X.prog X.w) X.A X.env X.xe) (hi : RI C X tg iter it) (hg : RG C X tg g g' is) (hb : RSs C X body m)
    (hs : ∀ x, foldedSetIterable iter X.env x = pure x := by intro _; rfl) : RS C X (.For tg iter body [] pos) (sFor it g m) := fun W tk => by
  refine PS_imp (ps_for hp gd.calm (hi W tk) hg.pg (hb W tk) hs) fun D σ H ⟨ι, h, ρ, r, en, p⟩ => ⟨ι, h, ρ, r, en, (SPost.bnd (R := ItOk C) r en p).mono fun J H1 ⟨ι1, h1, items, r1, e1, x1, p1⟩ => ?_⟩
  refine ⟨fun i m' σ' H' => ∃ ι2 h2 ρ2, Ext ι1 h1.length H1 ι2 h2.length H' ∧ Rep C ι2 h2 H' ∧ EnR C ι2 h2.length H' ρ2 σ' ∧ SPost C ι2 h2 H' D W (sIter items g m m' i ρ2 h2), ⟨fuel, ι1, h1, ρ, Ext.refl, r1, en.ext r e1, p1⟩, ?_⟩
  rintro i m' σ2 H2 ⟨ι2, h2, ρ2, e2, r2, en2, p2⟩
  cases m' with
  | zero => exact p2.elim
  | succ k =>
    unfold sIter at p2
    cases z : items h2 with
    | none => simp only [z] at p2; exact p2.elim
    | some ys =>
      simp only [z] at p2
      obtain ⟨w1, w2⟩ := x1 ι2 h2 H2 e2 r2 i ys z
      cases z2 : ys[i]? with
      | none =>
        rw [z2] at p2
        exact .inl ⟨w2 z2, p2 ι2 H2 σ2 Ext.refl r2 en2⟩
      | some x =>
        rw [z2] at p2
        obtain ⟨go, yl⟩ := w1 x z2
        refine .inr ⟨go, fun σ' H' => ∃ ι3 h3 ρ3, Ext ι1 h1.length H1 ι3 h3.length H' ∧ Rep C ι3 h3 H' ∧ EnR C ι3 h3.length H' ρ3 σ' ∧ SPost C ι3 h3 H' D W (sIter items g m k (i + 1) ρ3 h3), fun σ' H' q => ⟨k, Nat.lt_succ_self _, q⟩, fun v H3 y => ?_⟩
        obtain ⟨e3, r3, xv⟩ := yl v H3 y
        dsimp only at p2
        cases z3 : g x ρ2 with
        | none => simp only [z3] at p2; exact p2.elim
        | some ρ1 =>
          simp only [z3] at p2
          refine hg.ok ι2 h2 H3 ρ2 ρ1 σ2 x v _ r3 (en2.ext r2 e3) xv z3 fun σ' en' _ => ⟨ι2, h2, ρ1, r3, en', ?_⟩
          cases z4 : m ρ1 h2 with
          | nx ρ' h' => rw [z4] at p2; exact fun ι4 H4 σ4 e4 r4 en4 => ⟨ι4, h', ρ', e2.trans (e3.trans e4), r4, en4, SPost.shift (h := h2) (h' := h') p2 (e3.trans e4)⟩
          | ct ρ' h' => rw [z4] at p2; exact fun ι4 H4 σ4 e4 r4 en4 => ⟨ι4, h', ρ', e2.trans (e3.trans e4), r4, en4, SPost.shift (h := h2) (h' := h') p2 (e3.trans e4)⟩
          | brk ρ' h' => rw [z4] at p2; exact fun ι4 H4 σ4 e4 r4 en4 => p2 ι4 H4 σ4 (e3.trans e4) r4 en4
          | ret v' h' => rw [z4] at p2; exact fun ι4 H4 v4 e4 r4 x4 => p2 ι4 H4 v4 (e3.trans e4) r4 x4
          | exc e' ρ' h' => rw [z4] at p2; exact fun ι4 H4 σ4 c4 d4 e4 r4 en4 x4 => p2 ι4 H4 σ4 c4 d4 (e3.trans e4) r4 en4 x4
          | bad => rw [z4] at p2; exact p2.elim
theorem rs_while {c : Expr} {body : List Stmt} {t : BB} {m : SS} {pos : Pos} (hp : PassesOwn (model X.prog X.w) X.A X.env X.xe) (hc : RT C X c t) (hb : RSs C X body m) : RS C X (.While c body [] pos) (sWhile t m) := fun W tk => by
  refine PS_imp (ps_while hp (hc W tk) (hb W tk)) fun D σ H ⟨ι, h, ρ, r, en, p⟩ => ?_
  refine ⟨fun n σ' H' => ∃ ι2 h2 ρ2, Ext ι h.length H ι2 h2.length H' ∧ Rep C ι2 h2 H' ∧ EnR C ι2 h2.length H' ρ2 σ' ∧ SPost C ι2 h2 H' D W (sWhileN t m n ρ2 h2), ⟨fuel, ι, h, ρ, Ext.refl, r, en, p⟩, ?_⟩
  rintro n σ2 H2 ⟨ι2, h2, ρ2, e2, r2, en2, p2⟩
  cases n with
  | zero => exact p2.elim
  | succ k =>
    unfold sWhileN at p2
    refine ⟨ι2, h2, ρ2, r2, en2, (SPost.bnd (R := rB) r2 en2 p2).mono fun b H3 ⟨ι3, h3, b', r3, e3, x3, p3⟩ => ?_⟩
    cases x3
    by_cases z : b = true
    · rw [if_pos z] at p3 ⊢
      refine ⟨fun σ' H' => ∃ ι4 h4 ρ4, Ext ι h.length H ι4 h4.length H' ∧ Rep C ι4 h4 H' ∧ EnR C ι4 h4.length H' ρ4 σ' ∧ SPost C ι4 h4 H' D W (sWhileN t m k ρ4 h4), fun σ' H' q => ⟨k, Nat.lt_succ_self _, q⟩, ι3, h3, ρ2, r3, en2.ext r2 e3, ?_⟩
      cases z4 : m ρ2 h3 with
      | nx ρ' h' => rw [z4] at p3; exact fun ι4 H4 σ4 e4 r4 en4 => ⟨ι4, h', ρ', e2.trans (e3.trans e4), r4, en4, SPost.shift (h := h3) (h' := h') p3 e4⟩
      | ct ρ' h' => rw [z4] at p3; exact fun ι4 H4 σ4 e4 r4 en4 => ⟨ι4, h', ρ', e2.trans (e3.trans e4), r4, en4, SPost.shift (h := h3) (h' := h') p3 e4⟩
      | brk ρ' h' => rw [z4] at p3; exact p3
      | ret v' h' => rw [z4] at p3; exact p3
      | exc e' ρ' h' => rw [z4] at p3; exact p3
      | bad => rw [z4] at p3; exact p3.elim
    · rw [if_neg z] at p3 ⊢
      exact p3 ι3 H3 σ2 Ext.refl r3 (en2.ext r2 e3)

/-! ### list comprehensions -/
def RTs (C : Cz) (X : Cx) (ifs : List Expr) (m : BB) : Prop := ∀ W, Takes X W → PTs X ifs (tT C m W)
theorem PTs_imp {X : Cx} {e : List Expr} {t t' : TT} (p : PTs X e t) (k : ∀ σ H Q, t' σ H Q → t σ H Q) : PTs X e t' := ⟨fun pins s σ H Q I q => p.run pins s σ H Q I (k σ H Q q)⟩
theorem rts_nil : RTs C X [] PA.tYes := fun W tk => PTs_imp pts_nil fun σ H Q ⟨ι, h, ρ, r, en, p⟩ => p ι H true Ext.refl r rfl
theorem rts_one {c : Expr} {m : BB} (h : RT C X c m) : RTs C X [c] m := fun W tk => pts_one (h W tk)
abbrev WF : WX := fun _ _ _ _ => False
theorem EnR.wipe {ι : Nat → Addr} {n : Nat} {H : Hp} {ρ : PA.Env} {σ : L2.St} (en : EnR C ι n H ρ σ) : ∀ vs, EnR C ι n H (wipeA ρ vs) (L2.wipe σ vs)
  | [] => en
  | v :: vs => by
    obtain ⟨h1, h2⟩ := EnR.wipe en vs
    refine ⟨by simp [wipeA, L2.wipe, h1], fun i a e => ?_⟩
    unfold wipeA at e
    unfold L2.wipe
    by_cases z : v = i
    · subst z
      by_cases q : v < (wipeA ρ vs).length
      · rw [List.getElem?_set_self q] at e; cases e
      · rw [List.getElem?_eq_none (by simpa using q)] at e; cases e
    · rw [List.getElem?_set_ne z] at e
      rw [List.getElem?_set_ne z]
      exact h2 i a e
theorem rm_lc {elt tg iter : Expr} {ifs : List Expr} {scope : Scope} {own : List (Str × Nat)} {pos : Pos} {it : II} {g : Tg} {g' : TG} {is : List Nat} {t : BB} {e : EE} (gd : Gd C X j) (hi : RI C X tg iter it) (ok : BlkOk X.N X.env.scope scope own)
    (hg : ∀ (s : Shared) (H : Hp) (c : Addr) (cl : List (Str × Addr)) (fp : List Addr), RG C (X.blk s H scope (compEnvC scope cl c X.env) fp) tg g g' is)
    (ht : ∀ (s : Shared) (H : Hp) (c : Addr) (cl : List (Str × Addr)) (fp : List Addr), Gd C (X.blk s H scope (compEnvC scope cl c X.env) fp) j → RTs C (X.blk s H scope (compEnvC scope cl c X.env) fp) ifs t)
    (he : ∀ (s : Shared) (H : Hp) (c : Addr) (cl : List (Str × Addr)) (fp : List Addr), Gd C (X.blk s H scope (compEnvC scope cl c X.env) fp) j → RE C (X.blk s H scope (compEnvC scope cl c X.env) fp) elt e)
    (hin : ∀ i ∈ is, i ∈ own.map (·.2) := by decide) (hs : ∀ x, foldedSetIterable iter X.env x = pure x := by intro _; rfl) :
    RM C X (.ListComp elt [⟨tg, iter, ifs, 0⟩] scope pos) (lComp it g t e (own.map (·.2))) := fun W tk => by
  have gb : ∀ (s : Shared) (H : Hp) (c : Addr) (cl : List (Str × Addr)) (fp : List Addr), Gd C (X.blk s H scope (compEnvC scope cl c X.env) fp) j := fun _ _ _ _ _ => ⟨gd.hP, gd.hw, gd.hK, gd.hm, gd.hb, gd.calm, gd.nd, gd.room⟩
  refine PE_imp (pe_lc (tt := tT C t WF) (te := tE C e WF) gd.calm gd.nd (hi W tk) ok (fun s H c cl fp => (hg s H c cl fp).pg) (fun s H c cl fp => ht s H c cl fp (gb s H c cl fp) WF takes0) (fun s H c cl fp => he s H c cl fp (gb s H c cl fp) WF takes0) hs) ?_
  intro σ H Q ⟨ι, h, ρ, r, en, Z, hZ, p⟩
  refine ⟨ι, h, ρ, r, en, (GPost.bnd (R := ItOk C) p).mono fun J H1 ⟨ι1, h1, items, r1, e1, x1, p1⟩ => ?_⟩
  intro D hD
  have nZ : ¬ Z D := fun z => e1.dom D (hZ D z) hD
  have tokG : TgOk C g' g is := (hg { } H 0 [] []).ok
  refine ⟨fun i m H2 => ∃ ι2 h2 acc vs, Ext ι1 h1.length H1 ι2 h2.length H2 ∧ Rep C ι2 h2 H2 ∧ H2 D = some (.lst vs) ∧ AvRs C ι2 h2.length H2 acc vs ∧ (∀ l, l < h2.length → ι2 l ≠ D) ∧ GPost C (rTmp C Z) ι1 h1 H1 Q (fun c d H' => W c d σ H') (lcIter items g t e (wipeA ρ (own.map (·.2))) m i acc h2),
    ⟨fuel, ι1, h1, [], [], Ext.laid r1 hD, r1.laid hD, upd_same, .nil, fun l hl => r1.off hD hl, p1⟩, ?_⟩
  rintro i m H2 ⟨ι2, h2, acc, vs, e2, r2, hv, av, off, p2⟩
  cases m with
  | zero => exact p2.elim
  | succ k =>
    unfold lcIter at p2
    cases z : items h2 with
    | none => simp only [z] at p2; exact p2.elim
    | some ys =>
      simp only [z] at p2
      obtain ⟨w1, w2⟩ := x1 ι2 h2 H2 e2 r2 i ys z
      cases z2 : ys[i]? with
      | none =>
        simp only [z2] at p2
        exact .inl ⟨w2 z2, p2 ι2 H2 _ e2 r2 ⟨D, vs, rfl, hv, av, off, nZ⟩⟩
      | some x =>
        simp only [z2] at p2
        obtain ⟨go, yl⟩ := w1 x z2
        refine .inr ⟨go, fun H3 => ∃ ι2 h2 acc vs, Ext ι1 h1.length H1 ι2 h2.length H3 ∧ Rep C ι2 h2 H3 ∧ H3 D = some (.lst vs) ∧ AvRs C ι2 h2.length H3 acc vs ∧ (∀ l, l < h2.length → ι2 l ≠ D) ∧ GPost C (rTmp C Z) ι1 h1 H1 Q (fun c d H' => W c d σ H') (lcIter items g t e (wipeA ρ (own.map (·.2))) k (i + 1) acc h2), fun H3 q => ⟨k, Nat.lt_succ_self _, q⟩, fun v H3 y => ?_⟩
        obtain ⟨e3, r3, xv⟩ := yl v H3 y
        cases z3 : g x (wipeA ρ (own.map (·.2))) with
        | none => simp only [z3] at p2; exact p2.elim
        | some ρ1 =>
          simp only [z3] at p2
          have en3 : EnR C ι2 h2.length H3 (wipeA ρ (own.map (·.2))) (L2.wipe σ (own.map (·.2))) := ((en.ext r e1).ext r1 (e2.trans e3)).wipe _
          have keepD : ∀ {ι5 : Nat → Addr} {h5 : PA.Heap} {H5 : Hp}, Ext ι2 h2.length H2 ι5 h5.length H5 → H5 D = some (.lst vs) ∧ ∀ l, l < h5.length → ι5 l ≠ D := fun {ι5 h5 H5} e5 => by
            refine ⟨e5.frame _ _ hv (fun _ z => nomatch z) off, fun l hl zl => ?_⟩
            by_cases q : l < h2.length
            · exact off l q ((e5.agree l q).symm.trans zl)
            · have f := e5.fresh l (Nat.le_of_not_lt q) hl
              rw [zl, hv] at f
              cases f
          refine tokG ι2 h2 H3 _ ρ1 _ x v _ r3 en3 xv z3 fun σ' en' wp => ⟨?_, ι2, h2, ρ1, r3, en', ?_⟩
          · have idem : ∀ ws : List Nat, L2.wipe (L2.wipe σ ws) ws = L2.wipe σ ws := by
              intro ws
              apply List.ext_getElem?
              intro q
              have key : ∀ (τ : L2.St) (us : List Nat), (L2.wipe τ us)[q]? = if q ∈ us then (τ[q]?).map (fun _ => none) else τ[q]? := by
                intro τ us
                induction us with
                | nil => simp [L2.wipe]
                | cons u us ih =>
                  unfold L2.wipe
                  by_cases zz : u = q
                  · subst zz
                    rw [if_pos List.mem_cons_self]
                    by_cases hq : u < τ.length
                    · rw [List.getElem?_set_self (by rw [wipe_length]; exact hq)]
                      simp [hq]
                    · rw [List.getElem?_eq_none (by rw [List.length_set, wipe_length]; omega), List.getElem?_eq_none (by omega)]
                      rfl
                  · rw [List.getElem?_set_ne zz, ih]
                    by_cases hm : q ∈ us
                    · rw [if_pos hm, if_pos (List.mem_cons_of_mem _ hm)]
                    · rw [if_neg hm, if_neg (fun hh => (List.mem_cons.mp hh).elim (fun e => zz e.symm) hm)]
              rw [key, key]
              by_cases hm : q ∈ ws
              · rw [if_pos hm, if_pos hm]; cases σ[q]? <;> rfl
              · rw [if_neg hm, if_neg hm]
            exact (wp _ hin).trans (idem _)
          cases z4 : t ρ1 h2 with
          | bad => simp only [z4] at p2; exact p2.elim
          | exc e' h' => simp only [z4] at p2; exact p2.elim
          | ok b h4 =>
            rw [z4] at p2
            intro ι4 H4 b' e4 r4 eb
            cases eb
            cases b with
            | false =>
              rw [if_neg Bool.false_ne_true]
              obtain ⟨k1, k2⟩ := keepD (e3.trans e4)
              exact ⟨ι4, h4, acc, vs, e2.trans (e3.trans e4), r4, k1, r2.avs (e3.trans e4) av, k2, p2⟩
            | true =>
              rw [if_pos rfl]
              refine ⟨ι4, h4, ρ1, r4, en'.ext r3 e4, ?_⟩
              dsimp only at p2
              cases z5 : e ρ1 h4 with
              | bad => simp only [z5] at p2; exact p2.elim
              | exc e' h' => simp only [z5] at p2; exact p2.elim
              | ok y h5 =>
                simp only [z5] at p2
                intro ι5 H5 w e5 r5 xw
                obtain ⟨k1, k2⟩ := keepD (e3.trans (e4.trans e5))
                have av5 := r2.avs (e3.trans (e4.trans e5)) av
                by_cases zl : acc.length < szl
                · rw [if_pos zl] at p2
                  refine ⟨vs, k1, by rw [← av.length]; exact zl, ι5, h5, acc ++ [y], vs ++ [w], (e2.trans (e3.trans (e4.trans e5))).side hD, r5.side k1 k2, upd_same, ?_, k2, p2⟩
                  exact (av5.append (.cons xw .nil)).map (fun _ _ => side_sqT k1) (Nat.le_refl _) fun _ _ => rfl
                · rw [if_neg zl] at p2; exact p2.elim
end
end PL
set_option maxRecDepth 100000
set_option maxHeartbeats 2000000
/-! Lift7: built-ins, lists' methods, stores. -/
namespace PL
open PySem PySem.Spec PyProof.Rows L2 PA
section
variable {C : Cz} {X : Cx} {j : Nat}
theorem chg_lst {ι : Nat → Addr} {h : PA.Heap} {H : Hp} {l : Nat} {xs ys : List AV} {ws : List V} (r : Rep C ι h H) (e : h[l]? = some (.lst xs)) (q : AvRs C ι h.length H ys ws) :
    Ext ι h.length H ι (h.set l (.lst ys)).length (upd H (ι l) (.lst ws)) ∧ Rep C ι (h.set l (.lst ys)) (upd H (ι l) (.lst ws)) := by
  have hl := (List.getElem?_eq_some_iff.mp e).1
  obtain ⟨vs, hv, _⟩ := lst_at r e
  have nf : ∀ o u, H (ι l) ≠ some (.frz o u) := fun o u z => by rw [hv] at z; cases z
  have ex := Ext.chg (u := .lst ws) r hl nf
  exact ⟨by rw [List.length_set]; exact ex, r.chg hl nf ⟨ws, upd_same, r.avs ex q⟩⟩
theorem loc_of {ι : Nat → Addr} {n : Nat} {H : Hp} {l : Nat} {x : V} (xa : AvR C ι n H (.loc l) x) : x = .ref (ι l) ∧ l < n := by
  cases xa with | loc hl => exact ⟨rfl, hl⟩

/-! ### built-ins by their names -/
def CrA (C : Cz) (X : Cx) (f : Value) (B : FF) : Prop := CallR X f (fun vs H Q => ∃ ι h as W, Rep C ι h H ∧ AvRs C ι h.length H as vs ∧ GPost C (AvR C) ι h H Q W (B as h))
theorem re_callB {x : Str} {id : String} {B : FF} {e : Expr} {es : List Expr} {l : LL} {p pos : Pos} (g : Gd C X j) (cr : CrA C X (.builtin id) B) (hm : C.mg x = none) (hv : bootBuiltins x = some (.builtin id)) (hl : RL C X (e :: es) l) (hg : Gl X x := by rfl)
    (hn : x ≠ "__name__" := by decide) (hdb : (x == ("__debug__" : Str)) = false := by decide) (he : starEach (e :: es) X.env = (false, eval e X.env) :: starEach es X.env := by rfl) (hpl : (backTo pos (starEach es X.env)).any (·.1) = false := by rfl) :
    RE C X (.Call (.Name x p) (e :: es) [] pos) (eCall B l) := fun W tk =>
  PE_imp (pe_callB cr hg (by rw [g.hm]; exact hm) hv (hl W tk) hn hdb he hpl) fun σ H Q ⟨ι, h, ρ, r, en, p⟩ => ⟨ι, h, ρ, r, en, (GPost.bnd (R := AvRs C) p).mono fun xs H1 ⟨ι1, h1, as, r1, e1, x1, p1⟩ => ⟨ι1, h1, as, _, r1, x1, p1⟩⟩
theorem re_callTy {x : Str} {T : String} {B : FF} {e : Expr} {es : List Expr} {l : LL} {p pos : Pos} (g : Gd C X j) (cr : CrA C X (.type T) B) (hm : C.mg x = none) (hv : bootBuiltins x = some (.type T)) (hl : RL C X (e :: es) l) (hg : Gl X x := by rfl)
    (hn : x ≠ "__name__" := by decide) (hdb : (x == ("__debug__" : Str)) = false := by decide) (he : starEach (e :: es) X.env = (false, eval e X.env) :: starEach es X.env := by rfl) (hpl : (backTo pos (starEach es X.env)).any (·.1) = false := by rfl) :
    RE C X (.Call (.Name x p) (e :: es) [] pos) (eCall B l) := fun W tk =>
  PE_imp (pe_callTy cr hg (by rw [g.hm]; exact hm) hv (hl W tk) hn hdb he hpl) fun σ H Q ⟨ι, h, ρ, r, en, p⟩ => ⟨ι, h, ρ, r, en, (GPost.bnd (R := AvRs C) p).mono fun xs H1 ⟨ι1, h1, as, r1, e1, x1, p1⟩ => ⟨ι1, h1, as, _, r1, x1, p1⟩⟩
theorem cr_int : CrA C X (.type "int") bInt := by
  intro pins s σ H xs us Q I rv ⟨ι, h, as, W, r, x, p⟩
  cases x with
  | nil => exact p.elim
  | cons a b =>
    cases b with
    | cons _ _ => cases a <;> exact p.elim
    | nil =>
      cases a with
      | int i => exact call_int1 pins s σ H _ us Q I rv (.inl ⟨i, rfl, p ι H _ Ext.refl r (.int _)⟩)
      | bl i => exact call_int1 pins s σ H _ us Q I rv (.inr ⟨i, rfl, p ι H _ Ext.refl r (.int _)⟩)
      | _ => exact p.elim
theorem cr_strI : CrA C X (.type "str") bStrI := by
  intro pins s σ H xs us Q I rv ⟨ι, h, as, W, r, x, p⟩
  cases x with
  | nil => exact p.elim
  | cons a b =>
    cases b with
    | cons _ _ => cases a <;> exact p.elim
    | nil =>
      cases a with
      | int i =>
        unfold bStrI at p
        dsimp only at p
        by_cases z : i.natAbs.log2 < 1920
        · rw [if_pos z] at p
          exact call_str_int pins s σ H _ us Q I rv ⟨i, rfl, z, p ι H _ Ext.refl r (.str _)⟩
        · rw [if_neg z] at p; exact p.elim
      | _ => exact p.elim
theorem cr_max2 (g : Gd C X j) : CrA C X (.builtin "max") bMax2 := by
  intro pins s σ H xs us Q I rv ⟨ι, h, as, W, r, x, p⟩
  cases x with
  | nil => exact p.elim
  | cons a b =>
    cases b with
    | nil => cases a <;> exact p.elim
    | cons a2 b =>
      cases b with
      | cons _ _ => cases a <;> cases a2 <;> exact p.elim
      | nil =>
        cases a with
        | int i =>
          cases a2 with
          | int k => exact call_max2 g.calm pins s σ H _ us Q I rv ⟨i, k, rfl, p ι H _ Ext.refl r (.int _)⟩
          | _ => exact p.elim
        | _ => exact p.elim
theorem cr_tuple (g : Gd C X j) : CrA C X (.type "tuple") bTuple := by
  intro pins s σ H xs us Q I rv ⟨ι, h, as, W, r, x, p⟩
  cases x with
  | nil => exact p.elim
  | cons a b =>
    cases b with
    | cons _ _ => exact p.elim
    | nil =>
      rename_i a0 v0 
      unfold bTuple at p
      dsimp only at p
      cases e : seqOf h a0 with
      | none => rw [e] at p; exact p.elim
      | some ys =>
        rw [e] at p
        obtain ⟨q, vs, rfl, sq, av⟩ := seq_of r a e
        rcases sq with sq | sq
        · refine call_tuple_of pins s σ H _ us Q I rv ⟨q, vs, rfl, .inr ⟨by rw [g.hK]; exact sq, p ι H _ Ext.refl r (.tup sq av)⟩⟩
        · exact call_tuple_of pins s σ H _ us Q I rv ⟨q, vs, rfl, .inl ⟨by rw [g.hK]; exact sq, fun l hl => laid_tup r av p hl⟩⟩
theorem cr_list (g : Gd C X j) : CrA C X (.type "list") bList := by
  intro pins s σ H xs us Q I rv ⟨ι, h, as, W, r, x, p⟩
  cases x with
  | nil => exact p.elim
  | cons a b =>
    cases b with
    | cons _ _ => exact p.elim
    | nil =>
      rename_i a0 v0 
      unfold bList at p
      dsimp only at p
      cases e : seqOf h a0 with
      | none => rw [e] at p; exact p.elim
      | some ys =>
        rw [e] at p
        obtain ⟨q, vs, rfl, sq, av⟩ := seq_of r a e
        exact call_list_of pins s σ H _ us Q I rv ⟨q, vs, rfl, by rw [g.hK]; exact sq.elim .inr .inl, fun l hl => grow_lst r av p hl⟩
theorem dct_of {ι : Nat → Addr} {h : PA.Heap} {H : Hp} {a : AV} {v : V} {kvs : List (AV × AV)} (r : Rep C ι h H) (x : AvR C ι h.length H a v) (e : dctOf h a = some kvs) :
    ∃ q ks, v = .ref q ∧ Rd H q (.dK ks) ∧ KsR C ι h.length H kvs ks := by
  cases x with
  | @loc l hl =>
    unfold dctOf at e
    dsimp only at e
    cases z : h[l]? with
    | none => rw [z] at e; cases e
    | some o =>
      rw [z] at e
      cases o with
      | dct ys => cases e; obtain ⟨ks, e1, e2⟩ := r.at_ l _ z; exact ⟨_, ks, rfl, .inl e1, e2⟩
      | lck ys => cases e; obtain ⟨o, ks, e1, e2⟩ := r.at_ l _ z; exact ⟨_, ks, rfl, .inr ⟨o, e1⟩, e2⟩
      | lst ys => cases e
      | ins c fs => cases e
  | _ => cases e
theorem dctU_of {ι : Nat → Addr} {h : PA.Heap} {H : Hp} {a : AV} {v : V} {kvs : List (AV × AV)} (r : Rep C ι h H) (x : AvR C ι h.length H a v) (e : dctU h a = some kvs) :
    ∃ q ks, v = .ref q ∧ H q = some (.dK ks) ∧ KsR C ι h.length H kvs ks := by
  cases x with
  | @loc l hl =>
    unfold dctU at e
    dsimp only at e
    cases z : h[l]? with
    | none => rw [z] at e; cases e
    | some o =>
      rw [z] at e
      cases o with
      | dct ys => cases e; obtain ⟨ks, e1, e2⟩ := r.at_ l _ z; exact ⟨_, ks, rfl, e1, e2⟩
      | lck ys => cases e
      | lst ys => cases e
      | ins c fs => cases e
  | _ => cases e
theorem KsR.length {ι : Nat → Addr} {n : Nat} {H : Hp} {kvs : List (AV × AV)} {ks : List (Key × V)} (r : KsR C ι n H kvs ks) : kvs.length = ks.length := by
  induction r with
  | nil => rfl
  | int _ _ ih => simp [ih]
  | str _ _ ih => simp [ih]
theorem tyx_of {ι : Nat → Addr} {h : PA.Heap} {H : Hp} {a : AV} {v : V} {t : String} (g : Gd C X j) (r : Rep C ι h H) (x : AvR C ι h.length H a v) (e : tyOf h a = some t) : TyX X.K H v (.type t) := by
  cases x with
  | non => cases e; exact .base .non
  | bl b => cases e; exact .base (.bl b)
  | int b => cases e; exact .base (.int b)
  | str b => cases e; exact .base (.str b)
  | tup t q =>
    cases e
    rw [g.hK]
    rcases t with (t | ⟨o, t⟩) | ⟨o, its, n, h1, h2, _⟩
    · exact .base (.tup t)
    · exact .fTuple t
    · exact .kTuple h1 h2
  | @loc l hl =>
    unfold tyOf at e
    dsimp only at e
    cases z : h[l]? with
    | none => rw [z] at e; cases e
    | some o =>
      rw [z] at e
      cases o with
      | lst ys => cases e; obtain ⟨vs, e1, _⟩ := lst_at r z; exact .base (.lst e1)
      | dct ys => cases e; obtain ⟨ks, e1, e2⟩ := r.at_ l _ z; exact .base (.dK e1)
      | lck ys => cases e; obtain ⟨o, ks, e1, e2⟩ := r.at_ l _ z; exact .fDict e1
      | ins c fs => cases e
  | gl _ => cases e
  | ty _ => cases e
theorem kit_all {t T : String} (ht : ["NoneType", "bool", "int", "str", "tuple", "list", "dict"].contains t = true) (hT : ["int", "bool", "str", "tuple", "dict", "list"].contains T = true) : kitB t T = some (t == T || (t == "bool" && T == "int")) := by
  have h : (["NoneType", "bool", "int", "str", "tuple", "list", "dict"].all fun t => ["int", "bool", "str", "tuple", "dict", "list"].all fun T => decide (kitB t T = some (t == T || (t == "bool" && T == "int")))) = true := by decide +kernel
  rw [List.all_eq_true] at h
  have h2 := h t (List.contains_iff_mem.mp ht)
  rw [List.all_eq_true] at h2
  exact of_decide_eq_true (h2 T (List.contains_iff_mem.mp hT))
theorem tyOf_in {h : PA.Heap} {a : AV} {t : String} (e : tyOf h a = some t) : ["NoneType", "bool", "int", "str", "tuple", "list", "dict"].contains t = true := by
  unfold tyOf at e
  cases a with
  | loc l =>
    dsimp only at e
    cases z : h[l]? with
    | none => rw [z] at e; cases e
    | some o => rw [z] at e; cases o <;> first | (cases e; done) | (cases e; decide)
  | _ => first | (cases e; done) | (cases e; decide)
theorem cr_isi (g : Gd C X j) : CrA C X (.builtin "isinstance") bIsi := by
  intro pins s σ H xs us Q I rv ⟨ι, h, as, W, r, x, p⟩
  cases x with
  | nil => exact p.elim
  | cons a b =>
    cases b with
    | nil => exact p.elim
    | cons a2 b =>
      cases b with
      | cons _ _ => exact (by cases a2 <;> exact p.elim)
      | nil =>
        cases a2 with
        | ty T =>
          rename_i a0 v0
          unfold bIsi at p
          dsimp only at p
          cases e : tyOf h a0 with
          | none => rw [e] at p; exact p.elim
          | some t =>
            rw [e] at p
            dsimp only at p
            by_cases z : (["int", "bool", "str", "tuple", "dict", "list"].contains T) = true
            · rw [if_pos z] at p
              exact call_isi pins s σ H _ us Q I rv ⟨_, _, _, _, _, rfl, .ty T, tyx_of g r a e, kit_ty (kit_all (tyOf_in e) z), p ι H _ Ext.refl r (.bl _)⟩
            · rw [if_neg z] at p; exact p.elim
        | _ => exact p.elim
theorem seq_none_str {h : PA.Heap} {s : Str} : seqOf h (.str s) = none := rfl
theorem cr_len (g : Gd C X j) : CrA C X (.builtin "len") bLen := by
  intro pins s σ H xs us Q I rv ⟨ι, h, as, W, r, x, p⟩
  cases x with
  | nil => exact p.elim
  | cons a b =>
    cases b with
    | cons _ _ => cases a <;> exact p.elim
    | nil =>
      rename_i a0 v0
      have go : GPost C (AvR C) ι h H Q W (match seqOf h a0 with
        | some xs => .ok (.int xs.length) h
        | none => match dctU h a0 with
          | some kvs => .ok (.int kvs.length) h
          | none => .bad) → wpAny (model X.prog X.w) X.A (PySem.call (.builtin "len") us) (EP X pins σ Q) X.xe s := fun p => by
        cases e : seqOf h a0 with
        | some ys =>
          rw [e] at p
          dsimp only at p
          obtain ⟨q, vs, rfl, sq, av⟩ := seq_of r a e
          refine call_len_seq pins s σ H _ us Q I rv ⟨q, vs, rfl, by rw [g.hK]; exact sq.elim .inr .inl, ?_⟩
          rw [← av.length]
          exact p ι H _ Ext.refl r (.int _)
        | none =>
          rw [e] at p
          dsimp only at p
          cases e2 : dctU h a0 with
          | none => rw [e2] at p; exact p.elim
          | some kvs =>
            rw [e2] at p
            dsimp only at p
            obtain ⟨q, ks, rfl, rd, kr⟩ := dctU_of r a e2
            refine call_lenD pins s σ H _ us Q I rv ⟨q, ks, rfl, rd, ?_⟩
            rw [← KsR.length kr]
            exact p ι H _ Ext.refl r (.int _)
      cases a with
      | str z =>
        unfold bLen at p
        dsimp only at p
        by_cases hz : z.length ≤ szl
        · rw [if_pos hz] at p
          exact call_len_str pins s σ H _ us Q I rv ⟨z, rfl, hz, p ι H _ Ext.refl r (.int _)⟩
        · rw [if_neg hz] at p; exact p.elim
      | non => exact p.elim
      | bl _ => exact p.elim
      | int _ => exact p.elim
      | gl _ => exact p.elim
      | ty _ => exact p.elim
      | tup t q => exact go p
      | loc hl => exact go p
end
end PL
set_option maxRecDepth 100000
set_option maxHeartbeats 2000000
/-! Lift8: made lists, lists' methods, texts, stores. -/
namespace PL
open PySem PySem.Spec PyProof.Rows L2 PA
section
variable {C : Cz} {X : Cx} {j : Nat}
/-! ### made lists -/
/-- kept: it becomes a list of ours -/
theorem re_keep {e : Expr} {m : LL} (h : RM C X e m) : RE C X e (eKeep m) := fun W tk =>
  PE_imp (h W tk) fun σ H Q ⟨ι, h, ρ, r, en, p⟩ => ⟨ι, h, ρ, r, en, (fun p => H p ≠ none), fun _ z => z, by
    unfold eKeep PA.bnd at p
    cases e : m ρ h with
    | bad => rw [e] at p; exact p.elim
    | exc e' h' => rw [e] at p; exact p
    | ok xs h' =>
      rw [e] at p
      intro ι1 H1 v e1 r1 ⟨q, vs, ev, hq, av, off, nz⟩
      subst ev
      have hn : H q = none := Classical.byContradiction nz
      have e2 : Ext ι h.length H (put1 ι1 h'.length q) (h' ++ [AO.lst xs]).length H1 := by
        rw [List.length_append, List.length_singleton]
        refine ⟨Nat.le_succ_of_le e1.le, fun l hl => (put1_lt (Nat.lt_of_lt_of_le hl e1.le)).trans (e1.agree l hl), e1.frame, fun l a b => ?_, e1.dom, e1.frz⟩
        by_cases z : l < h'.length
        · rw [put1_lt z]; exact e1.fresh l a z
        · have : l = h'.length := by omega
          subst this
          rw [put1_same]; exact hn
      have ag : ∀ l, l < h'.length → put1 ι1 h'.length q l = ι1 l := fun l hl => put1_lt hl
      have r2 : Rep C (put1 ι1 h'.length q) (h' ++ [AO.lst xs]) H1 := by
        refine ⟨fun l o eo => ?_, fun l l' a b eq => ?_, r1.scr⟩
        · rw [List.length_append, List.length_singleton]
          by_cases z : l < h'.length
          · rw [List.getElem?_append_left z] at eo
            rw [put1_lt z]
            have := r1.at_ l o eo
            have step : Ext ι1 h'.length H1 (put1 ι1 h'.length q) (h'.length + 1) H1 ∨ True := .inr trivial
            cases o with
            | lst ys => obtain ⟨ws, w1, w2⟩ := this; exact ⟨ws, w1, w2.map (fun _ _ t => t) (Nat.le_succ _) ag⟩
            | dct ys => obtain ⟨ws, w1, w2⟩ := this; exact ⟨ws, w1, w2.map (fun _ _ t => t) (Nat.le_succ _) ag⟩
            | lck ys => obtain ⟨o, ws, w1, w2⟩ := this; exact ⟨o, ws, w1, w2.map (fun _ _ t => t) (Nat.le_succ _) ag⟩
            | ins c fs =>
              rcases this with ⟨e0, dx, gs, w1, w2⟩ | ⟨names, dx, us, e0, sl, ne, w2⟩
              · exact .inl ⟨e0, dx, gs, w1, w2.map (fun _ _ t => t) (Nat.le_succ _) ag⟩
              · exact .inr ⟨names, dx, us, e0, sl, ne, fun i f x h1 h2 => let ⟨v, e3, e4⟩ := w2 i f x h1 h2; ⟨v, e3, e4.map (fun _ _ t => t) (Nat.le_succ _) ag⟩⟩
          · have hl : l < h'.length + 1 := by have := (List.getElem?_eq_some_iff.mp eo).1; simpa using this
            have : l = h'.length := by omega
            subst this
            rw [List.getElem?_append_right (Nat.le_refl _), Nat.sub_self] at eo
            simp at eo
            subst eo
            rw [put1_same]
            exact ⟨vs, hq, av.map (fun _ _ t => t) (Nat.le_succ _) ag⟩
        · rw [List.length_append, List.length_singleton] at a b
          by_cases z : l < h'.length
          · by_cases z' : l' < h'.length
            · rw [put1_lt z, put1_lt z'] at eq; exact r1.inj l l' z z' eq
            · have : l' = h'.length := by omega
              subst this
              rw [put1_lt z, put1_same] at eq
              exact absurd eq (off l z)
          · have : l = h'.length := by omega
            subst this
            by_cases z' : l' < h'.length
            · rw [put1_lt z', put1_same] at eq
              exact absurd eq.symm (off l' z')
            · omega
      refine p _ H1 (.ref q) e2 r2 ?_
      have t : AvR C (put1 ι1 h'.length q) (h' ++ [AO.lst xs]).length H1 (.loc h'.length) (.ref (put1 ι1 h'.length q h'.length)) := .loc (by simp)
      rw [put1_same] at t
      exact t⟩
/-- what a consumer of a made list sees -/
theorem tmp_bnd {β' : Type} {α' : Type} {R' : RR α' β'} {ι : Nat → Addr} {h : PA.Heap} {H : Hp} {ρ : PA.Env} {σ : L2.St} {W : XK} {Q : β' → Hp → Prop} {m : LL} {k : List AV → PA.Heap → Res α'} (p : GPost C R' ι h H Q W (PA.bnd (m ρ) k h)) :
    GPost C (rTmp C fun _ => False) ι h H (fun b H1 => ∃ ι1 h1 xs, Rep C ι1 h1 H1 ∧ Ext ι h.length H ι1 h1.length H1 ∧ (∃ q vs, b = .ref q ∧ H1 q = some (.lst vs) ∧ AvRs C ι1 h1.length H1 xs vs ∧ ∀ l, l < h1.length → ι1 l ≠ q) ∧ GPost C R' ι1 h1 H1 Q W (k xs h1)) W (m ρ h) :=
  (GPost.bnd (R := rTmp C fun _ => False) p).mono fun b H1 ⟨ι1, h1, xs, r1, e1, ⟨q, vs, eb, hq, av, off, _⟩, p1⟩ => ⟨ι1, h1, xs, r1, e1, ⟨q, vs, eb, hq, av, off⟩, p1⟩
/-- T(made list) -/
theorem re_tyT {x : Str} {T : String} {e : Expr} {l : LL} {p pos : Pos} {k : List AV → PA.Heap → Res AV} (g : Gd C X j) (hm : C.mg x = none) (hv : bootBuiltins x = some (.type T)) (hl : RM C X e l)
    (cr : CallR X (.type T) (fun vs H Q => ∃ ι h xs q ws W, Rep C ι h H ∧ vs = [.ref q] ∧ H q = some (.lst ws) ∧ AvRs C ι h.length H xs ws ∧ GPost C (AvR C) ι h H Q W (k xs h))) (hg : Gl X x := by rfl)
    (hn : x ≠ "__name__" := by decide) (hdb : (x == ("__debug__" : Str)) = false := by decide) (he : starEach [e] X.env = (false, eval e X.env) :: starEach [] X.env := by rfl) (hpl : (backTo pos (starEach [] X.env)).any (·.1) = false := by rfl) :
    RE C X (.Call (.Name x p) [e] [] pos) (fun ρ => bnd (l ρ) k) := fun W tk =>
  PE_imp (pe_callTy cr hg (by rw [g.hm]; exact hm) hv (pa_cons (hl W tk) pa_nil he) hn hdb he hpl) fun σ H Q ⟨ι, h, ρ, r, en, p⟩ => ⟨ι, h, ρ, r, en, _, fun _ z => z.elim, (tmp_bnd (R' := AvR C) (ρ := ρ) (σ := σ) p).mono fun y H1 ⟨ι1, h1, xs, r1, e1, ⟨q, vs, eb, hq, av, off⟩, p1⟩ =>
    ⟨ι1, h1, xs, q, vs, _, r1, by rw [eb], hq, av, p1⟩⟩
theorem re_blT {x : Str} {id : String} {e : Expr} {l : LL} {p pos : Pos} {k : List AV → PA.Heap → Res AV} (g : Gd C X j) (hm : C.mg x = none) (hv : bootBuiltins x = some (.builtin id)) (hl : RM C X e l)
    (cr : CallR X (.builtin id) (fun vs H Q => ∃ ι h xs q ws W, Rep C ι h H ∧ vs = [.ref q] ∧ H q = some (.lst ws) ∧ AvRs C ι h.length H xs ws ∧ GPost C (AvR C) ι h H Q W (k xs h))) (hg : Gl X x := by rfl)
    (hn : x ≠ "__name__" := by decide) (hdb : (x == ("__debug__" : Str)) = false := by decide) (he : starEach [e] X.env = (false, eval e X.env) :: starEach [] X.env := by rfl) (hpl : (backTo pos (starEach [] X.env)).any (·.1) = false := by rfl) :
    RE C X (.Call (.Name x p) [e] [] pos) (fun ρ => bnd (l ρ) k) := fun W tk =>
  PE_imp (pe_callB cr hg (by rw [g.hm]; exact hm) hv (pa_cons (hl W tk) pa_nil he) hn hdb he hpl) fun σ H Q ⟨ι, h, ρ, r, en, p⟩ => ⟨ι, h, ρ, r, en, _, fun _ z => z.elim, (tmp_bnd (R' := AvR C) (ρ := ρ) (σ := σ) p).mono fun y H1 ⟨ι1, h1, xs, r1, e1, ⟨q, vs, eb, hq, av, off⟩, p1⟩ =>
    ⟨ι1, h1, xs, q, vs, _, r1, by rw [eb], hq, av, p1⟩⟩
theorem re_tupOf {e : Expr} {l : LL} {p pos : Pos} (g : Gd C X j) (hm : C.mg "tuple" = none) (hl : RM C X e l) (hg : Gl X "tuple" := by rfl) (he : starEach [e] X.env = (false, eval e X.env) :: starEach [] X.env := by rfl) :
    RE C X (.Call (.Name "tuple" p) [e] [] pos) (eTupOf l) := re_tyT (T := "tuple") g hm (by decide +kernel) hl (by
  intro pins s σ H xs us Q I rv ⟨ι, h, ys, q, ws, W, r, ev, hq, av, p⟩
  subst ev
  exact call_tuple_of pins s σ H _ us Q I rv ⟨q, ws, rfl, .inl ⟨SqL.of hq, fun l hl => laid_tup r av p hl⟩⟩) hg (by decide) (by decide) he
theorem bls_of {ι : Nat → Addr} {n : Nat} {H : Hp} : ∀ {xs : List AV} {ws : List V} {bs : List Bool}, AvRs C ι n H xs ws → blsOf xs = some bs → ws = bs.map V.bl
  | _, _, bs, .nil, e => by cases e; rfl
  | _, _, bs, .cons (x := x) a b, e => by
    cases a with
    | bl k =>
      unfold blsOf at e
      cases z : blsOf _ with
      | none => rw [z] at e; cases e
      | some cs => rw [z] at e; cases e; rw [bls_of b z]; rfl
    | _ => cases e
theorem re_allOf {e : Expr} {l : LL} {p pos : Pos} (g : Gd C X j) (hm : C.mg "all" = none) (hl : RM C X e l) (hg : Gl X "all" := by rfl) (he : starEach [e] X.env = (false, eval e X.env) :: starEach [] X.env := by rfl) :
    RE C X (.Call (.Name "all" p) [e] [] pos) (eAllOf l) := re_blT (id := "all") g hm (by decide +kernel) hl (by
  intro pins s σ H xs us Q I rv ⟨ι, h, ys, q, ws, W, r, ev, hq, av, p⟩
  subst ev
  cases z : blsOf ys with
  | none => rw [z] at p; exact p.elim
  | some bs =>
    rw [z] at p
    have := bls_of av z
    subst this
    exact cr_all g.calm pins s σ H _ us Q I rv ⟨q, bs, rfl, SqL.of hq, p ι H _ Ext.refl r (.bl _)⟩) hg (by decide) (by decide) he
theorem re_anyOf {e : Expr} {l : LL} {p pos : Pos} (g : Gd C X j) (hm : C.mg "any" = none) (hl : RM C X e l) (hg : Gl X "any" := by rfl) (he : starEach [e] X.env = (false, eval e X.env) :: starEach [] X.env := by rfl) :
    RE C X (.Call (.Name "any" p) [e] [] pos) (eAnyOf l) := re_blT (id := "any") g hm (by decide +kernel) hl (by
  intro pins s σ H xs us Q I rv ⟨ι, h, ys, q, ws, W, r, ev, hq, av, p⟩
  subst ev
  cases z : blsOf ys with
  | none => rw [z] at p; exact p.elim
  | some bs =>
    rw [z] at p
    have := bls_of av z
    subst this
    exact cr_any g.calm pins s σ H _ us Q I rv ⟨q, bs, rfl, SqL.of hq, p ι H _ Ext.refl r (.bl _)⟩) hg (by decide) (by decide) he
/-- a display as a made list -/
theorem rm_lst {es : List Expr} {l : LL} {pos : Pos} (hl : RL C X es l) : RM C X (.List es pos) (lDisp l) := fun W tk =>
  PE_imp (pe_lst (hl W tk)) fun σ H Q ⟨ι, h, ρ, r, en, Z, hZ, p⟩ => ⟨ι, h, ρ, r, en, (GPost.bnd (R := AvRs C) p).mono fun xs H1 ⟨ι1, h1, as, r1, e1, x1, p1⟩ => by
    by_cases z : as.length ≤ szl
    · rw [if_pos z] at p1
      refine ⟨by rw [← x1.length]; exact z, fun q hq => ?_⟩
      exact p1 ι1 _ (.ref q) (Ext.laid r1 hq) (r1.laid hq) ⟨q, xs, rfl, upd_same, r1.avs (Ext.laid r1 hq) x1, fun l hl => r1.off hq hl, fun zq => e1.dom q (hZ q zq) hq⟩
    · rw [if_neg z] at p1; exact p1.elim⟩

/-! ### texts -/
theorem strs_of {ι : Nat → Addr} {n : Nat} {H : Hp} : ∀ {xs : List AV} {ws : List V} {bs : List Str}, AvRs C ι n H xs ws → strsOf xs = some bs → ws = bs.map V.str
  | _, _, bs, .nil, e => by cases e; rfl
  | _, _, bs, .cons (x := x) a b, e => by
    cases a with
    | str k =>
      unfold strsOf at e
      cases z : strsOf _ with
      | none => rw [z] at e; cases e
      | some cs => rw [z] at e; cases e; rw [strs_of b z]; rfl
    | _ => cases e
theorem re_joinT {o e : Expr} {mo : EE} {l : LL} {apos pos : Pos} (g : Gd C X j) (ho : RE C X o mo) (hl : RM C X e l) (hs : starEach [e] X.env = [(false, eval e X.env)] := by rfl) (hbase : attributeBase o "join" X.env (eval o X.env) = eval o X.env := by rfl) (hline : (apos.endLine == pos.line) = true := by rfl) :
    RE C X (.Call (.Attribute o "join" apos) [e] [] pos) (eJoinT mo l) := fun W tk =>
  PE_imp (pe_join (ho W tk) (hl W tk) hs hbase hline) fun σ H Q ⟨ι, h, ρ, r, en, p⟩ => ⟨ι, h, ρ, r, en, (GPost.bnd (R := AvR C) p).mono fun x H1 ⟨ι1, h1, a, r1, e1, x1, p1⟩ => by
    have key : ∀ s : Str, a = .str s → x = .str s → (∃ a, x = V.str a) ∧ tM C l W σ H1 fun y H2 => ∃ a p, ∃ ys : List Str, x = .str a ∧ [y] = [.ref p] ∧ (SqL X.K H2 p (ys.map V.str) ∨ SqT X.K H2 p (ys.map V.str)) ∧ (ys.map (·.length)).sum + ys.length * a.length ≤ 16777216 ∧ Q (.str (PySem.Txt.join a ys)) H2 := fun s ea ex => by
      subst ea ex
      refine ⟨⟨s, rfl⟩, ι1, h1, ρ, r1, en.ext r e1, _, fun _ z => z.elim, (tmp_bnd (R' := AvR C) (ρ := ρ) (σ := σ) p1).mono fun y H2 ⟨ι2, h2, xs, r2, e2, ⟨q, vs, eb, hq, av, off⟩, p2⟩ => ?_⟩
      unfold joinS at p2
      cases z : strsOf xs with
      | none => rw [z] at p2; exact p2.elim
      | some ys =>
        rw [z] at p2
        dsimp only at p2
        have ev : vs = ys.map V.str := strs_of av z
        subst ev
        by_cases zz : (ys.map (·.length)).sum + ys.length * s.length ≤ 16777216
        · rw [if_pos zz] at p2
          exact ⟨s, q, ys, rfl, by rw [eb], .inl (SqL.of hq), zz, p2 ι2 H2 _ Ext.refl r2 (.str _)⟩
        · rw [if_neg zz] at p2; exact p2.elim
    cases x1 with
    | str s => exact key s rfl rfl
    | _ => exact p1.elim⟩
end
end PL
set_option maxRecDepth 100000
set_option maxHeartbeats 2000000
/-! Lift9: more texts, lists' methods, stores, dicts. -/
namespace PL
open PySem PySem.Spec PyProof.Rows L2 PA
section
variable {C : Cz} {X : Cx} {j : Nat}
theorem re_join {o e : Expr} {mo me : EE} {apos pos : Pos} (g : Gd C X j) (ho : RE C X o mo) (hl : RE C X e me) (hs : starEach [e] X.env = [(false, eval e X.env)] := by rfl) (hbase : attributeBase o "join" X.env (eval o X.env) = eval o X.env := by rfl) (hline : (apos.endLine == pos.line) = true := by rfl) :
    RE C X (.Call (.Attribute o "join" apos) [e] [] pos) (eJoin mo me) := fun W tk =>
  PE_imp (pe_join (ho W tk) (hl W tk) hs hbase hline) fun σ H Q ⟨ι, h, ρ, r, en, p⟩ => ⟨ι, h, ρ, r, en, (GPost.bnd (R := AvR C) p).mono fun x H1 ⟨ι1, h1, a, r1, e1, x1, p1⟩ => by
    cases x1 with
    | str s =>
      refine ⟨⟨s, rfl⟩, ι1, h1, ρ, r1, en.ext r e1, (GPost.bnd (R := AvR C) p1).mono fun y H2 ⟨ι2, h2, b, r2, e2, x2, p2⟩ => ?_⟩
      cases ze : seqOf h2 b with
      | none => rw [ze] at p2; exact p2.elim
      | some xs =>
        rw [ze] at p2
        dsimp only at p2
        obtain ⟨q, vs, rfl, sq, av⟩ := seq_of r2 x2 ze
        unfold joinS at p2
        cases z : strsOf xs with
        | none => rw [z] at p2; exact p2.elim
        | some ys =>
          rw [z] at p2
          dsimp only at p2
          have ev : vs = ys.map V.str := strs_of av z
          subst ev
          by_cases zz : (ys.map (·.length)).sum + ys.length * s.length ≤ 16777216
          · rw [if_pos zz] at p2
            exact ⟨s, q, ys, rfl, rfl, by rw [g.hK]; exact sq.elim .inr .inl, zz, p2 ι2 H2 _ Ext.refl r2 (.str _)⟩
          · rw [if_neg zz] at p2; exact p2.elim
    | _ => exact p1.elim⟩
theorem avr_strs {ι : Nat → Addr} {n : Nat} {H : Hp} : ∀ ys : List Str, AvRs C ι n H (ys.map AV.str) (ys.map V.str)
  | [] => .nil
  | y :: ys => .cons (.str y) (avr_strs ys)
theorem rm_split {o e : Expr} {mo me : EE} {apos pos : Pos} (ho : RE C X o mo) (he : RE C X e me) (hs : starEach [e] X.env = [(false, eval e X.env)] := by rfl) (hbase : attributeBase o "split" X.env (eval o X.env) = eval o X.env := by rfl) (hline : (apos.endLine == pos.line) = true := by rfl) :
    RM C X (.Call (.Attribute o "split" apos) [e] [] pos) (lSplit mo me) := fun W tk =>
  PE_imp (pe_split (ho W tk) (he W tk) hs hbase hline) fun σ H Q ⟨ι, h, ρ, r, en, Z, hZ, p⟩ => ⟨ι, h, ρ, r, en, (GPost.bnd (R := AvR C) p).mono fun x H1 ⟨ι1, h1, a, r1, e1, x1, p1⟩ => by
    cases x1 with
    | str s =>
      refine ⟨⟨s, rfl⟩, ι1, h1, ρ, r1, en.ext r e1, (GPost.bnd (R := AvR C) p1).mono fun y H2 ⟨ι2, h2, b, r2, e2, x2, p2⟩ => ?_⟩
      cases x2 with
      | str t =>
        dsimp only at p2
        by_cases z : (t.length == 0) = false ∧ s.length + 2 ≤ szl
        · rw [if_pos z] at p2
          refine ⟨s, t, rfl, rfl, z.1, z.2, fun q hq => ?_⟩
          exact p2 ι2 _ (.ref q) (Ext.laid r2 hq) (r2.laid hq) ⟨q, _, rfl, upd_same, avr_strs _, fun l hl => r2.off hq hl, fun zq => (e1.trans e2).dom q (hZ q zq) hq⟩
        · rw [if_neg z] at p2; exact p2.elim
      | _ => exact p2.elim
    | _ => exact p1.elim⟩
theorem re_fmt {e : Expr} {m : EE} {pos : Pos} (he : RE C X e m) : RE C X (.FormattedValue e (-1) none pos) (eFmt m) := fun W tk =>
  PE_imp (pe_fmt (he W tk)) fun σ H Q ⟨ι, h, ρ, r, en, p⟩ => ⟨ι, h, ρ, r, en, (GPost.bnd (R := AvR C) p).mono fun x H1 ⟨ι1, h1, a, r1, e1, x1, p1⟩ => by
    cases x1 with
    | str s =>
      dsimp only at p1
      by_cases z : s.length ≤ szl
      · rw [if_pos z] at p1; exact .inl ⟨s, rfl, z, p1 ι1 H1 _ Ext.refl r1 (.str _)⟩
      · rw [if_neg z] at p1; exact p1.elim
    | int i =>
      dsimp only at p1
      by_cases z : i.natAbs.log2 < 1920
      · rw [if_pos z] at p1; exact .inr ⟨i, rfl, z, p1 ι1 H1 _ Ext.refl r1 (.str _)⟩
      · rw [if_neg z] at p1; exact p1.elim
    | _ => exact p1.elim⟩
inductive RJ (C : Cz) (X : Cx) : List Expr → List EE → Prop
  | nil : RJ C X [] []
  | cons {e : Expr} {m : EE} {es : List Expr} {ms : List EE} (h : RE C X e m) (r : RJ C X es ms) : RJ C X (e :: es) (m :: ms)
theorem RJ.pj {es : List Expr} {ms : List EE} {W : WX} (tk : Takes X W) (h : RJ C X es ms) : PJ X es (ms.map fun m => tE C m W) := by
  induction h with
  | nil => exact .nil
  | cons h r ih => exact .cons (h W tk) ih
theorem tjs_imp {W : WX} {σ : L2.St} : ∀ (ms : List EE) (acc : Str) {ι : Nat → Addr} {h : PA.Heap} {ρ : PA.Env} {H : Hp} {Q : VK}, Rep C ι h H → EnR C ι h.length H ρ σ → GPost C (AvR C) ι h H Q (fun c d H' => W c d σ H') (fJoin ms acc ρ h) → tJs (ms.map fun m => tE C m W) acc σ H fun out H1 => Q (.str out) H1
  | [], acc, ι, h, ρ, H, Q, r, en, p => p ι H _ Ext.refl r (.str acc)
  | m :: ms, acc, ι, h, ρ, H, Q, r, en, p => by
    refine ⟨ι, h, ρ, r, en, (GPost.bnd (R := AvR C) p).mono fun x H1 ⟨ι1, h1, a, r1, e1, x1, p1⟩ => ?_⟩
    cases x1 with
    | str y =>
      dsimp only at p1
      by_cases z : (acc ++ y).length ≤ szl
      · rw [if_pos z] at p1
        exact ⟨y, rfl, z, tjs_imp ms (acc ++ y) r1 (en.ext r e1) p1⟩
      · rw [if_neg z] at p1; exact p1.elim
    | _ => exact p1.elim
theorem re_fstr {v1 v2 : Expr} {rest : List Expr} {ms : List EE} {pos : Pos} (h : RJ C X (v1 :: v2 :: rest) ms) : RE C X (.JoinedStr (v1 :: v2 :: rest) pos) (eFStr ms) := fun W tk =>
  PE_imp (pe_joined (h.pj tk)) fun σ H Q ⟨ι, h, ρ, r, en, p⟩ => tjs_imp ms _ r en p

/-! ### methods of built-ins -/
def MrA (C : Cz) (X : Cx) (id : String) (M : MM) : Prop := MtR X id (fun x vs H Q => ∃ ι h a as W, Rep C ι h H ∧ AvR C ι h.length H a x ∧ AvRs C ι h.length H as vs ∧ GPost C (AvR C) ι h H Q W (M a as h))
theorem tyl_of {ι : Nat → Addr} {h : PA.Heap} {H : Hp} {a : AV} {x : V} (r : Rep C ι h H) (xa : AvR C ι h.length H a x) (z : isLst h a = true) : tyV X.K "list" x H := by
  cases xa with
  | @loc l hl =>
    unfold isLst at z
    dsimp only at z
    cases e : h[l]? with
    | none => rw [e] at z; cases z
    | some o =>
      rw [e] at z
      cases o with
      | lst xs => obtain ⟨vs, hv, _⟩ := lst_at r e; exact .inl ⟨rfl, vs, SqL.of hv⟩
      | _ => cases z
  | _ => cases z
/-- xs.m(e, ..), xs a list of ours -/
theorem re_lm {o e : Expr} {es : List Expr} {mo : EE} {l : LL} {name : Str} {id : String} {M : MM} {apos cpos : Pos} (slot : Slot "list" name id) (hty : typeOf (.builtin id) = pure (.type "method_descriptor")) (hm : MtM X id fun x vs H Q => ∃ ι h a as W, Rep C ι h H ∧ AvR C ι h.length H a x ∧ AvRs C ι h.length H as vs ∧ GPost C (AvR C) ι h H Q W (M a as h))
    (ho : RE C X o mo) (hl : RL C X (e :: es) l) (hbase : attributeBase o name X.env (eval o X.env) = eval o X.env := by rfl)
    (hfew : ((backTo cpos (starEach (e :: es) X.env)).all (fun x => !x.1) && (backToKw cpos (keywordEach [] X.env)).all (fun x => x.1.isSome)
      && decide ((e :: es).length + ([] : List Keyword).length + (if ([] : List Keyword).isEmpty then 0 else 1) < 30)) = true := by rfl)
    (hline : (apos.endLine == cpos.line) = true := by rfl) (hs : starEach (e :: es) X.env = (false, eval e X.env) :: starEach es X.env := by rfl) (hplain : (backTo cpos (starEach es X.env)).any (·.1) = false := by rfl) :
    RE C X (.Call (.Attribute o name apos) (e :: es) [] cpos) (eLm M mo l) := fun W tk =>
  PE_imp (pe_bm PySem.F.plainAttrs_list slot hty hm (ho W tk) (hl W tk) hbase hfew hline hs hplain) fun σ H Q ⟨ι, h, ρ, r, en, p⟩ => ⟨ι, h, ρ, r, en, (GPost.bnd (R := AvR C) p).mono fun x H1 ⟨ι1, h1, a, r1, e1, x1, p1⟩ => by
    by_cases z : isLst h1 a = true
    · rw [if_pos z] at p1
      exact ⟨tyl_of r1 x1 z, ι1, h1, ρ, r1, en.ext r e1, (GPost.bnd (R := AvRs C) p1).mono fun xs H2 ⟨ι2, h2, as, r2, e2, x2, p2⟩ => ⟨ι2, h2, a, as, _, r2, r1.av e2 x1, x2, p2⟩⟩
    · rw [if_neg z] at p1; exact p1.elim⟩
end
end PL
set_option maxRecDepth 100000
set_option maxHeartbeats 2000000
/-! Lift10: list methods' rules, stores, dicts. -/
namespace PL
open PySem PySem.Spec PyProof.Rows L2 PA
section
variable {C : Cz} {X : Cx} {j : Nat}
abbrev MmA (C : Cz) (X : Cx) (id : String) (M : MM) : Prop := MtM X id fun x vs H Q => ∃ ι h a as W, Rep C ι h H ∧ AvR C ι h.length H a x ∧ AvRs C ι h.length H as vs ∧ GPost C (AvR C) ι h H Q W (M a as h)
theorem mm_append : MmA C X "list.append" mAppend := by
  intro pins s σ H x vs v us Q I rx rv ⟨ι, h, a, as, W, r, xa, xs, p⟩
  cases xa with
  | @loc l hl =>
    cases xs with
    | nil => exact p.elim
    | cons a1 b1 =>
      cases b1 with
      | cons _ _ => exact p.elim
      | nil =>
        rename_i a0 v0
        unfold mAppend at p
        dsimp only at p
        cases e : h[l]? with
        | none => rw [e] at p; exact p.elim
        | some o =>
          cases o with
          | lst ys =>
            rw [e] at p
            dsimp only at p
            by_cases z : ys.length < szl
            · rw [if_pos z] at p
              obtain ⟨ws, hv, av⟩ := lst_at r e
              obtain ⟨ex, r2⟩ := chg_lst r e (av.append (.cons a1 .nil))
              exact mt_append pins s σ H _ _ v us Q I rx rv ⟨_, ws, v0, rfl, rfl, hv, by rw [← av.length]; exact z, p ι _ .non ex r2 .non⟩
            · rw [if_neg z] at p; exact p.elim
          | _ => rw [e] at p; exact p.elim
  | _ => cases xs with
    | nil => exact p.elim
    | cons a1 b1 => cases b1 <;> exact p.elim
theorem mm_extend : MmA C X "list.extend" mExtend := by
  intro pins s σ H x vs v us Q I rx rv ⟨ι, h, a, as, W, r, xa, xs, p⟩
  cases xa with
  | @loc l hl =>
    cases xs with
    | nil => exact p.elim
    | cons a1 b1 =>
      cases b1 with
      | cons _ _ => cases a1 <;> exact p.elim
      | nil =>
        cases a1 with
        | @loc k hk =>
          unfold mExtend at p
          dsimp only at p
          cases e : h[l]? with
          | none => rw [e] at p; exact p.elim
          | some o =>
            cases o with
            | lst ys =>
              cases e2 : h[k]? with
              | none => rw [e, e2] at p; exact p.elim
              | some o2 =>
                cases o2 with
                | lst zs =>
                  rw [e, e2] at p
                  dsimp only at p
                  by_cases z : ys.length + zs.length ≤ szl
                  · rw [if_pos z] at p
                    obtain ⟨ws, hv, av⟩ := lst_at r e
                    obtain ⟨ws2, hv2, av2⟩ := lst_at r e2
                    obtain ⟨ex, r2⟩ := chg_lst r e (av.append av2)
                    exact mt_extend pins s σ H _ _ v us Q I rx rv ⟨_, _, ws, ws2, rfl, rfl, hv, hv2, by rw [← av.length, ← av2.length]; exact z, p ι _ .non ex r2 .non⟩
                  · rw [if_neg z] at p; exact p.elim
                | _ => rw [e, e2] at p; exact p.elim
            | _ => rw [e] at p; exact p.elim
        | _ => exact p.elim
  | _ => cases xs with
    | nil => exact p.elim
    | cons a1 b1 => cases b1 <;> exact p.elim
theorem re_extT {o e : Expr} {mo : EE} {l : LL} {apos cpos : Pos} (ho : RE C X o mo) (hl : RM C X e l) (hbase : attributeBase o "extend" X.env (eval o X.env) = eval o X.env := by rfl)
    (hfew : ((backTo cpos (starEach [e] X.env)).all (fun x => !x.1) && (backToKw cpos (keywordEach [] X.env)).all (fun x => x.1.isSome)
      && decide (([e] : List Expr).length + ([] : List Keyword).length + (if ([] : List Keyword).isEmpty then 0 else 1) < 30)) = true := by rfl)
    (hline : (apos.endLine == cpos.line) = true := by rfl) (hs : starEach [e] X.env = (false, eval e X.env) :: starEach [] X.env := by rfl) (hplain : (backTo cpos (starEach [] X.env)).any (·.1) = false := by rfl) :
    RE C X (.Call (.Attribute o "extend" apos) [e] [] cpos) (eExtT mo l) := fun W tk =>
  PE_imp (pe_bm PySem.F.plainAttrs_list PySem.F.slot_list_extend PySem.F.type_list_extend mt_extend (ho W tk) (pa_cons (hl W tk) pa_nil hs) hbase hfew hline hs hplain) fun σ H Q ⟨ι, h, ρ, r, en, p⟩ => ⟨ι, h, ρ, r, en, (GPost.bnd (R := AvR C) p).mono fun x H1 ⟨ι1, h1, a, r1, e1, x1, p1⟩ => by
    by_cases z : PA.isLst h1 a = true
    · rw [if_pos z] at p1
      refine ⟨tyl_of r1 x1 z, ι1, h1, ρ, r1, en.ext r e1, _, fun _ z => z.elim, (tmp_bnd (R' := AvR C) (ρ := ρ) (σ := σ) p1).mono fun y H2 ⟨ι2, h2, xs, r2, e2, ⟨q, vs, eb, hq, av, off⟩, p2⟩ => ?_⟩
      have x2 := r1.av e2 x1
      cases x2 with
      | @loc l' hl' =>
        unfold mExtendT at p2
        dsimp only at p2
        cases ee : h2[l']? with
        | none => rw [ee] at p2; exact p2.elim
        | some o =>
          cases o with
          | lst ys =>
            rw [ee] at p2
            dsimp only at p2
            by_cases zz : ys.length + xs.length ≤ szl
            · rw [if_pos zz] at p2
              obtain ⟨ws, hv, av'⟩ := lst_at r2 ee
              obtain ⟨ex, r3⟩ := chg_lst r2 ee (av'.append av)
              exact ⟨_, q, ws, vs, rfl, by rw [eb], hv, hq, by rw [← av'.length, ← av.length]; exact zz, p2 ι2 _ .non ex r3 .non⟩
            · rw [if_neg zz] at p2; exact p2.elim
          | _ => rw [ee] at p2; exact p2.elim
      | _ => cases z
    · rw [if_neg z] at p1; exact p1.elim⟩

/-! ### xs[i] = e -/
theorem rs_ix {o i e : Expr} {mo mi me : EE} {tpos pos : Pos} (he : RE C X e me) (ho : RE C X o mo) (hi : RE C X i mi)
    (ha : ∀ v, assign (.Subscript o i tpos) X.env v = (do
      let ov ← holding [v] (eval o X.env)
      let iv ← holding [v, ov] (eval i X.env)
      standAt tpos
      holding [v, ov, iv] (setItem ov iv v)
      release [v, ov, iv] []) := by intro _; rfl) (hs : swapsWithSole [.Subscript o i tpos] e pos.line X.env = pure false := by rfl) (hw : swappedStores [.Subscript o i tpos] e X.env = pure none := by rfl)
    (h1 : (assignEach [.Subscript o i tpos] X.env).map (·.2) = [assign (.Subscript o i tpos) X.env] := by rfl) : RS C X (.Assign [.Subscript o i tpos] e pos) (sIx mo mi me) := fun W tk =>
  PS_imp (ps_asg (he W tk) (pg_sub (ho W tk) (hi W tk) set_list ha) hs hw h1) fun D σ H ⟨ι, h, ρ, r, en, p⟩ => ⟨ι, h, ρ, r, en, (SPost.bnd (R := AvR C) r en p).mono fun x H1 ⟨ι1, h1, a, r1, e1, x1, p1⟩ =>
    ⟨ι1, h1, ρ, r1, en.ext r e1, (SPost.bnd (R := AvR C) r1 (en.ext r e1) p1).mono fun y H2 ⟨ι2, h2, b, r2, e2, x2, p2⟩ =>
      ⟨ι2, h2, ρ, r2, (en.ext r e1).ext r1 e2, (SPost.bnd (R := AvR C) r2 ((en.ext r e1).ext r1 e2) p2).mono fun z H3 ⟨ι3, h3, c, r3, e3, x3, p3⟩ => by
        have x2' := r2.av e3 x2
        have xa := r2.av e3 (r1.av e2 x1)
        cases x2' with
        | @loc l hl =>
          cases x3 with
          | int k =>
            dsimp only at p3
            cases ee : h3[l]? with
            | none => rw [ee] at p3; exact p3.elim
            | some o =>
              cases o with
              | lst ys =>
                rw [ee] at p3
                dsimp only at p3
                cases en3 : PA.ixN ys.length k with
                | none => rw [en3] at p3; exact p3.elim
                | some m =>
                  rw [en3] at p3
                  obtain ⟨ws, hv, av⟩ := lst_at r3 ee
                  obtain ⟨ex, r4⟩ := chg_lst r3 ee (av.set xa m)
                  refine ⟨_, ws, k, m, rfl, rfl, hv, by rw [← av.length]; exact en3, p3 ι3 _ σ ex r4 ?_⟩
                  exact (((en.ext r e1).ext r1 e2).ext r2 e3).ext r3 ex
              | _ => rw [ee] at p3; exact p3.elim
          | _ => exact p3.elim
        | _ => exact p3.elim⟩⟩⟩

/-! ### dicts -/
theorem key_kv {ι : Nat → Addr} {n : Nat} {H : Hp} {a : AV} {x : V} (xa : AvR C ι n H a x) (z : isKey a = true) : ∃ k : Key, x = kV k ∧ ((∃ i, a = .int i ∧ k = .inl i) ∨ ∃ s, a = .str s ∧ k = .inr s) := by
  cases xa with
  | int i => exact ⟨.inl i, rfl, .inl ⟨i, rfl, rfl⟩⟩
  | str s => exact ⟨.inr s, rfl, .inr ⟨s, rfl, rfl⟩⟩
  | _ => cases z
/-- a key and its abstract key -/
inductive KR : AV → Key → Prop
  | int (i : Int) : KR (.int i) (.inl i)
  | str (s : Str) : KR (.str s) (.inr s)
theorem KR.of {ι : Nat → Addr} {n : Nat} {H : Hp} {a : AV} {x : V} (xa : AvR C ι n H a x) (z : isKey a = true) : ∃ k : Key, x = kV k ∧ KR a k := by
  cases xa with
  | int i => exact ⟨.inl i, rfl, .int i⟩
  | str s => exact ⟨.inr s, rfl, .str s⟩
  | _ => cases z
theorem KR.eq {a b : AV} {k l : Key} (p : KR a k) (q : KR b l) : keyEq a b = decide (k = l) := by
  cases p <;> cases q
  · rename_i i i'
    show decide (i = i') = decide ((Sum.inl i : Key) = Sum.inl i')
    by_cases e : i = i' <;> simp [e]
  · rfl
  · rfl
  · rename_i i i'
    show decide (i = i') = decide ((Sum.inr i : Key) = Sum.inr i')
    by_cases e : i = i' <;> simp [e]
theorem KsR.get {ι : Nat → Addr} {n : Nat} {H : Hp} {kvs : List (AV × AV)} {ks : List (Key × V)} (r : KsR C ι n H kvs ks) {a : AV} {k : Key} (q : KR a k) : (dGet kvs a = none ∧ valV ks k = none) ∨ ∃ x v, dGet kvs a = some x ∧ valV ks k = some v ∧ AvR C ι n H x v := by
  induction r with
  | nil => exact .inl ⟨rfl, rfl⟩
  | @int i x v fs gs h t ih =>
    unfold dGet valV
    rw [List.find?_cons, List.find?_cons, KR.eq (.int i) q]
    cases decide ((Sum.inl i : Key) = k) with
    | true => exact .inr ⟨x, v, rfl, rfl, h⟩
    | false => exact ih
  | @str i x v fs gs h t ih =>
    unfold dGet valV
    rw [List.find?_cons, List.find?_cons, KR.eq (.str i) q]
    cases decide ((Sum.inr i : Key) = k) with
    | true => exact .inr ⟨x, v, rfl, rfl, h⟩
    | false => exact ih
theorem KsR.any {ι : Nat → Addr} {n : Nat} {H : Hp} {kvs : List (AV × AV)} {ks : List (Key × V)} (r : KsR C ι n H kvs ks) {a : AV} {k : Key} (q : KR a k) : (kvs.any fun p => keyEq p.1 a) = ks.any fun p => decide (p.1 = k) := by
  induction r with
  | nil => rfl
  | @int i x v fs gs h t ih => rw [List.any_cons, List.any_cons, ih, KR.eq (.int i) q]
  | @str i x v fs gs h t ih => rw [List.any_cons, List.any_cons, ih, KR.eq (.str i) q]
theorem KsR.snoc {ι : Nat → Addr} {n : Nat} {H : Hp} {kvs : List (AV × AV)} {ks : List (Key × V)} (r : KsR C ι n H kvs ks) {a : AV} {k : Key} {x : AV} {v : V} (q : KR a k) (xv : AvR C ι n H x v) : KsR C ι n H (kvs ++ [(a, x)]) (ks ++ [(k, v)]) := by
  induction r with
  | nil => cases q with
    | int i => exact .int xv .nil
    | str i => exact .str xv .nil
  | int h t ih => exact .int h ih
  | str h t ih => exact .str h ih
theorem KsR.mapPut {ι : Nat → Addr} {n : Nat} {H : Hp} {kvs : List (AV × AV)} {ks : List (Key × V)} (r : KsR C ι n H kvs ks) {a : AV} {k : Key} {x : AV} {v : V} (q : KR a k) (xv : AvR C ι n H x v) :
    KsR C ι n H (kvs.map fun p => if keyEq p.1 a = true then (p.1, x) else p) (ks.map fun p => if p.1 = k then (p.1, v) else p) := by
  induction r with
  | nil => exact .nil
  | @int i y w fs gs h t ih =>
    rw [List.map_cons, List.map_cons, KR.eq (.int i) q]
    by_cases e : (Sum.inl i : Key) = k
    · rw [if_pos (decide_eq_true e), if_pos e]; exact .int xv ih
    · rw [if_neg (by simpa using e), if_neg e]; exact .int h ih
  | @str i y w fs gs h t ih =>
    rw [List.map_cons, List.map_cons, KR.eq (.str i) q]
    by_cases e : (Sum.inr i : Key) = k
    · rw [if_pos (decide_eq_true e), if_pos e]; exact .str xv ih
    · rw [if_neg (by simpa using e), if_neg e]; exact .str h ih
theorem KsR.put {ι : Nat → Addr} {n : Nat} {H : Hp} {kvs : List (AV × AV)} {ks : List (Key × V)} (r : KsR C ι n H kvs ks) {a : AV} {k : Key} {x : AV} {v : V} (q : KR a k) (xv : AvR C ι n H x v) : KsR C ι n H (dPut kvs a x) (putK ks k v) := by
  unfold dPut putK
  rw [r.any q]
  by_cases z : (ks.any fun p => decide (p.1 = k)) = true
  · rw [if_pos z, if_pos z]; exact r.mapPut q xv
  · rw [if_neg z, if_neg z]; exact r.snoc q xv
theorem re_dget {o i : Expr} {mo mi : EE} {pos : Pos} (g : Gd C X j) (ho : RE C X o mo) (hi : RE C X i mi) (hs : NoSl i := by exact fun _ _ => rfl) : RE C X (.Subscript o i pos) (eBin oDGet mo mi) := fun W tk =>
  PE_imp (pe_dget (hu_of g.room) (ho W tk) (hi W tk) hs) fun σ H Q q => by
    obtain ⟨ι, h, ρ, r, en, hx⟩ := bin_imp q
    refine ⟨ι, h, ρ, r, en, hx.mono fun x H1 ⟨ι1, h1, ρ1, r1, en1, hy⟩ => ⟨ι1, h1, ρ1, r1, en1, hy.mono fun y H2 ⟨ι2, h2, a, b, W2, r2, xa, xb, p2⟩ => ?_⟩⟩
    unfold oDGet at p2
    cases e : dctOf h2 a with
    | none => rw [e] at p2; exact p2.elim
    | some kvs =>
      rw [e] at p2
      dsimp only at p2
      by_cases z : isKey b = true
      · rw [if_pos z] at p2
        obtain ⟨q', ks, rfl, rd, kr⟩ := dct_of r2 xa e
        obtain ⟨k, rfl, kk⟩ := KR.of xb z
        rcases kr.get kk with ⟨g1, g2⟩ | ⟨w, v, g1, g2, g3⟩
        · rw [g1] at p2; exact p2.elim
        · rw [g1] at p2
          exact ⟨q', v, rfl, .inl ⟨ks, k, rd, rfl, g2.symm⟩, p2 ι2 H2 v Ext.refl r2 g3⟩
      · rw [if_neg z] at p2; exact p2.elim
end
end PL
set_option maxRecDepth 100000
set_option maxHeartbeats 2000000
/-! Lift11: dicts further, the module's dicts, x += e. -/
namespace PL
open PySem PySem.Spec PyProof.Rows L2 PA
section
variable {C : Cz} {X : Cx} {j : Nat}
theorem din_imp {mo mi : EE} {W : WX} {σ : L2.St} {H : Hp} {Q : VK} (q : tE C (eBin oDIn mi mo) W σ H Q) : tDIn (tE C mi W) (tE C mo W) σ H Q := by
  obtain ⟨ι, h, ρ, r, en, hx⟩ := bin_imp q
  refine ⟨ι, h, ρ, r, en, hx.mono fun y H1 ⟨ι1, h1, ρ1, r1, en1, hy⟩ => ⟨ι1, h1, ρ1, r1, en1, hy.mono fun x H2 ⟨ι2, h2, b, a, W2, r2, xb, xa, p2⟩ => ?_⟩⟩
  unfold oDIn at p2
  cases e : dctOf h2 a with
  | none => rw [e] at p2; exact p2.elim
  | some kvs =>
    rw [e] at p2
    dsimp only at p2
    by_cases z : isKey b = true
    · rw [if_pos z] at p2
      obtain ⟨q', ks, rfl, rd, kr⟩ := dct_of r2 xa e
      obtain ⟨k, rfl, kk⟩ := KR.of xb z
      refine ⟨q', valV ks k, rfl, .inl ⟨ks, k, rd, rfl, rfl⟩, ?_⟩
      have : (valV ks k).isSome = (dGet kvs b).isSome := by
        rcases kr.get kk with ⟨g1, g2⟩ | ⟨w, v, g1, g2, g3⟩ <;> rw [g1, g2] <;> rfl
      rw [this]
      exact p2 ι2 H2 _ Ext.refl r2 (.bl _)
    · rw [if_neg z] at p2; exact p2.elim
theorem dnotin_imp {mo mi : EE} {W : WX} {σ : L2.St} {H : Hp} {Q : VK} (q : tE C (eBin oDNotIn mi mo) W σ H Q) : tDNotIn (tE C mi W) (tE C mo W) σ H Q := by
  obtain ⟨ι, h, ρ, r, en, hx⟩ := bin_imp q
  refine ⟨ι, h, ρ, r, en, hx.mono fun y H1 ⟨ι1, h1, ρ1, r1, en1, hy⟩ => ⟨ι1, h1, ρ1, r1, en1, hy.mono fun x H2 ⟨ι2, h2, b, a, W2, r2, xb, xa, p2⟩ => ?_⟩⟩
  unfold oDNotIn at p2
  cases e : dctOf h2 a with
  | none => rw [e] at p2; exact p2.elim
  | some kvs =>
    rw [e] at p2
    dsimp only at p2
    by_cases z : isKey b = true
    · rw [if_pos z] at p2
      obtain ⟨q', ks, rfl, rd, kr⟩ := dct_of r2 xa e
      obtain ⟨k, rfl, kk⟩ := KR.of xb z
      refine ⟨q', valV ks k, rfl, .inl ⟨ks, k, rd, rfl, rfl⟩, ?_⟩
      have : (valV ks k).isSome = (dGet kvs b).isSome := by
        rcases kr.get kk with ⟨g1, g2⟩ | ⟨w, v, g1, g2, g3⟩ <;> rw [g1, g2] <;> rfl
      rw [this]
      exact p2 ι2 H2 _ Ext.refl r2 (.bl _)
    · rw [if_neg z] at p2; exact p2.elim
theorem re_din {o i : Expr} {mo mi : EE} {pos : Pos} (g : Gd C X j) (hi : RE C X i mi) (ho : RE C X o mo) (h1 : behindInMarks .In o = false := by with_unfolding_all rfl) : RE C X (.Compare i [.In] [o] pos) (eBin oDIn mi mo) := fun W tk =>
  PE_imp (pe_cmp (pc_din (hu_of g.room) (hi W tk) (ho W tk)) h1) fun σ H Q q => din_imp q
theorem re_dnotin {o i : Expr} {mo mi : EE} {pos : Pos} (g : Gd C X j) (hi : RE C X i mi) (ho : RE C X o mo) (h1 : behindInMarks .NotIn o = false := by with_unfolding_all rfl) : RE C X (.Compare i [.NotIn] [o] pos) (eBin oDNotIn mi mo) := fun W tk =>
  PE_imp (pe_cmp (pc_dnotin (hu_of g.room) (hi W tk) (ho W tk)) h1) fun σ H Q q => dnotin_imp q
theorem rt_din {o i : Expr} {mo mi : EE} {pos : Pos} (g : Gd C X j) (hi : RE C X i mi) (ho : RE C X o mo) (h1 : behindInMarks .In o = false := by with_unfolding_all rfl) : RT C X (.Compare i [.In] [o] pos) (tB (eBin oDIn mi mo)) := fun W tk =>
  PT_imp (pt_cmp (pc_din (hu_of g.room) (hi W tk) (ho W tk)) h1) fun σ H Q q => din_imp (tB_imp q)
theorem rt_dnotin {o i : Expr} {mo mi : EE} {pos : Pos} (g : Gd C X j) (hi : RE C X i mi) (ho : RE C X o mo) (h1 : behindInMarks .NotIn o = false := by with_unfolding_all rfl) : RT C X (.Compare i [.NotIn] [o] pos) (tB (eBin oDNotIn mi mo)) := fun W tk =>
  PT_imp (pt_cmp (pc_dnotin (hu_of g.room) (hi W tk) (ho W tk)) h1) fun σ H Q q => dnotin_imp (tB_imp q)
theorem dct_at {ι : Nat → Addr} {h : PA.Heap} {H : Hp} {l : Nat} {kvs : List (AV × AV)} (r : Rep C ι h H) (e : h[l]? = some (.dct kvs)) : ∃ ks, H (ι l) = some (.dK ks) ∧ KsR C ι h.length H kvs ks := r.at_ l _ e
theorem chg_dct {ι : Nat → Addr} {h : PA.Heap} {H : Hp} {l : Nat} {xs ys : List (AV × AV)} {ws : List (Key × V)} (r : Rep C ι h H) (e : h[l]? = some (.dct xs)) (q : KsR C ι h.length H ys ws) :
    Ext ι h.length H ι (h.set l (.dct ys)).length (upd H (ι l) (.dK ws)) ∧ Rep C ι (h.set l (.dct ys)) (upd H (ι l) (.dK ws)) := by
  have hl := (List.getElem?_eq_some_iff.mp e).1
  obtain ⟨vs, hv, _⟩ := dct_at r e
  have nf : ∀ o u, H (ι l) ≠ some (.frz o u) := fun o u z => by rw [hv] at z; cases z
  have ex := Ext.chg (u := .dK ws) r hl nf
  exact ⟨by rw [List.length_set]; exact ex, r.chg hl nf ⟨ws, upd_same, r.ksr ex q⟩⟩
theorem rs_dput {o i e : Expr} {mo mi me : EE} {tpos pos : Pos} (g : Gd C X j) (he : RE C X e me) (ho : RE C X o mo) (hi : RE C X i mi) (hs : swapsWith e (some (.Subscript o i tpos)) pos.line X.env = pure false := by rfl) : RS C X (.Assign [.Subscript o i tpos] e pos) (sDPut mo mi me) := fun W tk =>
  PS_imp (ps_dput (hu_of g.room) (ho W tk) (hi W tk) (he W tk) hs) fun D σ H ⟨ι, h, ρ, r, en, p⟩ => ⟨ι, h, ρ, r, en, (SPost.bnd (R := AvR C) r en p).mono fun x H1 ⟨ι1, h1, a, r1, e1, x1, p1⟩ =>
    ⟨ι1, h1, ρ, r1, en.ext r e1, (SPost.bnd (R := AvR C) r1 (en.ext r e1) p1).mono fun y H2 ⟨ι2, h2, b, r2, e2, x2, p2⟩ =>
      ⟨ι2, h2, ρ, r2, (en.ext r e1).ext r1 e2, (SPost.bnd (R := AvR C) r2 ((en.ext r e1).ext r1 e2) p2).mono fun z H3 ⟨ι3, h3, c, r3, e3, x3, p3⟩ => by
        have x2' := r2.av e3 x2
        have xa := r2.av e3 (r1.av e2 x1)
        cases x2' with
        | @loc l hl =>
          dsimp only at p3
          cases ee : h3[l]? with
          | none => rw [ee] at p3; exact p3.elim
          | some o =>
            cases o with
            | dct ys =>
              rw [ee] at p3
              dsimp only at p3
              by_cases zz : isKey c = true ∧ ys.length < 100000
              · rw [if_pos zz] at p3
                obtain ⟨ws, hv, kr⟩ := dct_at r3 ee
                obtain ⟨k, rfl, kk⟩ := KR.of x3 zz.1
                obtain ⟨ex, r4⟩ := chg_dct r3 ee (kr.put kk xa)
                have hz : ws.length < sizeLine := by
                  rw [← kr.length, sizeLine_eq]
                  have := zz.2
                  omega
                exact ⟨_, _, rfl, DPut.k hv hz, p3 ι3 _ σ ex r4 ((((en.ext r e1).ext r1 e2).ext r2 e3).ext r3 ex)⟩
              · rw [if_neg zz] at p3; exact p3.elim
            | _ => rw [ee] at p3; exact p3.elim
        | _ => exact p3.elim⟩⟩⟩
theorem re_newD {pos : Pos} : RE C X (.Dict [] [] pos) eNewD := fun W tk =>
  PE_imp pe_dnewK fun σ H Q ⟨ι, h, ρ, r, en, p⟩ => fun q hq => by
    have e2 := Ext.grow (o := .dK []) r hq
    have key := p (put1 ι h.length q) _ (.ref q) (by rw [List.length_append]; exact e2) (r.grow (ao := .dct []) hq ⟨[], upd_same, .nil⟩) (by
      have t : AvR C (put1 ι h.length q) (h ++ [AO.dct []]).length (upd H q (.dK [])) (.loc h.length) (.ref (put1 ι h.length q h.length)) := .loc (by simp)
      rw [put1_same] at t
      exact t)
    exact key

/-! ### a dict of the module -/
/-- the dict at the global x: its pairs -/
structure KdA (C : Cz) (x : Str) (kvs : List (Str × AV)) : Prop where
  ex : ∃ d es n, C.mg x = some (.ref d) ∧ KDict C.K C.w d es n ∧ ∀ z, (kvs.lookup z = none ∧ PySem.W.nsIn C.K d z = some none) ∨
    ∃ a u v, kvs.lookup z = some a ∧ PySem.W.nsIn C.K d z = some (some u) ∧ RelV v u ∧ ∀ ι n H, AvR C ι n H a v
theorem kd_transport {K : PySem.W.Frag} {w : World} {d : Addr} {es : Array DictEntry} {n : Nat} {K' : PySem.W.Frag} {w' : World} (h : KDict K w d es n) (e : K' = K) (e' : w' = w) : KDict K' w' d es n := by subst e e'; exact h
/-- the module's dict is named -/
theorem ev_glob {x : Str} {d : Addr} {pos : Pos} (g : Gd C X j) (hm : C.mg x = some (.ref d)) (hg : Gl X x) (hd : (x == ("__debug__" : Str)) = false) : PE X (.Name x pos) (tC (.ref d)) := pe_glob hg (by rw [g.hm]; exact hm) rfl hd
theorem re_kin {x : Str} {kvs : List (Str × AV)} {e : Expr} {m : EE} {p pos : Pos} (g : Gd C X j) (K : KdA C x kvs) (he : RE C X e m) (hg : Gl X x := by rfl) (hd : (x == ("__debug__" : Str)) = false := by decide)
    (hm : behindInMarks .In (.Name x p) = false := by with_unfolding_all rfl) : RE C X (.Compare e [.In] [.Name x p] pos) (eBin (oKIn kvs) m (eC (.gl "?"))) := fun W tk => by
  obtain ⟨d, es, n, hmg, D, look⟩ := K.ex
  have D' := kd_transport D g.hK g.hw
  refine PE_imp (pe_cmpR (op_in_kd D') (he W tk) (ev_glob g hmg hg hd) hm) fun σ H Q ⟨ι, h, ρ, r, en, p⟩ => ⟨ι, h, ρ, r, en, (GPost.bnd (R := AvR C) p).mono fun y H1 ⟨ι1, h1, a, r1, e1, x1, p1⟩ => ?_⟩
  cases x1 with
  | str z =>
    have p2 : GPost C (AvR C) ι1 h1 H1 Q (fun c d H' => W c d σ H') (.ok (.bl (kvs.lookup z).isSome) h1) := p1
    rw [g.hK]
    rcases look z with ⟨l1, l2⟩ | ⟨a, u, v, l1, l2, _⟩
    · rw [l1] at p2; exact ⟨z, none, rfl, rfl, l2, p2 ι1 H1 _ Ext.refl r1 (.bl _)⟩
    · rw [l1] at p2; exact ⟨z, some u, rfl, rfl, l2, p2 ι1 H1 _ Ext.refl r1 (.bl _)⟩
  | _ => exact p1.elim
theorem re_knotin {x : Str} {kvs : List (Str × AV)} {e : Expr} {m : EE} {p pos : Pos} (g : Gd C X j) (K : KdA C x kvs) (he : RE C X e m) (hg : Gl X x := by rfl) (hd : (x == ("__debug__" : Str)) = false := by decide)
    (hm : behindInMarks .NotIn (.Name x p) = false := by with_unfolding_all rfl) : RE C X (.Compare e [.NotIn] [.Name x p] pos) (eBin (oKNotIn kvs) m (eC (.gl "?"))) := fun W tk => by
  obtain ⟨d, es, n, hmg, D, look⟩ := K.ex
  have D' := kd_transport D g.hK g.hw
  refine PE_imp (pe_cmpR (op_notIn_kd D') (he W tk) (ev_glob g hmg hg hd) hm) fun σ H Q ⟨ι, h, ρ, r, en, p⟩ => ⟨ι, h, ρ, r, en, (GPost.bnd (R := AvR C) p).mono fun y H1 ⟨ι1, h1, a, r1, e1, x1, p1⟩ => ?_⟩
  cases x1 with
  | str z =>
    have p2 : GPost C (AvR C) ι1 h1 H1 Q (fun c d H' => W c d σ H') (.ok (.bl (!(kvs.lookup z).isSome)) h1) := p1
    rw [g.hK]
    rcases look z with ⟨l1, l2⟩ | ⟨a, u, v, l1, l2, _⟩
    · rw [l1] at p2; exact ⟨z, none, rfl, rfl, l2, p2 ι1 H1 _ Ext.refl r1 (.bl _)⟩
    · rw [l1] at p2; exact ⟨z, some u, rfl, rfl, l2, p2 ι1 H1 _ Ext.refl r1 (.bl _)⟩
  | _ => exact p1.elim
theorem rt_knotin {x : Str} {kvs : List (Str × AV)} {e : Expr} {m : EE} {p pos : Pos} (g : Gd C X j) (K : KdA C x kvs) (he : RE C X e m) (hg : Gl X x := by rfl) (hd : (x == ("__debug__" : Str)) = false := by decide)
    (hm : behindInMarks .NotIn (.Name x p) = false := by with_unfolding_all rfl) : RT C X (.Compare e [.NotIn] [.Name x p] pos) (tB (eBin (oKNotIn kvs) m (eC (.gl "?")))) := fun W tk => by
  obtain ⟨d, es, n, hmg, D, look⟩ := K.ex
  have D' := kd_transport D g.hK g.hw
  refine PT_imp (pt_cmpR (op_notIn_kd D') (he W tk) (ev_glob g hmg hg hd) hm) fun σ H Q q => ?_
  obtain ⟨ι, h, ρ, r, en, p⟩ := tB_imp q
  refine ⟨ι, h, ρ, r, en, (GPost.bnd (R := AvR C) p).mono fun y H1 ⟨ι1, h1, a, r1, e1, x1, p1⟩ => ?_⟩
  cases x1 with
  | str z =>
    have p2 : GPost C (AvR C) ι1 h1 H1 (fun x H1 => ∃ k, x = V.bl k ∧ Q k H1) (fun c d H' => W c d σ H') (.ok (.bl (!(kvs.lookup z).isSome)) h1) := p1
    rw [g.hK]
    rcases look z with ⟨l1, l2⟩ | ⟨a, u, v, l1, l2, _⟩
    · rw [l1] at p2; exact ⟨z, none, rfl, rfl, l2, p2 ι1 H1 _ Ext.refl r1 (.bl _)⟩
    · rw [l1] at p2; exact ⟨z, some u, rfl, rfl, l2, p2 ι1 H1 _ Ext.refl r1 (.bl _)⟩
  | _ => exact p1.elim
theorem re_kget {x : Str} {kvs : List (Str × AV)} {e : Expr} {m : EE} {p pos : Pos} (g : Gd C X j) (K : KdA C x kvs) (he : RE C X e m) (hg : Gl X x := by rfl) (hd : (x == ("__debug__" : Str)) = false := by decide)
    (hs : PlainIx e := by exact fun _ _ => rfl) : RE C X (.Subscript (.Name x p) e pos) (eBin (oKGet kvs) (eC (.gl "?")) m) := fun W tk => by
  obtain ⟨d, es, n, hmg, D, look⟩ := K.ex
  have D' := kd_transport D g.hK g.hw
  have ix : IxR X (fun x y H Q => ∃ (z : Str) (u0 : Value) (v0 : V), x = .ref d ∧ y = .str z ∧ PySem.W.nsIn X.K d z = some (some u0) ∧ RelV v0 u0 ∧ Q v0 H) := by
    intro value slice pins s σ H x y v u Q I rx ry h hs'
    obtain ⟨z, u0, v0, rfl, rfl, hn, rr, q⟩ := h
    have rx' : v = Value.ref d := rx
    subst rx'
    have hh := op_item_kd D' pins s σ H (.ref d) (.str z) (.ref d) u Q I rfl ry ⟨z, u0, v0, rfl, rfl, hn, rr, q⟩
    exact tail_any (kd_type D' I) PySem.F.slot_dict_getitem.lookup hh hs'
  refine PE_imp (pe_ix ix (ev_glob g hmg hg hd) (he W tk) hs) fun σ H Q ⟨ι, h, ρ, r, en, p⟩ => ?_
  refine ⟨ι, h, ρ, r, en, (GPost.bnd (R := AvR C) (m := m ρ) p).mono fun y H1 ⟨ι1, h1, a, r1, e1, x1, p1⟩ => ?_⟩
  cases x1 with
  | str z =>
    have p2 : GPost C (AvR C) ι1 h1 H1 Q (fun c d H' => W c d σ H') (match kvs.lookup z with | some v => .ok v h1 | none => .bad) := p1
    rw [g.hK]
    rcases look z with ⟨l1, l2⟩ | ⟨a, u, v, l1, l2, l3, l4⟩
    · rw [l1] at p2; exact p2.elim
    · rw [l1] at p2; exact ⟨z, u, v, rfl, rfl, l2, l3, p2 ι1 H1 v Ext.refl r1 (l4 _ _ _)⟩
  | _ => exact p1.elim
end
end PL
set_option maxRecDepth 100000
set_option maxHeartbeats 2000000
/-! Lift12: displays of dicts, slots, properties, new instances. -/
namespace PL
open PySem PySem.Spec PyProof.Rows L2 PA
section
variable {C : Cz} {X : Cx} {j k : Nat}
/-! ### x += e -/
theorem rs_aug (i : Nat) {x : Str} {e : Expr} {m : EE} {o : O2} {op : Operator} {pos pos' : Pos} (g : Gd C X j) (ho : ∀ (pins : List (Addr × Obj)) (s : Shared) (σ : L2.St) (H : Hp) (x y : V) (v u : Value) (Q : VK), Inv X pins σ H s → RelV x v → RelV y u → rA C o x y H Q → wpAny (model X.prog X.w) X.A (inplaceOp op v u) (EP X pins σ Q) X.xe s)
    (he : RE C X e m) (hi : X.N[i]? = some x := by rfl) (hx : Loc X.env.scope x := by first | exact Or.inl rfl | exact Or.inr rfl)
    (hf : X.fn x = true ∨ X.env.scope.names.lookup x = some .local := by first | exact .inl rfl | exact .inr rfl | assumption) : RS C X (.AugAssign (.Name x pos') op e pos) (sAug i o m) := fun W tk =>
  PS_imp (ps_aug g.nd hi hx (he W tk) (ti := rA C o) ho hf) fun D σ H ⟨ι, h, ρ, r, en, p⟩ => by
    unfold sAug sBnd eVar at p
    dsimp only at p
    cases e0 : ρ[i]? with
    | none => rw [e0] at p; exact p.elim
    | some oo =>
      cases oo with
      | none => rw [e0] at p; exact p.elim
      | some a =>
        rw [e0] at p
        obtain ⟨v, e1, e2⟩ := en.2 i a e0
        refine ⟨v, e1, ι, h, ρ, r, en, (SPost.bnd (R := AvR C) (k := fun y => sBnd (fun _ => o a y) fun z ρ h => .nx (ρ.set i (some z)) h) r en p).mono fun y H1 ⟨ι1, h1, b, r1, ex1, x1, p1⟩ => ?_⟩
        refine ⟨ι1, h1, a, b, _, r1, r.av ex1 e2, x1, (SPost.bnd (R := AvR C) (k := fun z ρ h => .nx (ρ.set i (some z)) h) (m := fun _ => o a b) r1 (en.ext r ex1) p1).mono fun z H2 ⟨ι2, h2, c, r2, ex2, x2, p2⟩ => ?_⟩
        exact p2 ι2 H2 _ Ext.refl r2 (((en.ext r ex1).ext r1 ex2).set x2 i)

/-! ### displays of dicts -/
inductive RD (C : Cz) (X : Cx) : List (Option Expr) → List Expr → List (Str × EE) → Prop
  | nil : RD C X [] [] []
  | cons {s : Str} {k : Nat} {p : Pos} {v : Expr} {ks : List (Option Expr)} {vs : List Expr} {m : EE} {ms : List (Str × EE)} (h : RE C X v m) (r : RD C X ks vs ms) : RD C X (some (.Constant (.str s) k p) :: ks) (v :: vs) ((s, m) :: ms)
theorem RD.pps {pos : Pos} {ks : List (Option Expr)} {vs : List Expr} {ms : List (Str × EE)} {W : WX} (tk : Takes X W) (h : RD C X ks vs ms) : PPs X pos ks vs (ms.map fun m => (tC (.str m.1), tE C m.2 W)) := by
  induction h with
  | nil => exact pps_nil
  | cons h r ih => exact pps_cons pe_str (h W tk) ih
/-- the pairs' values, from the left -/
inductive PsR (C : Cz) (ι : Nat → Addr) (n : Nat) (H : Hp) : List (Str × AV) → List (V × V) → Prop
  | nil : PsR C ι n H [] []
  | cons {s : Str} {a : AV} {v : V} {ps : List (Str × AV)} {qs : List (V × V)} : AvR C ι n H a v → PsR C ι n H ps qs → PsR C ι n H ((s, a) :: ps) ((.str s, v) :: qs)
theorem tpairs_imp {W : WX} {σ : L2.St} : ∀ (ms : List (Str × EE)) {ι : Nat → Addr} {h : PA.Heap} {ρ : PA.Env} {H : Hp} {Q : List (V × V) → Hp → Prop}, Rep C ι h H → EnR C ι h.length H ρ σ → GPost C (PsR C) ι h H Q (fun c d H' => W c d σ H') (lDct ms ρ h) → tPairs (ms.map fun m => (tC (.str m.1), tE C m.2 W)) σ H Q
  | [], ι, h, ρ, H, Q, r, en, p => p ι H [] Ext.refl r .nil
  | (s, m) :: ms, ι, h, ρ, H, Q, r, en, p => by
    refine ⟨ι, h, ρ, r, en, (GPost.bnd (R := AvR C) p).mono fun y H1 ⟨ι1, h1, a, r1, e1, x1, p1⟩ => ?_⟩
    refine tpairs_imp ms r1 (en.ext r e1) ((GPost.bnd (R := PsR C) p1).mono fun ps H2 ⟨ι2, h2, as, r2, e2, x2, p2⟩ => ?_)
    exact p2 ι2 H2 _ Ext.refl r2 (.cons (r1.av e2 x1) x2)
theorem psr_keys {ι : Nat → Addr} {n : Nat} {H : Hp} {ps : List (Str × AV)} {qs : List (V × V)} (r : PsR C ι n H ps qs) : ∃ kvs : List (Key × V), qs = kvs.map (fun kv => (kV kv.1, kv.2)) ∧ kvs.length = ps.length ∧
    ∀ (xs : List (AV × AV)) (ks : List (Key × V)), KsR C ι n H xs ks → KsR C ι n H (ps.foldl (fun acc p => dPut acc (.str p.1) p.2) xs) (mergeK ks kvs) := by
  induction r with
  | nil => exact ⟨[], rfl, rfl, fun _ _ h => h⟩
  | @cons s a v ps qs h t ih =>
    obtain ⟨kvs, h1, h2, h3⟩ := ih
    exact ⟨(.inr s, v) :: kvs, by rw [h1]; rfl, by simp [h2], fun xs ks h0 => h3 _ _ (h0.put (.str s) h)⟩
/-- a thing beside ours becomes ours -/
theorem adopt {ι : Nat → Addr} {h : PA.Heap} {H : Hp} {q : Addr} {ao : AO} (r : Rep C ι h H) (off : ∀ l, l < h.length → ι l ≠ q) (ob : ObR C (put1 ι h.length q) (h.length + 1) H q ao) : Rep C (put1 ι h.length q) (h ++ [ao]) H := by
  have ag : ∀ l, l < h.length → put1 ι h.length q l = ι l := fun l hl => put1_lt hl
  refine ⟨fun l o eo => ?_, fun l l' a b eq => ?_, r.scr⟩
  · rw [List.length_append, List.length_singleton]
    by_cases z : l < h.length
    · rw [List.getElem?_append_left z] at eo
      rw [put1_lt z]
      have := r.at_ l o eo
      cases o with
      | lst ys => obtain ⟨ws, w1, w2⟩ := this; exact ⟨ws, w1, w2.map (fun _ _ t => t) (Nat.le_succ _) ag⟩
      | dct ys => obtain ⟨ws, w1, w2⟩ := this; exact ⟨ws, w1, w2.map (fun _ _ t => t) (Nat.le_succ _) ag⟩
      | lck ys => obtain ⟨o, ws, w1, w2⟩ := this; exact ⟨o, ws, w1, w2.map (fun _ _ t => t) (Nat.le_succ _) ag⟩
      | ins c fs =>
        rcases this with ⟨e0, dx, gs, w1, w2⟩ | ⟨names, dx, us, e0, sl, ne, w2⟩
        · exact .inl ⟨e0, dx, gs, w1, w2.map (fun _ _ t => t) (Nat.le_succ _) ag⟩
        · exact .inr ⟨names, dx, us, e0, sl, ne, fun i f x h1 h2 => let ⟨v, e3, e4⟩ := w2 i f x h1 h2; ⟨v, e3, e4.map (fun _ _ t => t) (Nat.le_succ _) ag⟩⟩
    · have hl : l < h.length + 1 := by have := (List.getElem?_eq_some_iff.mp eo).1; simpa using this
      have : l = h.length := by omega
      subst this
      rw [List.getElem?_append_right (Nat.le_refl _), Nat.sub_self] at eo
      simp at eo
      subst eo
      rw [put1_same]
      exact ob
  · rw [List.length_append, List.length_singleton] at a b
    by_cases z : l < h.length
    · by_cases z' : l' < h.length
      · rw [put1_lt z, put1_lt z'] at eq; exact r.inj l l' z z' eq
      · have : l' = h.length := by omega
        subst this
        rw [put1_lt z, put1_same] at eq
        exact absurd eq (off l z)
    · have : l = h.length := by omega
      subst this
      by_cases z' : l' < h.length
      · rw [put1_lt z', put1_same] at eq
        exact absurd eq.symm (off l' z')
      · omega
/-- a dict beside ours is written -/
theorem side_sqT' {H : Hp} {D : Addr} {u0 u : HO} (hD : H D = some u0) (n1 : ∀ xs, u0 ≠ .tup xs) (n2 : ∀ o w, u0 ≠ .frz o w) {a : Addr} {xs : List V} (t : SqT C.K H a xs) : SqT C.K (upd H D u) a xs := by
  rcases t with (t | ⟨o, t⟩) | t
  · exact .inl (.inl (by rw [upd_ne (fun z => by rw [z, hD] at t; exact n1 _ (Option.some.inj t))]; exact t))
  · exact .inl (.inr ⟨o, by rw [upd_ne (fun z => by rw [z, hD] at t; exact n2 _ _ (Option.some.inj t))]; exact t⟩)
  · exact .inr t
theorem Rep.sideD {ι : Nat → Addr} {h : PA.Heap} {H : Hp} (r : Rep C ι h H) {D : Addr} {ys : List (Key × V)} {u : HO} (hD : H D = some (.dK ys)) (off : ∀ l, l < h.length → ι l ≠ D) : Rep C ι h (upd H D u) := by
  have sq : ∀ a xs, SqT C.K H a xs → SqT C.K (upd H D u) a xs := fun a xs => side_sqT' hD (fun _ z => nomatch z) (fun _ _ z => nomatch z)
  refine ⟨fun l o e => ?_, r.inj, r.scr.upd fun o w z => by rw [hD] at z; cases z⟩
  have hl := (List.getElem?_eq_some_iff.mp e).1
  have st : upd H D u (ι l) = H (ι l) := upd_ne (off l hl)
  have q := r.at_ l o e
  cases o with
  | lst xs => obtain ⟨vs, e1, e2⟩ := q; exact ⟨vs, st.trans e1, e2.map sq (Nat.le_refl _) fun _ _ => rfl⟩
  | dct xs => obtain ⟨vs, e1, e2⟩ := q; exact ⟨vs, st.trans e1, e2.map sq (Nat.le_refl _) fun _ _ => rfl⟩
  | lck xs => obtain ⟨o, vs, e1, e2⟩ := q; exact ⟨o, vs, st.trans e1, e2.map sq (Nat.le_refl _) fun _ _ => rfl⟩
  | ins c fs =>
    rcases q with ⟨e0, dx, gs, e1, e2⟩ | ⟨names, dx, vs, e0, sl, ne, e2⟩
    · exact .inl ⟨e0, dx, gs, st.trans e1, e2.map sq (Nat.le_refl _) fun _ _ => rfl⟩
    · refine .inr ⟨names, dx, vs, e0, ?_, ne, fun i f x h1 h2 => let ⟨v, e3, e4⟩ := e2 i f x h1 h2; ⟨v, e3, e4.map sq (Nat.le_refl _) fun _ _ => rfl⟩⟩
      rcases sl with ⟨s1, s2, s3⟩ | ⟨s1, s2⟩
      · exact .inl ⟨st.trans s1, by rw [upd_ne (fun z => by rw [z, hD] at s2; cases s2)]; exact s2, s3⟩
      · exact .inr ⟨st.trans s1, by rw [upd_ne (fun z => by rw [z, hD] at s2; cases s2)]; exact s2⟩
theorem re_disp {ks : List (Option Expr)} {vs : List Expr} {ms : List (Str × EE)} {pos : Pos} (h : RD C X ks vs ms) (hall : ks.all (·.isSome) = true := by rfl) (hl : ks.length = vs.length := by rfl) (h0 : ks ≠ [] := by exact fun z => nomatch z) (h15 : ks.length ≤ 15 := by decide) (hms : ms.length ≤ 15 := by decide) :
    RE C X (.Dict ks vs pos) (eDisp ms) := fun W tk =>
  PE_imp (pe_disp (h.pps tk) hall hl h0 h15) fun σ H Q ⟨ι, hh, ρ, r, en, p⟩ => fun q hq => by
    have exl := Ext.laid (o := .dK []) r hq
    have p' : GPost C (PsR C) ι hh H (fun b H1 => ∃ ι1 h1 a, Rep C ι1 h1 H1 ∧ Ext ι hh.length H ι1 h1.length H1 ∧ PsR C ι1 h1.length H1 a b ∧ GPost C (AvR C) ι1 h1 H1 Q (fun c d H' => W c d σ H') (.ok (.loc h1.length) (h1 ++ [.dct (a.foldl (fun acc p => dPut acc (.str p.1) p.2) [])]))) (fun c d H' => W c d σ H') (lDct ms ρ hh) := GPost.bnd (R := PsR C) p
    have lenp : ∀ (ms : List (Str × EE)) (h : PA.Heap) ps h', lDct ms ρ h = .ok ps h' → ps.length = ms.length := by
      intro ms
      induction ms with
      | nil => intro h ps h' e; unfold lDct at e; cases e; rfl
      | cons m ms ih =>
        obtain ⟨s, m⟩ := m
        intro h ps h' e
        unfold lDct PA.bnd at e
        cases e1 : m ρ h with
        | bad => rw [e1] at e; cases e
        | exc a b => rw [e1] at e; cases e
        | ok v h1 =>
          rw [e1] at e
          dsimp only at e
          cases e2 : lDct ms ρ h1 with
          | bad => rw [e2] at e; cases e
          | exc a b => rw [e2] at e; cases e
          | ok ws h2 => rw [e2] at e; cases e; simp [ih h1 ws _ e2]
    refine tpairs_imp ms (r.laid hq) (en.ext r exl) ?_
    cases e : lDct ms ρ hh with
    | bad => rw [e] at p'; exact p'.elim
    | exc e' h' => rw [e] at p'; exact fun ι1 H1 c d e1 r1 x1 => p' ι1 H1 c d (exl.trans e1) r1 x1
    | ok ps h1 =>
      intro ι1 H1 qs e1 r1 x1
      have hH1 : H1 q = some (.dK []) := e1.frame _ _ upd_same (fun _ z => nomatch z) fun l hl => r.off hq hl
      have off : ∀ l, l < h1.length → ι1 l ≠ q := fun l hl z => by
        by_cases zz : l < hh.length
        · exact r.off hq zz ((e1.agree l zz).symm.trans z)
        · have f := e1.fresh l (Nat.le_of_not_lt zz) hl
          rw [z, upd_same] at f
          cases f
      obtain ⟨kvs, k1, k2, k3⟩ := psr_keys x1
      refine ⟨hH1, kvs, k1, by rw [k2, lenp ms hh ps h1 e]; exact hms, ?_⟩
      have sq : ∀ a xs, SqT C.K H1 a xs → SqT C.K (upd H1 q (.dK (mergeK [] kvs))) a xs := fun a xs => side_sqT' hH1 (fun _ z => nomatch z) (fun _ _ z => nomatch z)
      have r2 : Rep C ι1 h1 (upd H1 q (.dK (mergeK [] kvs))) := r1.sideD hH1 off
      have ag : ∀ l, l < h1.length → put1 ι1 h1.length q l = ι1 l := fun l hl => put1_lt hl
      have kr := (k3 [] [] .nil).map sq (Nat.le_succ h1.length) ag
      have r3 := adopt (ao := .dct (ps.foldl (fun acc p => dPut acc (.str p.1) p.2) [])) r2 off ⟨_, upd_same, kr⟩
      have e3 : Ext ι hh.length H (put1 ι1 h1.length q) (h1 ++ [AO.dct (ps.foldl (fun acc p => dPut acc (.str p.1) p.2) [])]).length (upd H1 q (.dK (mergeK [] kvs))) := by
        rw [List.length_append, List.length_singleton]
        have et := exl.trans e1
        refine ⟨Nat.le_succ_of_le et.le, fun l hl => (put1_lt (Nat.lt_of_lt_of_le hl et.le)).trans (et.agree l hl), fun p o q1 q2 q3 => ?_, fun l a b => ?_, fun p q1 => ?_, fun p o w q1 => ?_⟩
        · rw [upd_ne (ne_of_none q1 hq)]; exact et.frame p o q1 q2 q3
        · by_cases z : l < h1.length
          · rw [put1_lt z]; exact et.fresh l a z
          · have : l = h1.length := by omega
            subst this
            rw [put1_same]; exact hq
        · by_cases z : p = q
          · rw [z, upd_same]; exact fun z => nomatch z
          · rw [upd_ne z]; exact et.dom p q1
        · rw [upd_ne (ne_of_none q1 hq)]; exact et.frz p o w q1
      have key : GPost C (AvR C) ι hh H Q (fun c d H' => W c d σ H') (.ok (.loc h1.length) (h1 ++ [.dct (ps.foldl (fun acc p => dPut acc (.str p.1) p.2) [])])) := by
        unfold eDisp PA.bnd at p
        rw [e] at p
        exact p
      refine key _ _ (.ref q) e3 r3 ?_
      have t : AvR C (put1 ι1 h1.length q) (h1 ++ [AO.dct (ps.foldl (fun acc p => dPut acc (.str p.1) p.2) [])]).length (upd H1 q (.dK (mergeK [] kvs))) (.loc h1.length) (.ref (put1 ι1 h1.length q h1.length)) := .loc (by simp)
      rw [put1_same] at t
      exact t
end
end PL
set_option maxRecDepth 100000
set_option maxHeartbeats 2000000
/-! Lift13: slots, properties, new instances, own ==. -/
namespace PL
open PySem PySem.Spec PyProof.Rows L2 PA
section
variable {C : Cz} {X : Cx} {j k : Nat}
/-- the slot f of the slotted class c -/
structure SltA (C : Cz) (c : String) (f : Str) : Prop where
  ex : ∃ names i p, C.sl c = some names ∧ names.Nodup ∧ names[i]? = some f ∧ SlX.SCls C.K (C.ad c) ∧ SlX.Slot1 C.K (C.ad c) f p i
/-- an instance of a slotted class -/
theorem slt_at {ι : Nat → Addr} {h : PA.Heap} {H : Hp} {l : Nat} {c : String} {fs : List (Str × AV)} {names : List Str} (r : Rep C ι h H) (e : h[l]? = some (.ins c fs)) (hs : C.sl c = some names) :
    ∃ dx vs, SlX.Slt H (ι l) (C.ad c) dx vs ∧ dx ≠ ι l ∧ SlsR C ι h.length H names fs vs ∧ ((H (ι l) = some (.ins (C.ad c) dx []) ∧ H dx = some (.own (ι l))) ∨ (H (ι l) = some (SlX.SlO (ι l) (C.ad c) dx vs) ∧ H dx = some (.xd []))) := by
  rcases r.at_ l _ e with ⟨e0, _⟩ | ⟨names', dx, vs, e0, sl, ne, q⟩
  · rw [hs] at e0; cases e0
  · rw [hs] at e0
    cases e0
    rcases sl with ⟨s1, s2, s3⟩ | ⟨s1, s2⟩
    · exact ⟨dx, vs, .inl ⟨s1, s3⟩, ne, q, .inl ⟨s1, s2⟩⟩
    · exact ⟨dx, vs, .inr ⟨s1, s2⟩, ne, q, .inr ⟨s1, s2⟩⟩
theorem re_sl {c : String} {f : Str} {e : Expr} {m : EE} {pos : Pos} (hK : X.K = C.K) (F : SltA C c f) (he : RE C X e m) (hb : attributeBase e f X.env (eval e X.env) = eval e X.env := by rfl) : RE C X (.Attribute e f pos) (eAttr c f m) := fun W tk =>
  PE_imp (SlX.pe_sl (he W tk) hb) fun σ H Q ⟨ι, h, ρ, r, en, p⟩ => ⟨ι, h, ρ, r, en, (GPost.bnd (R := AvR C) p).mono fun x H1 ⟨ι1, h1, a, r1, e1, x1, p1⟩ => by
    cases x1 with
    | @loc l hl =>
      dsimp only at p1
      cases z : h1[l]? with
      | none => rw [z] at p1; exact p1.elim
      | some o =>
        rw [z] at p1
        cases o with
        | ins c' fs =>
          dsimp only at p1
          by_cases zc : c' = c
          · subst zc
            rw [if_pos rfl] at p1
            obtain ⟨names, i, pp, hs, nd, hi, sc, s1⟩ := F.ex
            obtain ⟨dx, vs, st, ne, sr, _⟩ := slt_at r1 z hs
            cases hf : fs.lookup f with
            | none => rw [hf] at p1; exact p1.elim
            | some y =>
              rw [hf] at p1
              obtain ⟨v, e3, e4⟩ := sr i f y hi hf
              exact ⟨_, _, dx, pp, vs, i, v, rfl, st, by rw [hK]; exact sc, by rw [hK]; exact s1, e3, p1 ι1 H1 v Ext.refl r1 e4⟩
          · rw [if_neg zc] at p1; exact p1.elim
        | _ => exact p1.elim
    | _ => exact p1.elim⟩
theorem lookup_put {f g : Str} {x : AV} {fs : List (Str × AV)} : (PA.putF f x fs).lookup g = if g = f then some x else fs.lookup g := by
  induction fs with
  | nil =>
    unfold PA.putF
    by_cases e : g = f
    · rw [if_pos e, e]; simp [List.lookup]
    · have e' : (g == f) = false := by simpa using e
      rw [if_neg e]; simp [List.lookup, e']
  | cons p fs ih =>
    obtain ⟨k, w⟩ := p
    unfold PA.putF
    by_cases z : k = f
    · rw [if_pos z]
      by_cases e : g = f
      · rw [if_pos e, z, e]; simp [List.lookup]
      · have e' : (g == k) = false := by rw [z]; simpa using e
        rw [if_neg e]
        simp only [List.lookup, e']
    · rw [if_neg z]
      by_cases q : g = k
      · subst q
        rw [if_neg z]; simp [List.lookup]
      · have e' : (g == k) = false := by simpa using q
        simp only [List.lookup, e']
        exact ih
theorem rs_sl {c : String} {f : Str} {o e : Expr} {mo me : EE} {pos pos' : Pos} (hK : X.K = C.K) (F : SltA C c f) (ho : RE C X o mo) (he : RE C X e me) (hs : swapsWith e (some (.Attribute o f pos')) pos.line X.env = pure false := by rfl) : RS C X (.Assign [.Attribute o f pos'] e pos) (sAttr c mo f me) := fun W tk =>
  PS_imp (SlX.ps_sl (ho W tk) (he W tk) hs) fun D σ H ⟨ι, h, ρ, r, en, p⟩ => ⟨ι, h, ρ, r, en, (SPost.bnd (R := AvR C) r en p).mono fun y H1 ⟨ι1, h1, b, r1, e1, x1, p1⟩ =>
    ⟨ι1, h1, ρ, r1, en.ext r e1, (SPost.bnd (R := AvR C) r1 (en.ext r e1) p1).mono fun x H2 ⟨ι2, h2, a, r2, e2, x2, p2⟩ => by
      cases x2 with
      | @loc l hl =>
        dsimp only at p2
        cases z : h2[l]? with
        | none => rw [z] at p2; exact p2.elim
        | some o =>
          rw [z] at p2
          cases o with
          | ins c' fs =>
            dsimp only at p2
            by_cases zc : c' = c ∧ fs.length < 100
            · rw [if_pos zc] at p2
              obtain ⟨zc, zl⟩ := zc
              subst zc
              obtain ⟨names, i, pp, hsl, nd, hi, sc, s1⟩ := F.ex
              obtain ⟨dx, vs, st, ne, sr, cse⟩ := slt_at r2 z hsl
              refine ⟨_, _, dx, pp, vs, i, rfl, st, by rw [hK]; exact sc, by rw [hK]; exact s1, ?_⟩
              have xb := r1.av e2 x1
              -- the new heap
              have hdx : ∃ u0, H2 dx = some u0 ∧ (∀ xs, u0 ≠ .tup xs) ∧ (∀ o w, u0 ≠ .frz o w) := by
                rcases cse with ⟨_, h2⟩ | ⟨_, h2⟩
                · exact ⟨_, h2, (fun _ z => nomatch z), (fun _ _ z => nomatch z)⟩
                · exact ⟨_, h2, (fun _ z => nomatch z), (fun _ _ z => nomatch z)⟩
              obtain ⟨u0, hd0, nt, nf⟩ := hdx
              obtain ⟨w0, ha0, _⟩ := (r2.at_ l _ z).kind
              have ntA : ∀ xs, w0 ≠ .tup xs := fun xs zz => (r2.at_ l _ z).notup (xs := xs) (.inl (by rw [ha0, zz]))
              have nfA : ∀ o w, w0 ≠ .frz o w := fun o w zz => by
                rcases cse with ⟨h1, _⟩ | ⟨h1, _⟩
                · rw [ha0] at h1; rw [zz] at h1; cases h1
                · rw [ha0] at h1; rw [zz] at h1; exact slO_nofrz (Option.some.inj h1).symm
              have hA' : (upd H2 dx (.xd [])) (ι2 l) = some w0 := by rw [upd_ne ne.symm]; exact ha0
              have sq : ∀ a xs, SqT C.K H2 a xs → SqT C.K (SlX.slH H2 (ι2 l) (C.ad c') dx (SlX.putS i y vs)) a xs := fun a xs t =>
                side_sqT' hA' ntA nfA (side_sqT' hd0 nt nf t)
              have at1 : (SlX.slH H2 (ι2 l) (C.ad c') dx (SlX.putS i y vs)) (ι2 l) = some (SlX.SlO (ι2 l) (C.ad c') dx (SlX.putS i y vs)) := upd_same
              have at2 : (SlX.slH H2 (ι2 l) (C.ad c') dx (SlX.putS i y vs)) dx = some (.xd []) := by unfold SlX.slH; rw [upd_ne ne, upd_same]
              have other : ∀ q, q ≠ ι2 l → q ≠ dx → (SlX.slH H2 (ι2 l) (C.ad c') dx (SlX.putS i y vs)) q = H2 q := fun q q1 q2 => by unfold SlX.slH; rw [upd_ne q1, upd_ne q2]
              have noimg : ∀ l', l' < h2.length → ι2 l' ≠ dx := fun l' hl' zz => by
                obtain ⟨o', _, ob'⟩ := r2.there hl'
                rw [zz] at ob'
                rcases cse with ⟨_, h2⟩ | ⟨_, h2⟩
                · exact ob'.noown h2
                · exact ob'.noxd h2
              have ex : Ext ι2 h2.length H2 ι2 h2.length (SlX.slH H2 (ι2 l) (C.ad c') dx (SlX.putS i y vs)) := by
                refine ⟨Nat.le_refl _, fun _ _ => rfl, fun q o q1 q2 q3 => ?_, fun l a b => absurd (Nat.lt_of_lt_of_le b a) (Nat.lt_irrefl _), fun q q1 => ?_, fun q o u q1 => ?_⟩
                · by_cases qd : q = dx
                  · subst qd
                    rcases cse with ⟨_, h2⟩ | ⟨_, h2⟩
                    · rw [h2] at q1; cases q1; exact absurd rfl (q2 _)
                    · rw [h2] at q1; cases q1; exact at2
                  · rw [other q (fun zz => q3 l hl zz.symm) qd]; exact q1
                · by_cases qa : q = ι2 l
                  · rw [qa, at1]; exact fun z => nomatch z
                  · by_cases qd : q = dx
                    · rw [qd, at2]; exact fun z => nomatch z
                    · rw [other q qa qd]; exact q1
                · rw [other q (fun zz => by rw [zz, ha0] at q1; exact nfA _ _ (Option.some.inj q1)) (fun zz => by rw [zz, hd0] at q1; exact nf _ _ (Option.some.inj q1))]
                  exact q1
              have r3 : Rep C ι2 (h2.set l (.ins c' (PA.putF f b fs))) (SlX.slH H2 (ι2 l) (C.ad c') dx (SlX.putS i y vs)) := by
                refine ⟨fun l' o' eo => ?_, fun a b h1' h2' eq => r2.inj a b (by simpa using h1') (by simpa using h2') eq, r2.scr.keep ex.frz⟩
                rw [List.length_set]
                by_cases ql : l = l'
                · subst ql
                  rw [List.getElem?_set_self hl] at eo
                  cases eo
                  refine .inr ⟨names, dx, _, hsl, .inr ⟨at1, at2⟩, ne, fun i' f' x' h1' h2' => ?_⟩
                  rw [lookup_put] at h2'
                  by_cases ef : f' = f
                  · rw [if_pos ef] at h2'
                    cases h2'
                    have : i' = i := nodup_ix nd h1' (ef ▸ hi)
                    subst this
                    exact ⟨y, SlX.putS_get _ _ _, xb.map sq (Nat.le_refl _) fun _ _ => rfl⟩
                  · rw [if_neg ef] at h2'
                    obtain ⟨v, e3, e4⟩ := sr i' f' x' h1' h2'
                    have ni : i' ≠ i := fun zz => ef (by rw [zz, hi] at h1'; exact (Option.some.inj h1').symm)
                    exact ⟨v, (SlX.putS_ne ni).mpr e3, e4.map sq (Nat.le_refl _) fun _ _ => rfl⟩
                · rw [List.getElem?_set_ne ql] at eo
                  have hk := (List.getElem?_eq_some_iff.mp eo).1
                  have nl : ι2 l' ≠ ι2 l := fun zz => ql (r2.inj l' l hk hl zz).symm
                  refine r2.obr ex (r2.at_ l' o' eo) (other _ nl (noimg l' hk)) fun dx' qd => ?_
                  rw [other dx' (fun zz => ?_) (fun zz => ?_)]
                  · exact qd
                  · rw [zz] at qd; exact (r2.at_ l _ z).noown qd
                  · rw [zz] at qd
                    rcases cse with ⟨_, h3⟩ | ⟨_, h3⟩
                    · rw [h3] at qd
                      injection qd with qd
                      injection qd with qd
                      exact nl qd.symm
                    · rw [h3] at qd; cases qd
              refine p2 ι2 _ σ (by rw [List.length_set]; exact ex) r3 ?_
              rw [List.length_set]
              exact ((en.ext r e1).ext r1 e2).ext r2 ex
            · rw [if_neg zc] at p2; exact p2.elim
          | _ => exact p2.elim
      | _ => exact p2.elim⟩⟩

/-! ### no exception leaves -/
theorem GPost.noExc {α β : Type} {R : RR α β} {ι : Nat → Addr} {h : PA.Heap} {H : Hp} {Q : β → Hp → Prop} {W W' : XK} {r : Res α} (p : GPost C R ι h H Q W (PA.noExc r)) : GPost C R ι h H Q W' r := by
  cases r with
  | ok a h1 => exact p
  | exc e h1 => exact p.elim
  | bad => exact p.elim
/-- a property of a class without slots -/
theorem re_prop {c : String} {f : Str} {F : FF} {e : Expr} {m : EE} {pos : Pos} (g : Gd C X j) (P : PrpA C k c f F) (he : RE C X e m) (hk : k + 1 ≤ j := by decide) (hb : attributeBase e f X.env (eval e X.env) = eval e X.env := by rfl) : RE C X (.Attribute e f pos) (eProp c F m) := fun W tk => by
  obtain ⟨p, f', fd, ps, fn, hc, hp, hbd⟩ := P.ex
  unfold FnA at fn
  rw [← g.hP, ← g.hw, ← g.hK, ← g.hm, ← g.hb] at fn
  rw [← g.hK] at hc hp hbd
  refine PE_imp (pe_prop (he W tk) hc hp fn (g.room.mono hk) hbd .nil (passL (X := X.nox)) hb) fun σ H Q ⟨ι, h, ρ, r, en, p⟩ => ⟨ι, h, ρ, r, en, (GPost.bnd (R := AvR C) p).mono fun x H1 ⟨ι1, h1, a, r1, e1, x1, p1⟩ => ?_⟩
  by_cases z : isIns c h1 a = true
  · rw [if_pos z] at p1
    obtain ⟨q, dx, fs, gs, l', rfl, ea, el, eh, fr⟩ := isIns_of P.us r1 x1 z
    exact ⟨q, dx, gs, rfl, eh, ι1, h1, [a], r1, .cons x1 .nil, p1.noExc⟩
  · rw [if_neg z] at p1; exact p1.elim
/-- a property of a slotted class -/
structure PrpS (C : Cz) (k : Nat) (c : String) (m : Str) (F : FF) : Prop where
  ex : ∃ p f fd ps names, FnA C k f fd ps F ∧ SlX.SCls C.K (C.ad c) ∧ PropOf C.K (C.ad c) m p f ∧ Binds C.K fd ps [] ∧ C.sl c = some names
theorem isIns_sl {c : String} {h : PA.Heap} {ι : Nat → Addr} {H : Hp} {a : AV} {x : V} {names : List Str} (us : C.sl c = some names) (r : Rep C ι h H) (xa : AvR C ι h.length H a x) (z : isIns c h a = true) : ∃ q dx vs, x = .ref q ∧ SlX.Slt H q (C.ad c) dx vs := by
  cases xa with
  | @loc l hl =>
    unfold isIns at z
    dsimp only at z
    cases e : h[l]? with
    | none => rw [e] at z; cases z
    | some o =>
      rw [e] at z
      cases o with
      | ins c' fs =>
        have zc : c' = c := of_decide_eq_true z
        subst zc
        obtain ⟨dx, vs, st, _⟩ := slt_at r e us
        exact ⟨_, dx, vs, rfl, st⟩
      | _ => cases z
  | _ => cases z
theorem re_propS {c : String} {f : Str} {F : FF} {e : Expr} {m : EE} {pos : Pos} (g : Gd C X j) (P : PrpS C k c f F) (he : RE C X e m) (hk : k + 1 ≤ j := by decide) (hb : attributeBase e f X.env (eval e X.env) = eval e X.env := by rfl) : RE C X (.Attribute e f pos) (eProp c F m) := fun W tk => by
  obtain ⟨p, f', fd, ps, names, fn, hc, hp, hbd, us⟩ := P.ex
  unfold FnA at fn
  rw [← g.hP, ← g.hw, ← g.hK, ← g.hm, ← g.hb] at fn
  rw [← g.hK] at hc hp hbd
  have fr := fn.raw hbd (dvs := []) .nil
  refine PE_imp (SlX.pe_propSl (E := E0) (he W tk) hc hp.at_ hp.get hp.tak hp.rec_ fr (g.room.mono hk) (fun H s e s' z => by obtain ⟨_, _, _, _, _, _, _, _, _, _, _, _, z⟩ := z; exact z) hb) fun σ H Q ⟨ι, h, ρ, r, en, p⟩ => ⟨ι, h, ρ, r, en, (GPost.bnd (R := AvR C) p).mono fun x H1 ⟨ι1, h1, a, r1, e1, x1, p1⟩ => ?_⟩
  by_cases z : isIns c h1 a = true
  · rw [if_pos z] at p1
    obtain ⟨q, dx, vs, rfl, st⟩ := isIns_sl us r1 x1 z
    exact ⟨q, dx, vs, rfl, st, ι1, h1, [a], r1, .cons x1 .nil, p1.noExc⟩
  · rw [if_neg z] at p1; exact p1.elim
/-- o.m() of a slotted class, nothing leaves -/
structure MetS (C : Cz) (k : Nat) (c : String) (m : Str) (F : FF) : Prop where
  ex : ∃ f fd ps names, FnA C k f fd ps F ∧ SlX.SCls C.K (C.ad c) ∧ Meth C.K (C.ad c) m f ∧ Binds C.K fd ps [] ∧ C.sl c = some names
theorem re_methS0 {c : String} {m : Str} {F : FF} {o : Expr} {mo : EE} {apos pos : Pos} {pl : Sem Bool} (g : Gd C X j) (M : MetS C k c m F) (ho : RE C X o mo) (hk : k ≤ j := by decide)
    (ht : eval (.Call (.Attribute o m apos) [] [] pos) X.env = (do
      let ov ← eval o X.env
      standAt apos.atName
      let (f, first) ← holding [ov] (getMethod ov m pl)
      callWith pos f first (backTo pos (starEach [] X.env)) (backToKw pos (keywordEach [] X.env))) := by rfl) :
    RE C X (.Call (.Attribute o m apos) [] [] pos) (eMethS c F mo lNil) := fun W tk => by
  obtain ⟨f, fd, ps, names, fn, hc, hm, hb, us⟩ := M.ex
  unfold FnA at fn
  rw [← g.hP, ← g.hw, ← g.hK, ← g.hm, ← g.hb] at fn
  rw [← g.hK] at hc hm hb
  refine ⟨fun pins s σ H Q I q => ?_⟩
  obtain ⟨ι, h, ρ, r, en, p⟩ := q
  refine PySem.W.methodCall_KW (pl := pl) (thn ((ho W tk).run pins s σ H _ I ⟨ι, h, ρ, r, en, GPost.bnd (R := AvR C) p⟩) fun u s1 ⟨x, H1, I1, rx, ι1, h1, a, r1, e1, x1, p1⟩ => ?_) ht
  by_cases z : isIns c h1 a = true
  · rw [if_pos z] at p1
    obtain ⟨q, dx, vs, rfl, st⟩ := isIns_sl us r1 x1 z
    obtain rfl : u = Value.ref q := rx
    refine SlX.getmethsl_ok I1 st hc hm ?_
    exact PySem.W.callWith_K0 (first := [.ref q]) I1.kIn hm.kp (run_fnS (us := [.ref q]) (vs := [.ref q]) (E := WE W) fn (g.room.mono hk) hb (passAt tk σ) I1 (.cons rfl .nil) ⟨ι1, h1, [a], r1, .cons x1 .nil, p1⟩)
  · rw [if_neg z] at p1; exact p1.elim
/-- a == b, both instances of the slotted class c with its own __eq__ -/
structure EqS (C : Cz) (k : Nat) (c : String) (F : FF) : Prop where
  ex : ∃ f fd ps names, FnA C k f fd ps F ∧ SlX.SCls C.K (C.ad c) ∧ PySem.W.findIn C.K (.ref (C.ad c)) "__eq__" = some (some (.ref f)) ∧ PySem.W.isFn C.K (.ref f) = true ∧ Binds C.K fd ps [] ∧ C.sl c = some names ∧ PySem.W.notFirst C.K (C.ad c) (.ref (C.ad c)) = true
theorem op_ownEq {c : String} {F : FF} (g : Gd C X j) (M : EqS C k c F) (hk : k ≤ j := by decide) : OpA C X (compareOp .Eq) (oOwnEq c F) := by
  obtain ⟨f, fd, ps, names, fn, hc, hf, hfn, hb, us, nf⟩ := M.ex
  unfold FnA at fn
  rw [← g.hP, ← g.hw, ← g.hK, ← g.hm, ← g.hb] at fn
  rw [← g.hK] at hc hf hfn hb nf
  have fr := fn.raw hb (dvs := []) .nil
  have base := SlX.op_own (X := X) (op := .Eq) (E := E0) (fun _ _ => rfl) hf hfn fr (g.room.mono hk) (passL (X := X))
  intro pins s σ H x y v u Q I rx ry ⟨ι, h, a, b, W, r, xa, xb, p⟩
  unfold oOwnEq at p
  by_cases z : (isIns c h a && isIns c h b) = true
  · rw [if_pos z] at p
    rw [Bool.and_eq_true] at z
    obtain ⟨q, dx, vs, rfl, st⟩ := isIns_sl us r xa z.1
    obtain ⟨q', dx', vs', rfl, st'⟩ := isIns_sl us r xb z.2
    exact base pins s σ H _ _ v u Q I rx ry ⟨q, dx, vs, q', _, dx', vs', rfl, rfl, st, st', nf, ι, h, [a, b], r, .cons xa (.cons xb .nil), p.noExc⟩
  · rw [if_neg z] at p; exact p.elim

/-! ### C(..) -/
theorem run_makeA {c : String} {F : FF} {fI : Addr} {fd : FuncData} {ps : List Str} {pins : List (Addr × Obj)} {σ : L2.St} {H : Hp} {s : Shared} {Q : VK} {us : List Value} {vs : List V} {W : WX} (tk : Takes X W) (M : Mk X.K (C.ad c) fI) (fn : FnOk X.prog X.w X.K X.mg X.base (L2.CX X.prog X.w) k fI fd ps (spA C F)) (hr : Room (k + 1) X.A) (hb : Binds X.K fd ps [])
    (I : Inv X pins σ H s) (r : Vals vs us)
    (h : ∀ x dx, H x = none → H dx = none → dx ≠ x → spA C F (.ref x :: vs) (upd (upd H dx (.own x)) x (.ins (C.ad c) dx [])) (fun v H2 => v = .non ∧ Q (.ref x) H2) (WE W σ)) :
    wpAny (model X.prog X.w) X.A (PySem.call (.ref (C.ad c)) us) (EP X pins σ Q) X.xe s := by
  have hq := h (s.heap.objs.size + 1) s.heap.objs.size (I.hok.fresh (Nat.le_succ _)) (I.hok.fresh (Nat.le_refl _)) (Nat.ne_of_lt (Nat.lt_succ_self _))
  have I2 := Inv.made (C := C.ad c) I
  have r2 : Vals (V.ref (s.heap.objs.size + 1) :: vs) (Value.ref (s.heap.objs.size + 1) :: us) := .cons rfl r
  have hl : (Value.ref (s.heap.objs.size + 1) :: us).length = ps.length := by
    have e := r2.length
    rw [fn.len _ _ _ _ hq] at e
    exact e.symm
  have b2 := hb { s with heap := (s.heap.push { cls := .type "dict", data := .dict #[] }).push (PySem.W.instObj (C.ad c) s.heap.objs.size) } (Value.ref (s.heap.objs.size + 1) :: us)
  refine wpAny_call (make_map (f := fI) I.kIn M.makes M.init (beq_iff_eq.mp M.fn) (codeAny_mono (fn.run _ X.stack _ _ ⟨Value.ref (s.heap.objs.size + 1) :: us, []⟩ (Value.ref (s.heap.objs.size + 1) :: us) _ _ (WE W σ) (hr.make (C.ad c) us [])
    (I2.env0.make (C.ad c) us []) (by
      have := hb _ (Value.ref (s.heap.objs.size + 1) :: us) I2.kIn (by rw [List.append_nil]; exact hl)
      rw [List.append_nil] at this
      exact this) r2 hq) fun r s' hq' => ?_))
  cases r with
  | error e => exact passAt tk σ pins _ _ e s' I2 hq'
  | ok fl =>
    cases fl with
    | ret u =>
      obtain ⟨v, H', I3, rv, ev, q3⟩ := I2.after hq'
      subst ev
      exact ⟨rv, ⟨V.ref (s.heap.objs.size + 1), H', I3, rfl, q3⟩⟩
    | next => exact False.elim hq'
    | brk => exact False.elim hq'
    | cont => exact False.elim hq'
/-- the new instance, then __init__ -/
theorem make_imp {c : String} {F : FF} {ι : Nat → Addr} {h : PA.Heap} {H : Hp} {as : List AV} {vs : List V} {Q : VK} {W : XK} (r : Rep C ι h H) (xs : AvRs C ι h.length H as vs)
    (p : GPost C (AvR C) ι h H Q W (match F (.loc h.length :: as) (h ++ [.ins c []]) with
      | .ok .non h' => .ok (.loc h.length) h'
      | .ok _ _ => .bad
      | .exc e h' => .exc e h'
      | .bad => .bad)) (x dx : Addr) (hx : H x = none) (hdx : H dx = none) (ne : dx ≠ x) : spA C F (.ref x :: vs) (upd (upd H dx (.own x)) x (.ins (C.ad c) dx [])) (fun v H2 => v = .non ∧ Q (.ref x) H2) W := by
  have r1 : Rep C ι h (upd H dx (.own x)) := r.laid hdx
  have ex1 : Ext ι h.length H ι h.length (upd H dx (.own x)) := Ext.laid r hdx
  have hx1 : (upd H dx (.own x)) x = none := by rw [upd_ne ne.symm]; exact hx
  have ex2 := Ext.grow (o := .ins (C.ad c) dx []) r1 hx1
  have ob : ObR C (put1 ι h.length x) (h.length + 1) (upd (upd H dx (.own x)) x (.ins (C.ad c) dx [])) x (.ins c []) := by
    cases z : C.sl c with
    | none => exact .inl ⟨z, dx, [], upd_same, .nil⟩
    | some names => exact .inr ⟨names, dx, [], z, .inl ⟨upd_same, by rw [upd_ne ne, upd_same], rfl⟩, ne, fun i f y h1 h2 => by cases h2⟩
  have r2 := r1.grow (ao := .ins c []) hx1 ob
  have ex : Ext ι h.length H (put1 ι h.length x) (h ++ [AO.ins c []]).length (upd (upd H dx (.own x)) x (.ins (C.ad c) dx [])) := by
    rw [List.length_append, List.length_singleton]
    exact ex1.trans ex2
  have lx : AvR C (put1 ι h.length x) (h ++ [AO.ins c []]).length (upd (upd H dx (.own x)) x (.ins (C.ad c) dx [])) (.loc h.length) (.ref x) := by
    have t : AvR C (put1 ι h.length x) (h ++ [AO.ins c []]).length (upd (upd H dx (.own x)) x (.ins (C.ad c) dx [])) (.loc h.length) (.ref (put1 ι h.length x h.length)) := .loc (by simp)
    rw [put1_same] at t
    exact t
  refine ⟨put1 ι h.length x, h ++ [.ins c []], .loc h.length :: as, r2, .cons lx (r.avs ex xs), ?_⟩
  cases e : F (.loc h.length :: as) (h ++ [.ins c []]) with
  | bad => rw [e] at p; exact p.elim
  | exc e' h' => rw [e] at p; exact fun ι1 H1 c d e1 r1 x1 => p ι1 H1 c d (ex.trans e1) r1 x1
  | ok v h' =>
    rw [e] at p
    cases v with
    | non =>
      intro ι1 H1 b e1 r1 x1
      cases x1
      refine ⟨rfl, p ι1 H1 (.ref x) (ex.trans e1) r1 ?_⟩
      have t : AvR C ι1 h'.length H1 (.loc h.length) (.ref (ι1 h.length)) := .loc (Nat.lt_of_lt_of_le (by simp) e1.le)
      rw [e1.agree h.length (by simp), put1_same] at t
      exact t
    | _ => exact p.elim
theorem re_make {c : String} {x : Str} {F : FF} {e : Expr} {es : List Expr} {l : LL} {p pos : Pos} (g : Gd C X j) (M : MakA C k c x F) (hl : RL C X (e :: es) l) (hk : k + 1 ≤ j := by decide) (hg : Gl X x := by rfl) (hdb : (x == ("__debug__" : Str)) = false := by decide)
    (he : starEach (e :: es) X.env = (false, eval e X.env) :: starEach es X.env := by rfl) (hpl : (backTo pos (starEach es X.env)).any (·.1) = false := by rfl) :
    RE C X (.Call (.Name x p) (e :: es) [] pos) (eMake c F l) := fun W tk => by
  obtain ⟨f, fd, ps, fn, mk, hm, hb⟩ := M.ex
  unfold FnA at fn
  rw [← g.hP, ← g.hw, ← g.hK, ← g.hm, ← g.hb] at fn
  rw [← g.hm] at hm
  rw [← g.hK] at mk hb
  refine ⟨fun pins s σ H Q I q => ?_⟩
  obtain ⟨ι, h, ρ, r, en, p⟩ := q
  refine wpAny_Call_Name_kw (ld_glob I hg hm ?_ hdb)
  refine PySem.W.callWith_K (h₀ := X.base) I.ok.mod.kin mk.kp (thn ((hl W tk).run pos pins s σ H _ I ⟨ι, h, ρ, r, en, GPost.bnd (R := AvRs C) p⟩) fun us s1 ⟨vs, H1, I1, r', ι1, h1, as, r1, e1, x1, p1⟩ => ⟨I1.kIn, ?_⟩) he hpl
  exact run_makeA tk mk fn (g.room.mono hk) hb I1 r' fun x dx hx hdx ne => make_imp r1 x1 p1 x dx hx hdx ne
end
end PL
set_option maxRecDepth 100000
set_option maxHeartbeats 2000000
/-! Lift14: names of the module, o.f += e, int of a text, isinstance of own classes, never. -/
namespace PL
open PySem PySem.Spec PyProof.Rows L2 PA
section
variable {C : Cz} {X : Cx} {j k : Nat}
theorem rs_never {st : Stmt} : RS C X st sBad := fun W tk => PS_imp ps_never fun D σ H ⟨ι, h, ρ, r, en, p⟩ => p
theorem rss_never {st : List Stmt} : RSs C X st sBad := fun W tk => PSs_imp pss_never fun D σ H ⟨ι, h, ρ, r, en, p⟩ => p
theorem rt_chain {op op' : CmpOp} {o o' : O2} {a b c : Expr} {ma mb mc : EE} {pos : Pos} (ho : OpA C X (compareOp op) o) (ho' : OpA C X (compareOp op') o') (ha : RE C X a ma) (hb : RE C X b mb) (hc : RE C X c mc)
    (hm : lastMarks [op, op'] [b, c] = false := by with_unfolding_all rfl) : RT C X (.Compare a [op, op'] [b, c] pos) (tB (eChain o o' ma mb mc)) := fun W tk =>
  PT_imp (pt_chain ho ho' (ha W tk) (hb W tk) (hc W tk) hm) fun σ H Q q => chain_imp (tB_imp q)
/-- a name of the module whose value is known -/
structure GlA (C : Cz) (x : Str) (a : AV) : Prop where
  ex : ∃ v u, C.mg x = some u ∧ RelV v u ∧ ∀ ι n H, AvR C ι n H a v
theorem re_gl {x : Str} {a : AV} {pos : Pos} (g : Gd C X j) (G : GlA C x a) (hg : Gl X x := by rfl) (hd : (x == ("__debug__" : Str)) = false := by decide) : RE C X (.Name x pos) (eC a) := by
  obtain ⟨v, u, hm, r, k⟩ := G.ex
  exact re_c (pe_glob hg (by rw [g.hm]; exact hm) r hd) fun ι n H => k ι n H
theorem re_bty {x : Str} {T : String} {pos : Pos} (g : Gd C X j) (hm : C.mg x = none) (hv : bootBuiltins x = some (.type T)) (hg : Gl X x := by rfl) (hn : x ≠ "__name__" := by decide) (hd : (x == ("__debug__" : Str)) = false := by decide) : RE C X (.Name x pos) (eC (.ty T)) :=
  re_c (pe_bltn (v := .ty T) hg (by rw [g.hm]; exact hm) hv rfl hn hd) fun _ _ _ => .ty T
/-- int(text): the texts whose value is told -/
theorem cr_intS {val : Str → Option Int} (hv : ∀ z n, val z = some n → PySem.intText? z = some n ∧ z.length ≤ 640) : CrA C X (.type "int") (bIntS val) := by
  intro pins s σ H xs us Q I rv ⟨ι, h, as, W, r, x, p⟩
  cases x with
  | nil => exact p.elim
  | cons a b =>
    cases b with
    | cons _ _ => cases a <;> exact p.elim
    | nil =>
      cases a with
      | str z =>
        unfold bIntS at p
        dsimp only at p
        cases e : val z with
        | none => rw [e] at p; exact p.elim
        | some n =>
          rw [e] at p
          obtain ⟨h1, h2⟩ := hv z n e
          exact call_int_str pins s σ H _ us Q I rv ⟨z, n, rfl, h1, h2, p ι H _ Ext.refl r (.int _)⟩
      | _ => exact p.elim
theorem sBnd_ok {α : Type} {m : PA.Env → PA.Heap → Res α} {k : α → SS} {ρ : PA.Env} {h h' : PA.Heap} {a : α} (e : m ρ h = .ok a h') : sBnd m k ρ h = k a ρ h' := by
  unfold sBnd; rw [e]
theorem rs_fldaug {c : String} {f : Str} {o e : Expr} {mo me : EE} {op : Operator} {oo : O2} {pos pos' : Pos} (hK : X.K = C.K) (F : FldA C c f) (hop : ∀ (pins : List (Addr × Obj)) (s : Shared) (σ : L2.St) (H : Hp) (x y : V) (u v : Value) (Q : VK), Inv X pins σ H s → RelV x u → RelV y v → rA C oo x y H Q → wpAny (model X.prog X.w) X.A (inplaceOp op u v) (EP X pins σ Q) X.xe s)
    (ho : RE C X o mo) (he : RE C X e me) : RS C X (.AugAssign (.Attribute o f pos') op e pos) (sAttrAug c oo mo f me) := fun W tk =>
  PS_imp (ps_fldaug (rd := rA C oo) (ho W tk) (he W tk) hop) fun D σ H ⟨ι, h, ρ, r, en, p⟩ => ⟨ι, h, ρ, r, en, (SPost.bnd (R := AvR C) r en p).mono fun x H1 ⟨ι1, h1, a, r1, e1, x1, p1⟩ => by
    cases x1 with
    | @loc l hl =>
      cases z : h1[l]? with
      | none => unfold sBnd at p1; dsimp only at p1; rw [z] at p1; exact p1.elim
      | some ob =>
        cases ob with
        | ins c' fs =>
          by_cases zc : c' = c
          · subst zc
            rcases r1.at_ l _ z with ⟨_, dx, gs, eh, fr⟩ | ⟨names, dx, vs, e0, _⟩
            · rcases fr.lookup f with ⟨y, v, l1, l2, xv⟩ | ⟨l1, l2⟩
              · rw [sBnd_ok (a := y) (h' := h1) (by dsimp only; rw [z]; dsimp only; rw [if_pos rfl, l1])] at p1
                refine ⟨_, _, dx, gs, v, rfl, eh, by rw [hK]; exact F.cl, by rw [hK]; exact F.no, l2, ι1, h1, ρ, r1, en.ext r e1, (SPost.bnd (R := AvR C) (m := me) r1 (en.ext r e1) p1).mono fun w H2 ⟨ι2, h2, b, r2, e2, x2, p2⟩ => ?_⟩
                refine ⟨ι2, h2, y, b, _, r2, r1.av e2 xv, x2, (SPost.bnd (R := AvR C) (m := fun _ => oo y b) r2 ((en.ext r e1).ext r1 e2) p2).mono fun t H3 ⟨ι3, h3, d, r3, e3, x3, p3⟩ => ?_⟩
                dsimp only at p3
                cases z3 : h3[l]? with
                | none => rw [z3] at p3; exact p3.elim
                | some ob3 =>
                  cases ob3 with
                  | ins c3 fs3 =>
                    rw [z3] at p3
                    dsimp only at p3
                    by_cases zz : c3 = c' ∧ fs3.length < 100
                    · rw [if_pos zz] at p3
                      obtain ⟨zz, zl⟩ := zz
                      subst zz
                      have ag : ι3 l = ι1 l := ((e2.trans e3).agree l hl)
                      have hl3 := (List.getElem?_eq_some_iff.mp z3).1
                      rcases r3.at_ l _ z3 with ⟨us, dx3, gs3, eh3, fr3⟩ | ⟨names, dx, vs, e0, _⟩
                      · have nf : ∀ o u, H3 (ι3 l) ≠ some (.frz o u) := fun o u q => by rw [eh3] at q; cases q
                        have ex := Ext.chg (u := .ins (C.ad c3) dx3 (L2.putF f t gs3)) r3 hl3 nf
                        rw [← ag]
                        refine ⟨dx3, gs3, eh3, by rw [← fr3.length]; omega, p3 ι3 _ σ (by rw [List.length_set]; exact ex) (r3.chg hl3 nf (.inl ⟨us, dx3, _, upd_same, (r3.fsr ex fr3).put (r3.av ex x3) f⟩)) ?_⟩
                        rw [List.length_set]
                        exact (((en.ext r e1).ext r1 e2).ext r2 e3).ext r3 ex
                      · rw [F.us] at e0; cases e0
                    · rw [if_neg zz] at p3; exact p3.elim
                  | _ => rw [z3] at p3; exact p3.elim
              · unfold sBnd at p1
                dsimp only at p1
                rw [z] at p1
                dsimp only at p1
                rw [if_pos rfl, l1] at p1
                exact p1.elim
            · rw [F.us] at e0; cases e0
          · unfold sBnd at p1
            dsimp only at p1
            rw [z] at p1
            dsimp only at p1
            rw [if_neg zc] at p1
            exact p1.elim
        | _ => unfold sBnd at p1; dsimp only at p1; rw [z] at p1; exact p1.elim
    | _ => exact p1.elim⟩
/-- x += e of whole numbers -/
theorem io_add : ∀ (pins : List (Addr × Obj)) (s : Shared) (σ : L2.St) (H : Hp) (x y : V) (u v : Value) (Q : VK), Inv X pins σ H s → RelV x u → RelV y v → rA C oAddI x y H Q → wpAny (model X.prog X.w) X.A (inplaceOp .Add u v) (EP X pins σ Q) X.xe s := by
  intro pins s σ H x y u v Q I rx ry ⟨ι, h, a, b, W, r, xa, xb, p⟩
  cases xa with
  | int i =>
    cases xb with
    | int j => exact ip_add pins s σ H _ _ u v Q I rx ry ⟨i, j, rfl, rfl, p ι H _ Ext.refl r (.int _)⟩
    | _ => exact p.elim
  | _ => exact p.elim
end
end PL
set_option maxRecDepth 100000
set_option maxHeartbeats 2000000
/-! Lift15: enumerate. -/
namespace PySem
open Sem (wp)
set_option maxHeartbeats 1000000 in
theorem meets_enumerate_newB1 {v : Value} {o : Obj} {H : Heap → Prop} (B : Begins v o H) :
    Meets (Builtin.«enumerate.__new__» ⟨[.type "enumerate", v], []⟩) (fun _ R s => H s.heap ∧
      R (.ok (.ret (.ref (s.heap.push o).objs.size))) { s with heap := (s.heap.push o).push { cls := .type "enumerate", data := .fields #[.none, .bool false, .ref s.heap.objs.size, rawInt 0, .none, .none] } }) :=
  .of_wp fun prog w A R s h => by
    obtain ⟨hp, g, d, tk, os⟩ := s; obtain ⟨h1, h⟩ := h
    have hsub := sub_enumerate
    have q1 : ∀ {A' : Around} {E : Value → Shared → Prop} {Q : Value → Shared → Prop}, Q (.ref hp.objs.size) ⟨hp.push o, g, d, tk, os⟩ → wpAny (model prog w) A' (pyIter v) Q E ⟨hp, g, d, tk, os⟩ :=
      fun q => B.iter prog w _ _ ⟨hp, g, d, tk, os⟩ _ h1 q
    wp_walk using q1
    refine wpAny_stack_any fun st => wpAny_pure ?_
    split
    · rename_i c _ _ _ _ _
      cases (c == Value.type "enumerate")
      · wp_walk using q1
        exact ⟨_, rfl, h⟩
      · wp_walk using q1
        exact ⟨_, rfl, h⟩
    · wp_walk using q1
      exact ⟨_, rfl, h⟩
section
variable {prog : Program} {w : World} {A : Around} {E : Value → Shared → Prop} {s : Shared}
/-- enumerate(v): its two new cells -/
theorem enum_begins1 {v : Value} {o : Obj} {H : Heap → Prop} {Q : Value → Shared → Prop} (B : Begins v o H) (h1 : H s.heap)
    (h : ∀ h', IsEnum h' (s.heap.objs.size + 1) s.heap.objs.size 0 .none → h'.get? s.heap.objs.size = some o → h'.objs.size = s.heap.objs.size + 2 →
      (∀ b o, s.heap.get? b = some o → h'.get? b = some o) → Q (.ref (s.heap.objs.size + 1)) { s with heap := h' }) :
    wpAny (model prog w) A (call (.type "enumerate") [v]) Q E s := by
  refine callType_new F.called_enumerate (by decide) (F.typeCall_enumerate_1 _) (F.newCall_enumerate_1 _) (fun obj => F.args_object_init_2 obj _) F.entry_enumerate_new
    (meets_enumerate_newB1 B) ⟨h1, ?_⟩
  have hz : (s.heap.push o).objs.size = s.heap.objs.size + 1 := Heap.size_push ..
  show _ ∧ _
  rw [hz]
  have he : IsEnum ((s.heap.push o).push { cls := .type "enumerate", data := .fields #[.none, .bool false, .ref s.heap.objs.size, rawInt 0, .none, .none] }) (s.heap.objs.size + 1) s.heap.objs.size 0 .none := by
    have := Heap.get?_push_size (s.heap.push o) (o := { cls := .type "enumerate", data := .fields #[.none, .bool false, .ref s.heap.objs.size, rawInt 0, .none, .none] }) rfl
    rw [hz] at this; exact this
  refine ⟨⟨_, he, rfl⟩, h _ he (Heap.get?_push_of_some _ (Heap.get?_push_size _ B.free)) (by rw [Heap.size_push, hz]) fun b o x => Heap.get?_push_of_some _ (Heap.get?_push_of_some _ x)⟩
end
end PySem
namespace PL
open PySem PySem.Spec PyProof.Rows L2 PA
/-- the tuple at a, each item in a new pair -/
def IteT (K : PySem.W.Frag) (a : Addr) : It :=
  ⟨fun i H => ∃ (xs : List V) (x : V), SqT K H a xs ∧ xs[i]? = some x, fun i H v H' => ∃ T x, v = .ref T ∧ H T = none ∧ H' = upd H T (.tup [.int (i : Nat), x]) ∧ ∀ xs, SqT K H a xs → xs[i]? = some x, fun i H => ∃ xs : List V, SqT K H a xs ∧ xs.length ≤ i⟩
theorem tupIt_ne {h : PySem.Heap} {it a : Addr} {i : Nat} {items : Array Value} (x : h.IsTupleIter it a i) (y : h.IsTuple a items) : a ≠ it := by
  intro z
  subst z
  obtain ⟨o, e, c, _⟩ := x
  obtain ⟨o', e', c', _⟩ := y
  rw [e] at e'
  cases e'
  rw [c] at c'
  injection c' with c'
  exact absurd c' (by decide)
theorem turn_enumT {P : Program} {w : World} {K : PySem.W.Frag} {elts : List Expr} {kk : Nat} {tpos : Pos} (a e it : Addr) :
    Turn P w K (.Tuple elts kk tpos) (IteT K a) [e, it] e (fun i h => (∃ old, IsEnum h e it ((i : Nat) : Int) old) ∧ h.IsTupleIter it a i ∧ e ≠ it) where
  mem := by simp
  obj := fun i h st b hb => by
    obtain ⟨⟨old, he⟩, ⟨o, ho, hc, hd⟩, _⟩ := st
    have e' : b = e ∨ b = it := by simpa using hb
    rcases e' with z | z
    · rw [z]; exact ⟨_, he, fun v q => nomatch q⟩
    · rw [z]; exact ⟨o, ho, fun v q => by rw [hd] at q; cases q⟩
  keep := fun i h h' st k => let ⟨⟨old, he⟩, hi, hne⟩ := st; ⟨⟨old, k e (by simp) _ he⟩, hi.at fun o q => k it (by simp) o q, hne⟩
  item := by
    intro X hP hw hK hc i pins s σ H E I hf st hg
    subst hP hw hK
    obtain ⟨⟨old, he⟩, hit, hne⟩ := st
    obtain ⟨xs, x, hq, hx⟩ := hg
    obtain ⟨its, rv, p, hz⟩ := I.tuple hq
    obtain ⟨u, hu, ru⟩ := rv.get hx
    have hT0 : s.heap.IsTuple a its.toArray := p
    have hel : e < s.heap.objs.size := Heap.lt_size he
    have hil : it < s.heap.objs.size := by obtain ⟨_, q, _⟩ := hit; exact Heap.lt_size q
    have hea : e ≠ a := by
      intro z
      subst z
      obtain ⟨o', e', c', _⟩ := hT0
      rw [he] at e'
      cases e'
      injection c' with c'
      exact absurd c' (by decide)
    have hi : i < its.toArray.size := by simpa using (List.getElem?_eq_some_iff.mp hu).1
    have D := Draws.tuple (prog := X.prog) (w := X.w) (A := X.A.in1) (I.ok.hd hc) it a (tupIt_ne hit hT0) its.toArray
    refine wpAny_pyNext_enum_itemD D he ⟨hit, hT0⟩ hi hne (by simp [hne, hea]) fun y h' tk hP ho st' hT hsz hk => ?_
    obtain ⟨hit', hT0'⟩ := st'
    have hy : y = u := by
      have : its.toArray[i]? = some u := by simpa using hu
      rw [this] at hP
      exact (Option.some.inj hP).symm
    subst hy
    refine ⟨_, rfl, wpAny_letOwnedTupleGo_enum (s := { s with heap := h', toks := tk + 1 }) ho fun h'' he' sb => ?_⟩
    have hT2 : h''.get? s.heap.objs.size = some { cls := .type "tuple", data := .seq #[.int i tk, y] } := (sb.2 _ (Nat.ne_of_gt hel)).trans hT
    have new : ObjOk X.prog X.w (upd H s.heap.objs.size (.tup [.int (i : Nat), x])) h'' s.heap.objs.size (.tup [.int (i : Nat), x]) :=
      ⟨by show 2 ≤ sizeLine; decide, [.int i tk, y], .cons ⟨_, rfl⟩ (.cons ru .nil), ⟨_, hT2, rfl, _, rfl⟩⟩
    have I1 : Inv X pins σ (upd H s.heap.objs.size (.tup [.int (i : Nat), x])) { s with heap := h'', toks := tk + 1 } :=
      I.turnedNew (ch := [e, it]) (fun b ob hb q => (sb.2 b (fun z => hb (by simp [z]))).trans (hk b ob (fun z => hb (by simp [z])) (fun z => hb (by simp [z])) q)) hf (Nat.le_refl _) new
    refine ⟨.ref s.heap.objs.size, _, I1, rfl, ⟨_, x, rfl, I.hok.fresh (Nat.le_refl _), rfl, fun ys hy => by rw [I.tuple_inj hy hq]; exact hx⟩, ⟨⟨y, ?_⟩, hit'.at fun o q => (sb.2 it (Ne.symm hne)).trans q, hne⟩, fun b hb => ?_⟩
    · have e1 : ((i + 1 : Nat) : Int) = (i : Int) + 1 := by omega
      rw [e1]; exact he'
    · have hb' : b < s.heap.objs.size := by
        have e' : b = e ∨ b = it := by simpa using hb
        rcases e' with z | z
        · rw [z]; exact hel
        · rw [z]; exact hil
      rw [upd_ne (Nat.ne_of_lt hb')]
      exact (hf b hb).1
  done := by
    intro X hP hw hK hc i pins s σ H E I hf st hg
    subst hP hw hK
    obtain ⟨⟨old, he⟩, hit, hne⟩ := st
    obtain ⟨xs, hq, hx⟩ := hg
    obtain ⟨its, rv, p, hz⟩ := I.tuple hq
    have hT0 : s.heap.IsTuple a its.toArray := p
    obtain ⟨f0, f1, f2, f3, f4, f5⟩ := hf it (by simp)
    have hl := rv.length
    have D := Draws.tuple (prog := X.prog) (w := X.w) (A := X.A.in1) (I.ok.hd hc) it a (tupIt_ne hit hT0) its.toArray
    have hd : wpAny (model X.prog X.w) X.A.in1 (Builtin.SmallTypes.nextOf (.ref it)) (fun _ _ => False) (fun _ _ => False) s → True := fun _ => trivial
    have D0 : Draws X.prog X.w X.A.in1 it [it, a] i (fun i v => its.toArray[i]? = some v ∧ False) (fun k h => (k = i) ∧ h.IsTupleIter it a i ∧ h.IsTuple a its.toArray) :=
      { live := fun k h st => let ⟨o, ho, _⟩ := st.2.1; ⟨o, ho⟩
        frame := fun k h h' st kk => ⟨st.1, st.2.1.at fun o e => kk it (by simp) o e, st.2.2.at fun o e => kk a (by simp) o e⟩
        item := fun k s Q E lt st _ => absurd st.1 (Nat.ne_of_lt lt)
        done := fun s Q E st hE => wpAny_nextOf_tuple_end (I.ok.hd hc) st.2.1 st.2.2 (by simp; omega) hE }
    exact wpAny_pyNext_enum_endD D0 he ⟨rfl, hit, hT0⟩ fun h' eb => ⟨rfl, I.turned (t' := s.toks) (fun b o hb q => eb b o hb q) f0 f1 f3 f4 f5⟩
  self := fun A i s Q E st h => let ⟨⟨_, he⟩, _⟩ := st; wpAny_pyIter_enum he h
def iEnumT (K : PySem.W.Frag) (ta : TA) : TI := fun σ H R => ta σ H fun vs H1 => ∃ a xs, vs = [.ref a] ∧ SqT K H1 a xs ∧ R (IteT K a) H1
theorem pi_enumT {X : Cx} {e : Expr} {ta : TA} {p pos tpos : Pos} {elts : List Expr} {kk : Nat} (hg : Gl X "enumerate") (hm : X.mg "enumerate" = none) (ha : PA X [e] ta) (hs : starEach [e] X.env = [(false, eval e X.env)] := by rfl) :
    PI X (.Tuple elts kk tpos) (.Call (.Name "enumerate" p) [e] [] pos) (iEnumT X.K ta) := by
  refine ⟨fun pins s σ H R I h => ?_⟩
  refine Call_ (ld_blt I hg hm boot_enumerate (PyProof.Rows.callWith_type1 (thn (ha.run pos pins s σ H _ I h) fun us s1 ⟨vs, H1, I1, r1, q1⟩ => ?_) hs rfl))
  obtain ⟨a, xs, ex, hq, q⟩ := q1
  subst ex
  cases r1 with
  | cons r rr =>
    cases rr
    cases r
    obtain ⟨its, rv, p', hz⟩ := I1.tuple hq
    have hT0 : s1.heap.IsTuple a its.toArray := p'
    refine enum_begins1 (begins_tuple a its.toArray) hT0 fun h' he hit hsz hk => wpAny_pyIter_enum he ?_
    have I2 : Inv X pins σ H1 { s1 with heap := h' } := I1.kept (t' := s1.toks) hk
    refine ⟨s1.heap.objs.size + 1, [s1.heap.objs.size + 1, s1.heap.objs.size], _, _, H1, rfl, I2, turn_enumT a (s1.heap.objs.size + 1) s1.heap.objs.size, ⟨⟨.none, he⟩, ⟨_, hit, rfl, rfl⟩, Nat.succ_ne_self _⟩, fun b hb => ?_, q⟩
    have e' : b = s1.heap.objs.size + 1 ∨ b = s1.heap.objs.size := by simpa using hb
    have hle : s1.heap.objs.size ≤ b := by
      rcases e' with z | z
      · rw [z]; exact Nat.le_add_right _ _
      · rw [z]; exact Nat.le_refl _
    exact I1.fpOk hle (I1.hok.fresh hle)
section
variable {C : Cz} {X : Cx} {tg : Expr} {j : Nat}
theorem numbered_get {xs : List AV} {i : Nat} {x : AV} (e : (PA.numbered xs)[i]? = some x) : ∃ y, xs[i]? = some y ∧ x = .tup [.int (i : Nat), y] := by
  unfold PA.numbered at e
  rw [List.getElem?_map, List.getElem?_zipIdx] at e
  cases z : xs[i]? with
  | none => rw [z] at e; cases e
  | some y => rw [z] at e; simp at e; exact ⟨y, rfl, e.symm⟩
theorem numbered_end {xs : List AV} {i : Nat} (e : (PA.numbered xs)[i]? = none) : xs.length ≤ i := by
  have := List.getElem?_eq_none_iff.mp e
  simpa [PA.numbered] using this
theorem pair_new {ι : Nat → Addr} {h : PA.Heap} {H : Hp} {T : Addr} {i : Nat} {x : V} {y : AV} (r : Rep C ι h H) (hT : H T = none) (xy : AvR C ι h.length H y x) : Ext ι h.length H ι h.length (upd H T (.tup [.int (i : Nat), x])) ∧ Rep C ι h (upd H T (.tup [.int (i : Nat), x])) ∧ AvR C ι h.length (upd H T (.tup [.int (i : Nat), x])) (.tup [.int (i : Nat), y]) (.ref T) := by
  have ex := Ext.laid (o := .tup [.int (i : Nat), x]) r hT
  have r1 := r.laid (o := .tup [.int (i : Nat), x]) hT
  exact ⟨ex, r1, .tup (SqT.of upd_same) (.cons (.int _) (.cons (r.av ex xy) .nil))⟩
theorem ri_enumT {e : Expr} {m : EE} {p pos tpos : Pos} {elts : List Expr} {kk : Nat} (g : Gd C X j) (hm : C.mg "enumerate" = none) (he : RE C X e m) (hg : Gl X "enumerate" := by rfl) (hs : starEach [e] X.env = [(false, eval e X.env)] := by rfl) : RI C X (.Tuple elts kk tpos) (.Call (.Name "enumerate" p) [e] [] pos) (PA.iEnumT m) := fun W tk =>
  PI_imp (pi_enumT hg (by rw [g.hm]; exact hm) (pa_cons (he W tk) pa_nil hs) hs) fun σ H R ⟨ι, h, ρ, r, en, p⟩ => ⟨ι, h, ρ, r, en, (GPost.bnd (R := AvR C) p).mono fun x H1 ⟨ι1, h1, a, r1, e1, x1, p1⟩ => by
    cases x1 with
    | @tup q xs vs t av =>
      refine ⟨q, vs, rfl, by rw [g.hK]; exact t, p1 ι1 H1 (IteT X.K q) Ext.refl r1 (itoN fun ι h H e2 r2 i => ?_)⟩
      have t2 : SqT X.K H q vs := by rw [g.hK]; exact r1.sqT e2 t
      have av2 := r1.avs e2 av
      refine ⟨fun x ex => ?_, fun ex => ?_⟩
      · obtain ⟨y, hy, rfl⟩ := numbered_get ex
        obtain ⟨v, h1, h2⟩ := av2.get hy
        refine ⟨⟨vs, v, t2, h1⟩, fun v' H' yy => ?_⟩
        obtain ⟨T, x', rfl, hT, rfl, yy⟩ := yy
        have := yy vs t2
        rw [h1] at this
        cases this
        exact pair_new r2 hT h2
      · refine ⟨vs, t2, ?_⟩
        rw [← av2.length]
        exact numbered_end ex
    | _ => exact p1.elim⟩
theorem ri_enum {e : Expr} {m : EE} {p pos tpos : Pos} {elts : List Expr} {kk : Nat} (g : Gd C X j) (hm : C.mg "enumerate" = none) (he : RE C X e m) (hg : Gl X "enumerate" := by rfl) (hs : starEach [e] X.env = [(false, eval e X.env)] := by rfl) : RI C X (.Tuple elts kk tpos) (.Call (.Name "enumerate" p) [e] [] pos) (PA.iEnum m) := fun W tk =>
  PI_imp (pi_enum hg (by rw [g.hm]; exact hm) (pa_cons (he W tk) pa_nil hs) hs) fun σ H R ⟨ι, h, ρ, r, en, p⟩ => ⟨ι, h, ρ, r, en, (GPost.bnd (R := AvR C) p).mono fun x H1 ⟨ι1, h1, a, r1, e1, x1, p1⟩ => by
    cases x1 with
    | @loc l hl =>
      dsimp only at p1
      cases z : h1[l]? with
      | none => rw [z] at p1; exact p1.elim
      | some o =>
        cases o with
        | lst xs0 =>
          rw [z] at p1
          dsimp only at p1
          obtain ⟨vs0, hv0, _⟩ := lst_at r1 z
          refine ⟨_, vs0, rfl, SqL.of hv0, p1 ι1 H1 (Ite X.K (ι1 l)) Ext.refl r1 fun ι h H e2 r2 i ys ei => ?_⟩
          unfold lstOf at ei
          dsimp only at ei
          cases z2 : h[l]? with
          | none => rw [z2] at ei; cases ei
          | some o2 =>
            cases o2 with
            | lst ws =>
              rw [z2] at ei
              cases ei
              obtain ⟨vs, hv, av⟩ := lst_at r2 z2
              rw [e2.agree l hl] at hv
              refine ⟨fun x ex => ?_, fun ex => ?_⟩
              · obtain ⟨y, hy, rfl⟩ := numbered_get ex
                obtain ⟨v, h1, h2⟩ := av.get hy
                refine ⟨⟨vs, v, SqL.of hv, h1⟩, fun v' H' yy => ?_⟩
                obtain ⟨T, x', rfl, hT, rfl, yy⟩ := yy
                have := yy vs (SqL.of hv)
                rw [h1] at this
                cases this
                exact pair_new r2 hT h2
              · refine ⟨vs, SqL.of hv, ?_⟩
                rw [← av.length]
                exact numbered_end ex
            | _ => rw [z2] at ei; cases ei
        | _ => rw [z] at p1; exact p1.elim
    | _ => exact p1.elim⟩
end
end PL
set_option maxRecDepth 100000
set_option maxHeartbeats 2000000
/-! Lift16: dicts that are walked. -/
namespace PL
open PySem PySem.Spec PyProof.Rows L2 PA

/-! ### a dict of the module -/
def ItkK (es : Array DictEntry) : It :=
  ⟨fun i _ => i < es.size, fun i H x H' => H' = H ∧ ∃ en z t, es[i]? = some en ∧ en.key = .str z t ∧ x = .str z, fun i _ => es.size ≤ i⟩
theorem turn_keysK {P : Program} {w : World} {K : PySem.W.Frag} {tg : Expr} {d : Addr} {es : Array DictEntry} {n : Nat} (D : KDict K w d es n) (it : Addr) : Turn P w K tg (ItkK es) [it] it (fun i h => h.IsKeyIter it d i es.size n) where
  mem := by simp
  obj := fun i h st b hb => by
    have e : b = it := by simpa using hb
    subst e
    obtain ⟨oi, e, c, dd⟩ := st
    exact ⟨oi, e, fun v z => by rw [dd] at z; cases z⟩
  keep := fun i h h' st k => st.at fun oi e => k it (by simp) oi e
  item := by
    intro X hP hw hK hc i pins s σ H E I hf st hi
    subst hP hw hK
    obtain ⟨f0, f1, f2, f3, f4, f5⟩ := hf it (by simp)
    have hd := I.kIn _ _ D.at_
    have hi' : i < es.size := hi
    have hx : es[i]? = some es[i] := Array.getElem?_eq_getElem hi'
    obtain ⟨z, t, hk, _⟩ := D.lit.all es[i] (Array.mem_toList_iff.mpr (Array.getElem_mem hi'))
    refine next_key_item st hd rfl rfl hx fun h' st' sb => ?_
    have I1 : Inv X pins σ H { s with heap := h' } := I.turned (t' := s.toks) (fun b ob hb e => (sb.2 b hb).trans e) f0 f1 f3 f4 f5
    obtain ⟨oi, e, c, dd⟩ := id st'
    exact ⟨_, rfl, go_of (s := { s with heap := h' }) e c dd (by decide) ⟨.str z, H, I1, ⟨t, hk⟩, ⟨rfl, es[i], z, t, hx, hk, rfl⟩, st', fun b hb => (hf b hb).1⟩⟩
  done := by
    intro X hP hw hK hc i pins s σ H E I hf st hi
    subst hP hw hK
    obtain ⟨f0, f1, f2, f3, f4, f5⟩ := hf it (by simp)
    have hd := I.kIn _ _ D.at_
    exact next_key_end (I.ok.hd hc) st hd rfl rfl hi fun h' eb => ⟨rfl, I.turned (t' := s.toks) (fun b ob hb e => eb b ob hb e) f0 f1 f3 f4 f5⟩
  self := fun A i s Q E st h => wpAny_pyIter_keyiter st h
def iKeysK (es : Array DictEntry) (d : Addr) (td : TE) : TI := fun σ H R => td σ H fun x H1 => x = .ref d ∧ R (ItkK es) H1
theorem pi_keysK {X : Cx} {tg e : Expr} {td : TE} {d : Addr} {es : Array DictEntry} {n : Nat} (D : KDict X.K X.w d es n) (he : PE X e td) : PI X tg e (iKeysK es d td) := by
  refine ⟨fun pins s σ H R I h => ?_⟩
  refine thn (he.run pins s σ H _ I h) fun u s1 ⟨x, H1, I1, rx, ex, q⟩ => ?_
  subst ex
  obtain rfl : u = Value.ref d := rx
  have hd := I1.kIn _ _ D.at_
  exact iter_keys D.low hd ⟨rfl, rfl, rfl⟩ rfl (pi_one (tk := s1.toks) I1 _ (turn_keysK D _) ⟨_, Heap.get?_push_size _ rfl, rfl, rfl⟩ q)
/-- the keys of a dict of the module -/
structure KdK (C : Cz) (x : Str) (ks : List Str) : Prop where
  ex : ∃ d es n, C.mg x = some (.ref d) ∧ KDict C.K C.w d es n ∧ es.toList.map He.keyOf = He.keysIn C.w.params ks
section
variable {C : Cz} {X : Cx} {tg : Expr} {j k : Nat}
theorem keys_get {es : Array DictEntry} {ks : List Str} {P : Params} (h : es.toList.map He.keyOf = He.keysIn P ks) {i : Nat} {en : DictEntry} {z : Str} {t : Tok} (e : es[i]? = some en) (ek : en.key = .str z t) : ks[i]? = some z := by
  have h1 : (es.toList.map He.keyOf)[i]? = (He.keysIn P ks)[i]? := by rw [h]
  unfold He.keysIn at h1
  rw [List.getElem?_map, List.getElem?_map, Array.getElem?_toList, e] at h1
  cases q : ks[i]? with
  | none => rw [q] at h1; cases h1
  | some k =>
    rw [q] at h1
    have h2 := Option.some.inj h1
    unfold He.keyOf at h2
    rw [ek] at h2
    have h3 := Option.some.inj h2
    rw [(Prod.mk.inj h3).1]
theorem keys_size {es : Array DictEntry} {ks : List Str} {P : Params} (h : es.toList.map He.keyOf = He.keysIn P ks) : es.size = ks.length := by
  have := congrArg List.length h
  simpa [He.keysIn] using this
theorem ri_keysK {x : Str} {ks : List Str} {p : Pos} (g : Gd C X j) (K : KdK C x ks) (hg : Gl X x := by rfl) (hd : (x == ("__debug__" : Str)) = false := by decide) : RI C X tg (.Name x p) (PA.iKeysK ks) := fun W tk => by
  obtain ⟨d, es, n, hm, D, hks⟩ := K.ex
  have D' := kd_transport D g.hK g.hw
  refine PI_imp (pi_keysK D' (ev_glob g hm hg hd)) fun σ H R ⟨ι, h, ρ, r, en, p⟩ => ⟨rfl, p ι H (ItkK es) Ext.refl r (itoN fun ι h H e2 r2 i => ⟨fun x ex => ?_, fun ex => ?_⟩)⟩
  · rw [List.getElem?_map] at ex
    cases q : ks[i]? with
    | none => rw [q] at ex; cases ex
    | some z =>
      rw [q] at ex
      cases ex
      refine ⟨by show i < es.size; rw [keys_size hks]; exact (List.getElem?_eq_some_iff.mp q).1, fun v H' y => ?_⟩
      obtain ⟨rfl, en, z', t, h1, h2, rfl⟩ := y
      have := keys_get hks h1 h2
      rw [q] at this
      cases this
      exact ⟨Ext.refl, r2, .str _⟩
  · show es.size ≤ i
    rw [keys_size hks]
    have := List.getElem?_eq_none_iff.mp ex
    simpa using this

/-! ### a dict of ours, locked -/
theorem ObR.mapU {ι : Nat → Addr} {n : Nat} {H H' : Hp} {a : Addr} {o : AO} (sq : ∀ a xs, SqT C.K H a xs → SqT C.K H' a xs) (q : ObR C ι n H a o) (st : H' a = H a) (so : ∀ dx y, H dx = some (.own y) → H' dx = some (.own y)) (sx : ∀ dx, H dx = some (.xd []) → H' dx = some (.xd [])) : ObR C ι n H' a o := by
  have le := Nat.le_refl n
  have ag : ∀ l, l < n → ι l = ι l := fun _ _ => rfl
  cases o with
  | lst xs => obtain ⟨vs, e1, e2⟩ := q; exact ⟨vs, st.trans e1, e2.map sq le ag⟩
  | dct xs => obtain ⟨vs, e1, e2⟩ := q; exact ⟨vs, st.trans e1, e2.map sq le ag⟩
  | lck xs => obtain ⟨o, vs, e1, e2⟩ := q; exact ⟨o, vs, st.trans e1, e2.map sq le ag⟩
  | ins c fs =>
    rcases q with ⟨e0, dx, gs, e1, e2⟩ | ⟨names, dx, vs, e0, sl, ne, e2⟩
    · exact .inl ⟨e0, dx, gs, st.trans e1, e2.map sq le ag⟩
    · refine .inr ⟨names, dx, vs, e0, ?_, ne, fun i f x h1 h2 => ?_⟩
      · rcases sl with ⟨a1, a2, a3⟩ | ⟨a1, a2⟩
        · exact .inl ⟨st.trans a1, so _ _ a2, a3⟩
        · exact .inr ⟨st.trans a1, sx _ a2⟩
      · obtain ⟨v, h3, h4⟩ := e2 i f x h1 h2
        exact ⟨v, h3, h4.map sq le ag⟩

theorem lock_rep {ι : Nat → Addr} {h : PA.Heap} {H : Hp} {l : Nat} {kvs : List (AV × AV)} {ks : List (Key × V)} (r : Rep C ι h H) (e : h[l]? = some (.dct kvs)) (e1 : H (ι l) = some (.dK ks)) (e2 : KsR C ι h.length H kvs ks) (od : Obj) :
    Ext ι h.length H ι (h.set l (.lck kvs)).length (upd H (ι l) (.frz od (.dK ks))) ∧ Rep C ι (h.set l (.lck kvs)) (upd H (ι l) (.frz od (.dK ks))) := by
  have hl := (List.getElem?_eq_some_iff.mp e).1
  have nf : ∀ o u, H (ι l) ≠ some (.frz o u) := fun o u q => by rw [e1] at q; cases q
  have ex := Ext.chg (u := .frz od (.dK ks)) r hl nf
  exact ⟨by rw [List.length_set]; exact ex, r.chg hl nf ⟨od, ks, upd_same, r.ksr ex e2⟩⟩
theorem unlock_rep {ι ι' : Nat → Addr} {h h' : PA.Heap} {H H' : Hp} {l : Nat} {kvs : List (AV × AV)} {ks : List (Key × V)} {od : Obj} (r : Rep C ι h H) (e : h[l]? = some (.dct kvs)) (e1 : H (ι l) = some (.dK ks)) (e2 : KsR C ι h.length H kvs ks)
    (ex : Ext ι (h.set l (.lck kvs)).length (upd H (ι l) (.frz od (.dK ks))) ι' h'.length H') (r' : Rep C ι' h' H') :
    H' (ι l) = some (.frz od (.dK ks)) ∧ Ext ι h.length H ι' (h'.set l (.dct kvs)).length (upd H' (ι l) (.dK ks)) ∧ Rep C ι' (h'.set l (.dct kvs)) (upd H' (ι l) (.dK ks)) ∧ ∀ a xs, SqT C.K H' a xs → SqT C.K (upd H' (ι l) (.dK ks)) a xs := by
  have hl := (List.getElem?_eq_some_iff.mp e).1
  have hf : H' (ι l) = some (.frz od (.dK ks)) := ex.frz _ _ _ upd_same
  have hle : h.length ≤ h'.length := by have := ex.le; rwa [List.length_set] at this
  have hl' : l < h'.length := Nat.lt_of_lt_of_le hl hle
  have il : ι' l = ι l := ex.agree l (by rw [List.length_set]; exact hl)
  have sq : ∀ a xs, SqT C.K H' a xs → SqT C.K (upd H' (ι l) (.dK ks)) a xs := fun a xs t => by
    rcases t with (t | ⟨o, t⟩) | t
    · exact .inl (.inl (by rw [upd_ne (fun z => by rw [z, hf] at t; cases t)]; exact t))
    · exact .inl (.inr ⟨o, by rw [upd_ne (fun z => by rw [z, hf] at t; cases t)]; exact t⟩)
    · exact .inr t
  have exo : Ext ι h.length H ι' h'.length (upd H' (ι l) (.dK ks)) := by
    refine ⟨hle, fun k hk => ex.agree k (by rw [List.length_set]; exact hk), fun p o ep no off => ?_, fun k h1 h2 => ?_, fun p hp => ?_, fun p o u ep => ?_⟩
    · have np : p ≠ ι l := fun z => off l hl z.symm
      rw [upd_ne np]
      exact ex.frame p o (by rw [upd_ne np]; exact ep) no fun k hk => off k (by rwa [List.length_set] at hk)
    · have f := ex.fresh k (by rw [List.length_set]; exact h1) h2
      by_cases z : ι' k = ι l
      · rw [z, upd_same] at f; cases f
      · rwa [upd_ne z] at f
    · by_cases z : p = ι l
      · rw [z, upd_same]; exact fun z => nomatch z
      · rw [upd_ne z]
        exact ex.dom p (by rw [upd_ne z]; exact hp)
    · have np : p ≠ ι l := fun z => by rw [z, e1] at ep; cases ep
      rw [upd_ne np]
      exact ex.frz p o u (by rw [upd_ne np]; exact ep)
  refine ⟨hf, by rw [List.length_set]; exact exo, ⟨fun k o ek => ?_, fun k k' a b => r'.inj k k' (by simpa using a) (by simpa using b), r.scr.keep exo.frz⟩, sq⟩
  rw [List.length_set]
  by_cases q : l = k
  · subst q
    rw [List.getElem?_set_self hl'] at ek
    cases ek
    exact ⟨ks, by rw [il, upd_same], r.ksr exo e2⟩
  · rw [List.getElem?_set_ne q] at ek
    have hk := (List.getElem?_eq_some_iff.mp ek).1
    have ne : ι' k ≠ ι l := fun z => q (r'.inj k l hk hl' (z.trans il.symm)).symm
    exact (r'.at_ k o ek).mapU sq (upd_ne ne) (fun dx y w => by rw [upd_ne (fun z => by rw [z, hf] at w; cases w)]; exact w) (fun dx w => by rw [upd_ne (fun z => by rw [z, hf] at w; cases w)]; exact w)
theorem EnR.sq {ι : Nat → Addr} {n : Nat} {H H' : Hp} {ρ : PA.Env} {σ : L2.St} (sq : ∀ a xs, SqT C.K H a xs → SqT C.K H' a xs) (en : EnR C ι n H ρ σ) : EnR C ι n H' ρ σ :=
  ⟨en.1, fun i a e => let ⟨v, h1, h2⟩ := en.2 i a e; ⟨v, h1, h2.map sq (Nat.le_refl _) fun _ _ => rfl⟩⟩
theorem rs_lock {st : Stmt} {m : SS} (pick : PA.Env → PA.Heap → Option Nat) (hs : RS C X st m) : RS C X st (sLock pick m) := fun W tk =>
  PS_imp (ps_lock (hs W tk)) fun D σ H ⟨ι, h, ρ, r, en, p⟩ => by
    unfold sLock at p
    cases z : pick ρ h with
    | none => rw [z] at p; exact p.elim
    | some l =>
      rw [z] at p
      dsimp only at p
      cases z2 : h[l]? with
      | none => rw [z2] at p; exact p.elim
      | some o =>
        cases o with
        | dct kvs =>
          rw [z2] at p
          dsimp only at p
          obtain ⟨ks, e1, e2⟩ := dct_at r z2
          refine ⟨ι l, .dK ks, e1, trivial, fun od => ?_⟩
          obtain ⟨ex, r1⟩ := lock_rep r z2 e1 e2 od
          refine ⟨ι, _, ρ, r1, en.ext r ex, ?_⟩
          cases q : m ρ (h.set l (.lck kvs)) with
          | nx ρ' h' =>
            rw [q] at p
            intro ι' H' σ' e' r' en'
            obtain ⟨f1, f2, f3, f4⟩ := unlock_rep r z2 e1 e2 e' r'
            exact ⟨f1, p ι' _ σ' f2 f3 (by rw [List.length_set]; exact en'.sq f4)⟩
          | brk ρ' h' =>
            rw [q] at p
            intro ι' H' σ' e' r' en'
            obtain ⟨f1, f2, f3, f4⟩ := unlock_rep r z2 e1 e2 e' r'
            exact ⟨f1, p ι' _ σ' f2 f3 (by rw [List.length_set]; exact en'.sq f4)⟩
          | ct ρ' h' =>
            rw [q] at p
            intro ι' H' σ' e' r' en'
            obtain ⟨f1, f2, f3, f4⟩ := unlock_rep r z2 e1 e2 e' r'
            exact ⟨f1, p ι' _ σ' f2 f3 (by rw [List.length_set]; exact en'.sq f4)⟩
          | ret v' h' =>
            rw [q] at p
            intro ι' H' v e' r' x'
            obtain ⟨f1, f2, f3, f4⟩ := unlock_rep r z2 e1 e2 e' r'
            exact ⟨f1, p ι' _ v f2 f3 (by rw [List.length_set]; exact x'.map f4 (Nat.le_refl _) fun _ _ => rfl)⟩
          | exc e' ρ' h' =>
            rw [q] at p
            exact fun ι' H' σ' c d e' r' en' x' => p ι' H' σ' c d (ex.trans e') r' en' x'
          | bad => rw [q] at p; exact p.elim
        | _ => rw [z2] at p; exact p.elim
theorem re_lock {e : Expr} {m : EE} (pick : PA.Env → PA.Heap → Option Nat) (he : RE C X e m) : RE C X e (xLock pick m) := fun W tk =>
  PE_imp (pe_lock (he W tk)) fun σ H Q ⟨ι, h, ρ, r, en, p⟩ => by
    unfold xLock at p
    cases z : pick ρ h with
    | none => rw [z] at p; exact p.elim
    | some l =>
      rw [z] at p
      dsimp only at p
      cases z2 : h[l]? with
      | none => rw [z2] at p; exact p.elim
      | some o =>
        cases o with
        | dct kvs =>
          rw [z2] at p
          dsimp only at p
          obtain ⟨ks, e1, e2⟩ := dct_at r z2
          refine ⟨ι l, .dK ks, e1, trivial, fun od => ?_⟩
          obtain ⟨ex, r1⟩ := lock_rep r z2 e1 e2 od
          refine ⟨ι, _, ρ, r1, en.ext r ex, ?_⟩
          cases q : m ρ (h.set l (.lck kvs)) with
          | ok v' h' =>
            rw [q] at p
            intro ι' H' v e' r' x'
            obtain ⟨f1, f2, f3, f4⟩ := unlock_rep r z2 e1 e2 e' r'
            exact ⟨f1, p ι' _ v f2 f3 (by rw [List.length_set]; exact x'.map f4 (Nat.le_refl _) fun _ _ => rfl)⟩
          | exc e' h' =>
            rw [q] at p
            exact fun ι' H' c d e' r' x' => p ι' H' c d (ex.trans e') r' x'
          | bad => rw [q] at p; exact p.elim
        | _ => rw [z2] at p; exact p.elim
theorem rm_lock {e : Expr} {m : LL} (pick : PA.Env → PA.Heap → Option Nat) (he : RM C X e m) : RM C X e (xLock pick m) := fun W tk =>
  PE_imp (pe_lock (he W tk)) fun σ H Q ⟨ι, h, ρ, r, en, Z, hZ, p⟩ => by
    unfold xLock at p
    cases z : pick ρ h with
    | none => rw [z] at p; exact p.elim
    | some l =>
      rw [z] at p
      dsimp only at p
      cases z2 : h[l]? with
      | none => rw [z2] at p; exact p.elim
      | some o =>
        cases o with
        | dct kvs =>
          rw [z2] at p
          dsimp only at p
          obtain ⟨ks, e1, e2⟩ := dct_at r z2
          refine ⟨ι l, .dK ks, e1, trivial, fun od => ?_⟩
          obtain ⟨ex, r1⟩ := lock_rep r z2 e1 e2 od
          refine ⟨ι, _, ρ, r1, en.ext r ex, Z, fun p hp => ex.dom p (hZ p hp), ?_⟩
          cases q : m ρ (h.set l (.lck kvs)) with
          | ok v' h' =>
            rw [q] at p
            intro ι' H' v e' r' x'
            obtain ⟨f1, f2, f3, f4⟩ := unlock_rep r z2 e1 e2 e' r'
            refine ⟨f1, p ι' _ v f2 f3 ?_⟩
            obtain ⟨p', vs, rfl, hp', av, off, nz⟩ := x'
            refine ⟨p', vs, rfl, ?_, by rw [List.length_set]; exact av.map f4 (Nat.le_refl _) fun _ _ => rfl, by rw [List.length_set]; exact off, nz⟩
            rw [upd_ne (fun z => by rw [z, f1] at hp'; cases hp')]
            exact hp'
          | exc e' h' =>
            rw [q] at p
            exact fun ι' H' c d e' r' x' => p ι' H' c d (ex.trans e') r' x'
          | bad => rw [q] at p; exact p.elim
        | _ => rw [z2] at p; exact p.elim
theorem ksR_get {ι : Nat → Addr} {n : Nat} {H : Hp} {kvs : List (AV × AV)} {ks : List (Key × V)} (r : KsR C ι n H kvs ks) : ∀ (i : Nat), (∀ x, (keysOf kvs)[i]? = some x → ∃ k v, ks[i]? = some (k, v) ∧ ∀ ι n H, AvR C ι n H x (kV k)) ∧ ((keysOf kvs)[i]? = none → ks.length ≤ i) := by
  induction r with
  | nil => exact fun i => ⟨fun x e => (nomatch e), fun _ => Nat.zero_le _⟩
  | @int z x v fs gs _ _ ih =>
    intro i
    cases i with
    | zero => exact ⟨fun x e => by cases e; exact ⟨_, _, rfl, fun _ _ _ => .int _⟩, fun e => by cases e⟩
    | succ i => exact ⟨fun x e => (ih i).1 x e, fun e => Nat.succ_le_succ ((ih i).2 e)⟩
  | @str z x v fs gs _ _ ih =>
    intro i
    cases i with
    | zero => exact ⟨fun x e => by cases e; exact ⟨_, _, rfl, fun _ _ _ => .str _⟩, fun e => by cases e⟩
    | succ i => exact ⟨fun x e => (ih i).1 x e, fun e => Nat.succ_le_succ ((ih i).2 e)⟩
theorem itk_ok {ι1 : Nat → Addr} {n1 : Nat} {H1 : Hp} {d : Addr} {o : Obj} {kvs : List (AV × AV)} {ks : List (Key × V)} {ι0 : Nat → Addr} {n0 : Nat} {H0 : Hp} (e : H1 d = some (.frz o (.dK ks))) (r : KsR C ι0 n0 H0 kvs ks) : ItOk C ι1 n1 H1 (fun _ => some (keysOf kvs)) (Itk d o ks) :=
  itoN fun ι h H e2 r2 i => by
    have hd : H d = some (.frz o (.dK ks)) := e2.frz _ _ _ e
    obtain ⟨g1, g2⟩ := ksR_get r i
    refine ⟨fun x ex => ?_, fun ex => ⟨hd, g2 ex⟩⟩
    obtain ⟨k, v, hk, av⟩ := g1 x ex
    refine ⟨⟨hd, (List.getElem?_eq_some_iff.mp hk).1⟩, fun v' H' y => ?_⟩
    obtain ⟨rfl, k', w, hk', rfl⟩ := y
    rw [hk] at hk'
    cases hk'
    exact ⟨Ext.refl, r2, av _ _ _⟩
theorem ri_keysL {e : Expr} {m : EE} (he : RE C X e m) : RI C X tg e (iKeysL m) := fun W tk =>
  PI_imp (pi_keys (he W tk)) fun σ H R ⟨ι, h, ρ, r, en, p⟩ => ⟨ι, h, ρ, r, en, (GPost.bnd (R := AvR C) p).mono fun x H1 ⟨ι1, h1, a, r1, e1, x1, p1⟩ => by
    cases x1 with
    | @loc l hl =>
      dsimp only at p1
      cases z : h1[l]? with
      | none => rw [z] at p1; exact p1.elim
      | some o =>
        cases o with
        | lck kvs =>
          rw [z] at p1
          dsimp only at p1
          obtain ⟨o, ks, hv, kr⟩ := r1.at_ l _ z
          exact ⟨_, o, rfl, .inl ⟨ks, hv, p1 ι1 H1 (Itk (ι1 l) o ks) Ext.refl r1 (itk_ok hv kr)⟩⟩
        | _ => rw [z] at p1; exact p1.elim
    | _ => exact p1.elim⟩
/-- the dict is locked from now on -/
def iKeysFr (td : TE) : TI := fun σ H R => td σ H fun x H1 => ∃ d kvs, x = .ref d ∧ H1 d = some (.dK kvs) ∧ ∀ o, R (Itk d o kvs) (upd H1 d (.frz o (.dK kvs)))
theorem pi_keysF {e : Expr} {td : TE} (he : PE X e td) : PI X tg e (iKeysFr td) := by
  refine ⟨fun pins s σ H R I h => ?_⟩
  refine thn (he.run pins s σ H _ I h) fun u s1 ⟨x, H1, I1, rx, d, kvs, ex, hd, q⟩ => ?_
  subst ex
  obtain rfl : u = Value.ref d := rx
  obtain ⟨od, I2⟩ := I1.lock hd trivial
  obtain ⟨hs, hgd, hx, es, ep, vs, hdt, hsz, kv, hm⟩ := I2.frzK (o := od) (kvs := kvs) upd_same
  refine iter_keys hs hgd hx hdt (pi_one (tk := s1.toks) I2 _ (turn_keys _ hdt) ⟨_, Heap.get?_push_size _ rfl, rfl, ?_⟩ (q od))
  rw [hsz] <;> rfl
theorem ri_keysF {e : Expr} {m : EE} (he : RE C X e m) : RI C X tg e (iKeysF m) := fun W tk =>
  PI_imp (pi_keysF (he W tk)) fun σ H R ⟨ι, h, ρ, r, en, p⟩ => ⟨ι, h, ρ, r, en, (GPost.bnd (R := AvR C) p).mono fun x H1 ⟨ι1, h1, a, r1, e1, x1, p1⟩ => by
    cases x1 with
    | @loc l hl =>
      dsimp only at p1
      cases z : h1[l]? with
      | none => rw [z] at p1; exact p1.elim
      | some o =>
        cases o with
        | dct kvs =>
          rw [z] at p1
          dsimp only at p1
          obtain ⟨ks, hv, kr⟩ := dct_at r1 z
          refine ⟨_, ks, rfl, hv, fun o => ?_⟩
          obtain ⟨ex, r2⟩ := lock_rep r1 z hv kr o
          exact p1 ι1 _ (Itk (ι1 l) o ks) ex r2 (itk_ok upd_same kr)
        | _ => rw [z] at p1; exact p1.elim
    | _ => exact p1.elim⟩
end
end PL
set_option maxRecDepth 100000
set_option maxHeartbeats 2000000
/-! Lift17: dict comprehensions. -/
namespace PL
open PySem PySem.Spec PyProof.Rows L2 PA
section
variable {C : Cz} {X : Cx} {tg : Expr} {j k : Nat}
theorem wipe_idem (σ : L2.St) (ws : List Nat) : L2.wipe (L2.wipe σ ws) ws = L2.wipe σ ws := by
  apply List.ext_getElem?
  intro q
  have key : ∀ (τ : L2.St) (us : List Nat), (L2.wipe τ us)[q]? = if q ∈ us then (τ[q]?).map (fun _ => none) else τ[q]? := by
    intro τ us
    induction us with
    | nil => simp [L2.wipe]
    | cons u us ih =>
      unfold L2.wipe
      by_cases zz : u = q
      · subst zz
        rw [if_pos List.mem_cons_self]
        by_cases hq : u < τ.length
        · rw [List.getElem?_set_self (by rw [wipe_length]; exact hq)]
          simp [hq]
        · rw [List.getElem?_eq_none (by rw [List.length_set, wipe_length]; omega), List.getElem?_eq_none (by omega)]
          rfl
      · rw [List.getElem?_set_ne zz, ih]
        by_cases hm : q ∈ us
        · rw [if_pos hm, if_pos (List.mem_cons_of_mem _ hm)]
        · rw [if_neg hm, if_neg (fun hh => (List.mem_cons.mp hh).elim (fun e => zz e.symm) hm)]
  rw [key, key]
  by_cases hm : q ∈ ws
  · rw [if_pos hm, if_pos hm]; cases σ[q]? <;> rfl
  · rw [if_neg hm, if_neg hm]
/-- a dict that was made beside ours is ours from now on -/
theorem adopt_dct {ι ι' : Nat → Addr} {n : Nat} {h' : PA.Heap} {H H' : Hp} {D : Addr} {kvs : List (AV × AV)} {ks : List (Key × V)} (et : Ext ι n H ι' h'.length H') (hD : H D = none) (r : Rep C ι' h' H') (off : ∀ l, l < h'.length → ι' l ≠ D) (hv : H' D = some (.dK ks)) (kr : KsR C ι' h'.length H' kvs ks) :
    Ext ι n H (put1 ι' h'.length D) (h' ++ [AO.dct kvs]).length H' ∧ Rep C (put1 ι' h'.length D) (h' ++ [AO.dct kvs]) H' ∧ AvR C (put1 ι' h'.length D) (h' ++ [AO.dct kvs]).length H' (.loc h'.length) (.ref D) := by
  have ag : ∀ l, l < h'.length → put1 ι' h'.length D l = ι' l := fun l hl => put1_lt hl
  refine ⟨?_, adopt (ao := .dct kvs) r off ⟨ks, hv, kr.map (fun _ _ t => t) (Nat.le_succ _) ag⟩, ?_⟩
  · rw [List.length_append, List.length_singleton]
    refine ⟨Nat.le_succ_of_le et.le, fun l hl => (put1_lt (Nat.lt_of_lt_of_le hl et.le)).trans (et.agree l hl), et.frame, fun l a b => ?_, et.dom, et.frz⟩
    by_cases z : l < h'.length
    · rw [put1_lt z]; exact et.fresh l a z
    · have : l = h'.length := by omega
      subst this
      rw [put1_same]; exact hD
  · have t : AvR C (put1 ι' h'.length D) (h' ++ [AO.dct kvs]).length H' (.loc h'.length) (.ref (put1 ι' h'.length D h'.length)) := .loc (by simp)
    rw [put1_same] at t
    exact t
theorem re_dc {kx vx iter : Expr} {ifs : List Expr} {scope : Scope} {own : List (Str × Nat)} {pos : Pos} {it : II} {g : Tg} {g' : TG} {is : List Nat} {t : BB} {ek ev : EE} (gd : Gd C X j) (hi : RI C X tg iter it) (ok : BlkOk X.N X.env.scope scope own)
    (hg : ∀ (s : Shared) (H : Hp) (c : Addr) (cl : List (Str × Addr)) (fp : List Addr), RG C (X.blk s H scope (compEnvC scope cl c X.env) fp) tg g g' is)
    (ht : ∀ (s : Shared) (H : Hp) (c : Addr) (cl : List (Str × Addr)) (fp : List Addr), Gd C (X.blk s H scope (compEnvC scope cl c X.env) fp) j → RTs C (X.blk s H scope (compEnvC scope cl c X.env) fp) ifs t)
    (hk : ∀ (s : Shared) (H : Hp) (c : Addr) (cl : List (Str × Addr)) (fp : List Addr), Gd C (X.blk s H scope (compEnvC scope cl c X.env) fp) j → RE C (X.blk s H scope (compEnvC scope cl c X.env) fp) kx ek)
    (he : ∀ (s : Shared) (H : Hp) (c : Addr) (cl : List (Str × Addr)) (fp : List Addr), Gd C (X.blk s H scope (compEnvC scope cl c X.env) fp) j → RE C (X.blk s H scope (compEnvC scope cl c X.env) fp) vx ev)
    (hin : ∀ i ∈ is, i ∈ own.map (·.2) := by decide) (hs : ∀ x, foldedSetIterable iter X.env x = pure x := by intro _; rfl) :
    RE C X (.DictComp kx vx [⟨tg, iter, ifs, 0⟩] scope pos) (eDc it g t ek ev (own.map (·.2))) := fun W tk => by
  have gb : ∀ (s : Shared) (H : Hp) (c : Addr) (cl : List (Str × Addr)) (fp : List Addr), Gd C (X.blk s H scope (compEnvC scope cl c X.env) fp) j := fun _ _ _ _ _ => ⟨gd.hP, gd.hw, gd.hK, gd.hm, gd.hb, gd.calm, gd.nd, gd.room⟩
  refine PE_imp (pe_dc (tt := tT C t WF) (tk := tE C ek WF) (tv := tE C ev WF) gd.calm gd.nd (hi W tk) ok (fun s H c cl fp => (hg s H c cl fp).pg) (fun s H c cl fp => ht s H c cl fp (gb s H c cl fp) WF takes0) (fun s H c cl fp => hk s H c cl fp (gb s H c cl fp) WF takes0) (fun s H c cl fp => he s H c cl fp (gb s H c cl fp) WF takes0) hs) ?_
  intro σ H Q ⟨ι, h, ρ, r, en, p⟩
  refine ⟨ι, h, ρ, r, en, (GPost.bnd (R := ItOk C) p).mono fun J H1 ⟨ι1, h1, items, r1, e1, x1, p1⟩ => ?_⟩
  intro D hD
  have tokG : TgOk C g' g is := (hg { } H 0 [] []).ok
  refine ⟨fun i m H2 => ∃ ι2 h2 acc vs, Ext ι1 h1.length H1 ι2 h2.length H2 ∧ Rep C ι2 h2 H2 ∧ H2 D = some (.dK vs) ∧ KsR C ι2 h2.length H2 acc vs ∧ (∀ l, l < h2.length → ι2 l ≠ D) ∧ GPost C (AvR C) ι1 h1 H1 Q (fun c d H' => W c d σ H') (PA.bnd (dcIter items g t ek ev (wipeA ρ (own.map (·.2))) m i acc) (fun kvs h => .ok (.loc h.length) (h ++ [.dct kvs])) h2),
    ⟨fuel, ι1, h1, [], [], Ext.laid r1 hD, r1.laid hD, upd_same, .nil, fun l hl => r1.off hD hl, p1⟩, ?_⟩
  rintro i m H2 ⟨ι2, h2, acc, vs, e2, r2, hv, av, off, p2⟩
  cases m with
  | zero => exact p2.elim
  | succ k =>
    unfold PA.bnd dcIter at p2
    cases z : items h2 with
    | none => simp only [z] at p2; exact p2.elim
    | some ys =>
      simp only [z] at p2
      obtain ⟨w1, w2⟩ := x1 ι2 h2 H2 e2 r2 i ys z
      cases z2 : ys[i]? with
      | none =>
        simp only [z2] at p2
        obtain ⟨f1, f2, f3⟩ := adopt_dct e2 hD r2 off hv av
        exact .inl ⟨w2 z2, p2 _ H2 _ f1 f2 f3⟩
      | some x =>
        simp only [z2] at p2
        obtain ⟨go, yl⟩ := w1 x z2
        refine .inr ⟨go, fun H3 => ∃ ι2 h2 acc vs, Ext ι1 h1.length H1 ι2 h2.length H3 ∧ Rep C ι2 h2 H3 ∧ H3 D = some (.dK vs) ∧ KsR C ι2 h2.length H3 acc vs ∧ (∀ l, l < h2.length → ι2 l ≠ D) ∧ GPost C (AvR C) ι1 h1 H1 Q (fun c d H' => W c d σ H') (PA.bnd (dcIter items g t ek ev (wipeA ρ (own.map (·.2))) k (i + 1) acc) (fun kvs h => .ok (.loc h.length) (h ++ [.dct kvs])) h2), fun H3 q => ⟨k, Nat.lt_succ_self _, q⟩, fun v H3 y => ?_⟩
        obtain ⟨e3, r3, xv⟩ := yl v H3 y
        cases z3 : g x (wipeA ρ (own.map (·.2))) with
        | none => simp only [z3] at p2; exact p2.elim
        | some ρ1 =>
          simp only [z3] at p2
          have en3 : EnR C ι2 h2.length H3 (wipeA ρ (own.map (·.2))) (L2.wipe σ (own.map (·.2))) := ((en.ext r e1).ext r1 (e2.trans e3)).wipe _
          have keepD : ∀ {ι5 : Nat → Addr} {h5 : PA.Heap} {H5 : Hp}, Ext ι2 h2.length H2 ι5 h5.length H5 → H5 D = some (.dK vs) ∧ ∀ l, l < h5.length → ι5 l ≠ D := fun {ι5 h5 H5} e5 => by
            refine ⟨e5.frame _ _ hv (fun _ z => nomatch z) off, fun l hl zl => ?_⟩
            by_cases q : l < h2.length
            · exact off l q ((e5.agree l q).symm.trans zl)
            · have f := e5.fresh l (Nat.le_of_not_lt q) hl
              rw [zl, hv] at f
              cases f
          refine tokG ι2 h2 H3 _ ρ1 _ x v _ r3 en3 xv z3 fun σ' en' wp => ⟨(wp _ hin).trans (wipe_idem _ _), ι2, h2, ρ1, r3, en', ?_⟩
          cases z4 : t ρ1 h2 with
          | bad => simp only [z4] at p2; exact p2.elim
          | exc e' h' => simp only [z4] at p2; exact p2.elim
          | ok b h4 =>
            rw [z4] at p2
            intro ι4 H4 b' e4 r4 eb
            cases eb
            cases b with
            | false =>
              rw [if_neg Bool.false_ne_true]
              obtain ⟨k1, k2⟩ := keepD (e3.trans e4)
              exact ⟨ι4, h4, acc, vs, e2.trans (e3.trans e4), r4, k1, r2.ksr (e3.trans e4) av, k2, p2⟩
            | true =>
              rw [if_pos rfl]
              refine ⟨ι4, h4, ρ1, r4, en'.ext r3 e4, ?_⟩
              dsimp only at p2
              cases z5 : ek ρ1 h4 with
              | bad => simp only [z5] at p2; exact p2.elim
              | exc e' h' => simp only [z5] at p2; exact p2.elim
              | ok y h5 =>
                simp only [z5] at p2
                intro ι5 H5 w e5 r5 xw
                refine ⟨ι5, h5, ρ1, r5, (en'.ext r3 e4).ext r4 e5, ?_⟩
                cases z6 : ev ρ1 h5 with
                | bad => simp only [z6] at p2; exact p2.elim
                | exc e' h' => simp only [z6] at p2; exact p2.elim
                | ok y2 h6 =>
                  simp only [z6] at p2
                  intro ι6 H6 w2 e6 r6 xw2
                  have et := e3.trans (e4.trans (e5.trans e6))
                  obtain ⟨k1, k2⟩ := keepD et
                  have av6 := r2.ksr et av
                  by_cases zl : isKey y = true ∧ acc.length < 100000
                  · rw [if_pos zl] at p2
                    have sq : ∀ u a xs, SqT C.K H6 a xs → SqT C.K (upd H6 D u) a xs := fun u a xs => side_sqT' k1 (fun _ z => nomatch z) (fun _ _ z => nomatch z)
                    have lz : vs.length < sizeLine := by rw [← av.length]; have := zl.2; unfold sizeLine; omega
                    have fin : ∀ (kk : Key), w = kV kk → KR y kk → ∃ kvs k', w = kV k' ∧ H6 D = some (.dK kvs) ∧ kvs.length < sizeLine ∧ ∃ ι2 h2 acc vs, Ext ι1 h1.length H1 ι2 h2.length (upd H6 D (.dK (putK kvs k' w2))) ∧ Rep C ι2 h2 (upd H6 D (.dK (putK kvs k' w2))) ∧ (upd H6 D (.dK (putK kvs k' w2))) D = some (.dK vs) ∧ KsR C ι2 h2.length (upd H6 D (.dK (putK kvs k' w2))) acc vs ∧ (∀ l, l < h2.length → ι2 l ≠ D) ∧ GPost C (AvR C) ι1 h1 H1 Q (fun c d H' => W c d σ H') (PA.bnd (dcIter items g t ek ev (wipeA ρ (own.map (·.2))) k (i + 1) acc) (fun kvs h => .ok (.loc h.length) (h ++ [.dct kvs])) h2) := fun kk ew kr =>
                      ⟨vs, kk, ew, k1, lz, ι6, h6, dPut acc y y2, putK vs kk w2, (e2.trans et).side hD, r6.sideD k1 k2, upd_same, (av6.put kr xw2).map (sq _) (Nat.le_refl _) fun _ _ => rfl, k2, p2⟩
                    cases xw with
                    | int q => exact fin (.inl q) rfl (.int q)
                    | str q => exact fin (.inr q) rfl (.str q)
                    | _ => exact absurd zl.1 Bool.false_ne_true
                  · rw [if_neg zl] at p2; exact p2.elim
end
end PL
set_option maxRecDepth 100000
set_option maxHeartbeats 4000000
/-! Lift18: sorted(set(t)) of a tuple of texts (after HandS.Set, HandS.SetFor, which have it for ints). -/
namespace PL
open PySem PySem.Spec PyProof.Rows L2
def keyS (e : Int × Value) : Str := match e.2 with | .str k _ => k | _ => Str.empty
def GoodS (w : World) (e : Int × Value) : Prop := ∃ k tk, e.2 = Value.str k tk ∧ e.1 = hashStr w k
/-- the set of texts at a: S its members, n their number; its table rises and can be walked -/
def SetS (w : World) (h : Heap) (a : Addr) (S : Str → Bool) (n : Nat) : Prop :=
  ∃ o es ep t, h.get? a = some o ∧ o.ExactSet ∧ o.data = .set es ep t ∧ (∀ e ∈ es.toList, GoodS w e) ∧ (es.toList.map keyS).Nodup ∧ (∀ k, S k = true ↔ k ∈ es.toList.map keyS) ∧
    es.size < scanBound ∧ t.fits es.size = true ∧ es.size = n ∧ Ris t.place.toList ∧ (w.params.followText "set-order" = true ∨ t.led = true)
section
variable {P : Program} {w : World} {h h' : Heap} {a : Addr} {S : Str → Bool} {n : Nat}
theorem SetS.at (R : SetS w h a S n) (k : ∀ o, h.get? a = some o → h'.get? a = some o) : SetS w h' a S n := by
  obtain ⟨o, es, ep, t, ho, r⟩ := R
  exact ⟨o, es, ep, t, k o ho, r⟩
theorem SetS.lt (R : SetS w h a S n) : a < h.objs.size := by
  obtain ⟨o, es, ep, t, ho, r⟩ := R
  exact Heap.lt_size ho
theorem SetS.congr {S' : Str → Bool} (R : SetS w h a S n) (e : ∀ k, S' k = S k) : SetS w h a S' n := by
  have q : S' = S := funext e
  rw [q]; exact R
theorem goodS_elems {l : List (Int × Value)} (g : ∀ e ∈ l, GoodS w e) : ElemsOf (PySem.strKind P w) l := fun e he => by
  obtain ⟨k, tk, h1, h2⟩ := g e he
  exact ⟨⟨k, by rw [h1]; exact PySem.strKind_is P w k tk, h2⟩, by rw [h1] <;> rfl⟩
theorem goodS_is {e : Int × Value} (g : GoodS w e) (k : Str) : (PySem.strKind P w).is k e.2 = true ↔ keyS e = k := by
  obtain ⟨k0, tk, h1, _⟩ := g
  unfold keyS
  rw [h1]
  show ((k0 == k) = true) ↔ k0 = k
  exact beq_iff_eq
theorem goodS_mem {l : List (Int × Value)} (g : ∀ e ∈ l, GoodS w e) (k : Str) : k ∈ l.map keyS ↔ ∃ e ∈ l, (PySem.strKind P w).is k e.2 = true := by
  rw [List.mem_map]
  constructor
  · rintro ⟨e, he, q⟩
    exact ⟨e, he, (goodS_is (g e he) k).2 q⟩
  · rintro ⟨e, he, q⟩
    exact ⟨e, he, (goodS_is (g e he) k).1 q⟩
theorem SetS.setOf (R : SetS w h a S n) : h.SetOf (PySem.strKind P w) a S n := by
  obtain ⟨o, es, ep, t, ho, hx, hd, g, nd, hm, hb, hf, hn, _⟩ := R
  exact ⟨o, es, ep, t, ho, hx, hd, goodS_elems g, fun k => (hm k).trans (goodS_mem g k), hb, hf, hn⟩
end
section
variable {P : Program} {w : World} {A : Around} {E : Value → Shared → Prop} {s : Shared} {a : Addr} {S : Str → Bool} {n : Nat}
theorem setS_add_tail {g : Bool → Sem Unit} (hg : ∀ (b : Bool) (s₁ : Shared) (Q' : Unit → Shared → Prop), Q' () s₁ → wpAny (model P w) A (g b) Q' E s₁)
    {o : Obj} {es : Array (Int × Value)} {ep : Nat} {t : SetTable} (ho : s.heap.get? a = some o) (hex : o.ExactSet) (hd : o.data = .set es ep t)
    {es1 : Array (Int × Value)} {t2 : SetTable} {S' : Str → Bool} (g1 : ∀ e ∈ es1.toList, GoodS w e) (nd1 : (es1.toList.map keyS).Nodup) (m1 : ∀ k, S' k = true ↔ k ∈ es1.toList.map keyS)
    (hb1 : es1.size < scanBound) (hf2 : t2.fits es1.size = true) (hr : Ris t2.place.toList) (hl : w.params.followText "set-order" = true ∨ t2.led = true) {wasDummy : Bool} {R : Option Bool → Shared → Prop}
    (hR : ∀ h', Heap.SameBut a s.heap h' → SetS w h' a S' es1.size → R (some true) { s with heap := h' }) :
    wpAny (model P w) A (do
        storeSet a es1 t2
        if (!wasDummy && t2.tooFull) = true then do
            g (relayAll t2 es1 (SetTable.grown es1.size)).2.2
            storeSet a (relayAll t2 es1 (SetTable.grown es1.size)).1 (relayAll t2 es1 (SetTable.grown es1.size)).2.1
            pure (some true)
          else pure (some true)) R E s := by
  refine wpAny_bind (wpAny_storeSet_of ho hd ?_ (fits_of_scanBound hb1))
  have ho1 := store_at (es' := es1) (t' := t2) ho hd
  have sb1 := Heap.SameBut.update s.heap a (Obj.putSet es1 t2)
  split
  · have pm := relayAll_perm t2 es1 (SetTable.grown es1.size)
    have hf3 := relayAll_fits t2 es1 (SetTable.grown es1.size)
    have hr3 := relayAll_ris t2 es1 (SetTable.grown es1.size)
    have hl3 := relayAll_led t2 es1 (SetTable.grown es1.size)
    generalize relayAll t2 es1 (SetTable.grown es1.size) = Z at pm hf3 hr3 hl3 ⊢
    obtain ⟨es2, t3, gave⟩ := Z
    dsimp only at pm hf3 hr3 hl3 ⊢
    have hsz : es2.size = es1.size := by rw [← Array.length_toList, pm.length_eq, Array.length_toList]
    have hb2 : es2.size < scanBound := by rw [hsz]; exact hb1
    refine wpAny_bind (hg _ _ _ ?_)
    refine wpAny_bind (wpAny_storeSet_of ho1 rfl ?_ (fits_of_scanBound hb2))
    have ho2 := store_at (es' := es2) (t' := t3) ho1 rfl
    refine wpAny_pure (hR _ (sb1.trans (Heap.SameBut.update _ a _)) ?_)
    exact ⟨_, es2, _, t3, ho2, hex, rfl, fun e he => g1 e (pm.mem_iff.mp he), (pm.map keyS).nodup_iff.mpr nd1, fun k => (m1 k).trans (pm.map keyS).mem_iff.symm, hb2, hf3, hsz, hr3,
      hl.imp id fun z => by rw [hl3]; exact z⟩
  · exact wpAny_pure (hR _ sb1 ⟨_, es1, _, t2, ho1, hex, rfl, g1, nd1, m1, hb1, hf2, rfl, hr, hl⟩)

theorem setS_add_hashed {k : Str} {tk : Tok} {Q : Bool → Shared → Prop} (R : SetS w s.heap a S n) (room : n + 1 < scanBound)
    (hQ : ∀ h', Heap.SameBut a s.heap h' → SetS w h' a (fun j => S j || decide (j = k)) (if S k = true then n else n + 1) → Q (!S k) { s with heap := h' }) :
    wpAny (model P w) A (setAddHashed a (.str k tk) ((PySem.strKind P w).hash k)) Q E s := by
  obtain ⟨o, es, ep, t, ho, hex, hd, g, nd, hm, hb, hf, hn, hr, hl⟩ := R
  have hkey : (PySem.strKind P w).is k (.str k tk) = true := PySem.strKind_is P w k tk
  have hsc : (Value.str k tk).scannable = true := rfl
  have hel : ElemsOf (PySem.strKind P w) es.toList := goodS_elems g
  unfold setAddHashed setAddHashedIn
  refine wpAny_holding (wpAny_bind (wpAny_setState_of ho hd hf ?_))
  dsimp only
  rw [byScan_of hsc hb hel]
  simp only [↓reduceIte]
  unfold setAddByScan
  refine wpAny_bind ?_
  refine wpAny_bind (wpAny_rule ?_)
  refine wpAny_bind (wpAny_setScan_of hkey ho hd hf hel ?_)
  cases hfi : List.findIdx? (fun e => (PySem.strKind P w).is k e.2) es.toList with
  | some j =>
    dsimp only
    obtain ⟨hj, pj, _⟩ := List.findIdx?_eq_some_iff_getElem.mp hfi
    have hSk : S k = true := (hm k).2 ((goodS_mem (P := P) (w := w) g k).2 ⟨es.toList[j], List.getElem_mem hj, pj⟩)
    refine wpAny_pure (wpAny_pure ?_)
    have q := hQ s.heap (Heap.SameBut.refl a s.heap) ⟨o, es, ep, t, ho, hex, hd, g, nd, fun i => by
      rw [Bool.or_eq_true, decide_eq_true_eq, ← hm i]
      exact ⟨fun z => z.elim id (fun e => e ▸ hSk), .inl⟩, hb, hf, by rw [if_pos hSk]; exact hn, hr, hl⟩
    rw [hSk] at q
    exact q
  | none =>
    dsimp only
    have hnk : k ∉ es.toList.map keyS := fun z => by
      obtain ⟨e, he, q⟩ := (goodS_mem (P := P) (w := w) g k).1 z
      have c := List.findIdx?_eq_none_iff.mp hfi e he
      rw [q] at c
      cases c
    have hSk : S k = false := by
      cases q : S k with
      | false => rfl
      | true => exact absurd ((hm k).1 q) hnk
    have hgw : ∀ (b : Bool) {s₁ : Shared} {Q' : Unit → Shared → Prop}, Q' () s₁ → wpAny (model P w) A (match b with | true => rule "set.scan.the-table-gave-way" | false => pure ()) Q' E s₁ :=
      fun b s₁ Q' q => by cases b <;> first | exact wpAny_pure q | exact wpAny_rule q
    have pm := layNew_perm t es ((PySem.strKind P w).hash k) (.str k tk)
    have hf1 := layNew_fits t es ((PySem.strKind P w).hash k) (.str k tk)
    have hr1 := layNew_ris t es ((PySem.strKind P w).hash k) (.str k tk) hr
    have hl1 := layNew_led t es ((PySem.strKind P w).hash k) (.str k tk)
    generalize layNew t es ((PySem.strKind P w).hash k) (.str k tk) = Z at pm hf1 hr1 hl1 ⊢
    obtain ⟨es1, t1, wasDummy, gave⟩ := Z
    dsimp only at pm hf1 hr1 hl1 ⊢
    rw [Array.toList_push] at pm
    have pc : es1.toList.Perm (((PySem.strKind P w).hash k, Value.str k tk) :: es.toList) := pm.trans (List.perm_append_singleton _ _)
    have pk : (es1.toList.map keyS).Perm (k :: es.toList.map keyS) := pc.map keyS
    have g1 : ∀ e ∈ es1.toList, GoodS w e := fun e he => by
      rcases List.mem_cons.mp (pc.mem_iff.mp he) with z | z
      · rw [z]; exact ⟨k, tk, rfl, rfl⟩
      · exact g e z
    have nd1 : (es1.toList.map keyS).Nodup := pk.nodup_iff.mpr (List.nodup_cons.mpr ⟨hnk, nd⟩)
    have m1 : ∀ i, (S i || decide (i = k)) = true ↔ i ∈ es1.toList.map keyS := fun i => by
      rw [Bool.or_eq_true, decide_eq_true_eq, hm i, pk.mem_iff, List.mem_cons]
      exact Or.comm
    have hsz : es1.size = n + 1 := by rw [← Array.length_toList, pc.length_eq, List.length_cons, Array.length_toList, hn]
    have hb1 : es1.size < scanBound := by rw [hsz]; exact room
    have hled : w.params.followText "set-order" = true ∨ t1.led = true := hl.imp id fun z => by rw [hl1]; exact z
    have fin : ∀ h', Heap.SameBut a s.heap h' → SetS w h' a (fun j => S j || decide (j = k)) es1.size → Q true { s with heap := h' } := fun h' sb r => by
      have q := hQ h' sb
      rw [hSk] at q
      rw [hsz] at r
      exact q r
    refine wpAny_bind (hgw _ ?_)
    split
    · refine wpAny_bind ?_
      rw [hashByValue_scannable 8 hsc]
      refine wpAny_pure ?_
      refine setS_add_tail ?_ ho hex hd g1 nd1 m1 hb1 ?_ ?_ ?_ ?_
      · intro b s₁ Q' q; cases b <;> first | exact wpAny_pure q | exact wpAny_rule q
      · first | (split <;> first | exact hf1 | exact SetTable.fits_plain_off hf1) | exact hf1
      · first | (split <;> exact hr1) | exact hr1
      · first | (split <;> exact hled) | exact hled
      · intro h' sb r; dsimp only; exact wpAny_pure (fin h' sb r)
    · refine wpAny_bind (wpAny_pure ?_)
      simp only [↓reduceIte]
      refine setS_add_tail ?_ ho hex hd g1 nd1 m1 hb1 hf1 hr1 hled ?_
      · intro b s₁ Q' q; cases b <;> first | exact wpAny_pure q | exact wpAny_rule q
      · intro h' sb r; dsimp only; exact wpAny_pure (fin h' sb r)

end
theorem setS_new_at {w : World} {h : Heap} {a : Addr} {ns : List Str} (ho : h.get? a = some { cls := .type "set", dict := none, data := .set #[] 0 (.fresh 0 0 (!w.params.followText "set-order")) }) : SetS w h a (fun j => decide (j ∈ ns.take 0)) 0 :=
  ⟨_, #[], 0, _, ho, ⟨rfl, rfl, rfl⟩, rfl, (fun e he => by simp at he), (by simp), (fun k => by simp), (by decide), (by rfl), rfl, List.Pairwise.nil, by
    show _ ∨ (!w.params.followText "set-order") = true
    cases w.params.followText "set-order"
    · exact .inr rfl
    · exact .inl rfl⟩
section
variable {P : Program} {w : World} {A : Around} {E : Value → Shared → Prop} {s : Shared}
theorem set_update_strs {I : Addr} {fp wr : List Addr} {G : Array GenState → Array GenState → Prop} {n : Nat} {Pv : Nat → Value → Prop} {St : Nat → Shared → Prop} {R : Result → Shared → Prop}
    (W : WalksS P w A.in1 I fp wr G n Pv St) (S : Addr) (hSf : S ∉ fp) (ns : List Str) (hn : n = ns.length) (hb : ns.length + 1 < scanBound) (hval : ∀ i v, Pv i v → ∃ k t, ns[i]? = some k ∧ v = .str k t) :
    ∀ (k i : Nat) (s : Shared), n - i = k → i ≤ n → St i s → (∃ c, c ≤ i ∧ SetS w s.heap S (fun j => decide (j ∈ ns.take i)) c) →
      (∀ s' c, Moved (S :: wr) G s s' → c ≤ n → SetS w s'.heap S (fun j => decide (j ∈ ns)) c → R (.ok (.ret .none)) s') →
      codeAny (model P w) A (.builtin "set.update.loop" ⟨[.ref S, .ref I], []⟩) R s := by
  have hSw : S ∉ wr := fun h => hSf (W.sub _ h)
  have hsub : ∀ b ∈ wr, b ∈ S :: wr := fun b hb => List.mem_cons_of_mem _ hb
  intro k
  induction k with
  | zero =>
    intro i s hk' hi hst ⟨c, hc, hS⟩ hR
    have hin : i = n := by omega
    subst hin
    refine codeAny_builtin F.entry_set_update_loop ?_
    rw [Around.under_plainId F.plain_set_update_loop _]
    show wpAny _ A.in1 (pyNext (.ref I) >>= _) _ _ s
    refine wpAny_bind (W.done s _ _ hst fun s' hm => ?_)
    show wpAny _ A.in1 (ret Value.none) _ _ s'
    have e : ns.take i = ns := List.take_of_length_le (by omega)
    rw [e] at hS
    exact wpAny_pure (hR s' c (hm.mono hsub) hc (hS.at fun o e => hm.heap S o hSw e))
  | succ k ih =>
    intro i s hk' hi hst ⟨c, hc, hS⟩ hR
    have hlt : i < n := by omega
    refine codeAny_builtin F.entry_set_update_loop ?_
    rw [Around.under_plainId F.plain_set_update_loop _]
    show wpAny _ A.in1 (pyNext (.ref I) >>= _) _ _ s
    refine wpAny_bind (W.item i s _ _ hlt hst fun v s' hP hst' hm => ?_)
    obtain ⟨z, t, hz, rfl⟩ := hval i v hP
    have hS' : SetS w s'.heap S (fun j => decide (j ∈ ns.take i)) c := hS.at fun o e => hm.heap S o hSw e
    show wpAny _ A.in1 (holding [Value.str z t] (setAdd S (.str z t)) >>= _) _ _ s'
    refine wpAny_bind (wpAny_holding ?_)
    unfold setAdd
    refine wpAny_holding ?_
    refine wpAny_bind ((PySem.strKind P w).pyHash (k := z) (PySem.strKind_is _ _ _ _) ?_)
    refine setS_add_hashed (s := { s' with toks := s'.toks + 1 }) hS' (by omega) fun h' hsb hS2 => ?_
    have hS3 : SetS w h' S (fun j => decide (j ∈ ns.take (i + 1))) (if decide (z ∈ ns.take i) = true then c else c + 1) := hS2.congr fun j => by
      rw [List.take_add_one, hz]
      simp [List.mem_append]
    have hc3 : (if decide (z ∈ ns.take i) = true then c else c + 1) ≤ i + 1 := by
      split <;> omega
    refine wpAny_pure ⟨plainId_quiet F.plain_set_update_loop _, ih (i + 1) _ (by omega) hlt (W.frame _ s' _ _ hst' (Nat.le_succ _) fun b hb o e => ?_) ⟨_, hc3, hS3⟩ fun s'' c2 hm'' hc'' hS'' => ?_⟩
    · rw [hsb.2 b (fun h : b = S => hSf (by rw [← h]; exact hb))]; exact e
    · refine hR s'' c2 (Moved.trans W.gtrans ((hm.mono hsub).then_heap (Nat.le_succ _) fun b o hb e => ?_) hm'') hc'' hS''
      rw [hsb.2 b (fun h : b = S => hb (by rw [h]; exact List.mem_cons_self))]; exact e

set_option maxRecDepth 100000 in
set_option maxHeartbeats 3200000 in
theorem call_set_tupS {l : Addr} {items : Array Value} (ns : List Str) {Q : Value → Shared → Prop} (hh : A.handled = none) (hl : s.heap.IsTuple l items) (hit : StrsAre items.toList ns) (hb : ns.length + 1 < scanBound)
    (h : ∀ (h' : Heap) (tk c : Nat), SetS w h' s.heap.objs.size (fun j => decide (j ∈ ns)) c → c ≤ ns.length → (∀ b o, s.heap.get? b = some o → h'.get? b = some o) → Q (.ref s.heap.objs.size) { s with heap := h', toks := tk }) :
    wpAny (model P w) A (call (.type "set") [.ref l]) Q E s := by
  have hisz : items.size = ns.length := by
    have q := StrsAre.length hit
    rw [Array.length_toList] at q
    exact q
  obtain ⟨c, tl, hmro⟩ := F.called_set.mro
  have hmade := F.called_set.made
  have hsub := F.called_set.sub
  refine wpAny_call (codeAny_of_tree ?_)
  show wpAny _ _ (callAny (.type "set") _) _ _ _
  refine wpAny_pure ⟨Code.quiet_builtin _ (by decide +kernel), codeAny_builtin F.entry_type_call ?_⟩
  rw [Around.under_plain (weight_type_call_type "set" [.ref l] []) rfl]
  have h1 := F.called_set.notType
  have h2 := F.called_set.canCreate
  have hct := F.typeCall_set_1 (.ref l)
  repeat (any_goals (first | assumption | wp_step))

  refine codeAny_mono (code_set_led1 (.ref l) (E := E) (Q₁ := fun obj s₁ => obj = .ref s.heap.objs.size ∧ s₁ = { s with heap := s.heap.push { cls := .type "set", dict := none, data := .set #[] 0 (.fresh 0 0 (!w.params.followText "set-order")) } }) ⟨rfl, rfl⟩) fun r s₁ hr => ?_
  cases r with
  | error e => exact hr
  | ok fl =>
    cases fl with
    | ret obj =>
      obtain ⟨rfl, rfl⟩ := hr
      have hS : (s.heap.push { cls := .type "set", dict := none, data := .set #[] 0 (.fresh 0 0 (!w.params.followText "set-order")) }).get? s.heap.objs.size = some { cls := .type "set", dict := none, data := .set #[] 0 (.fresh 0 0 (!w.params.followText "set-order")) } := Heap.get?_push_size _ rfl
      have hT : Shared.TypeIs { s with heap := s.heap.push { cls := .type "set", dict := none, data := .set #[] 0 (.fresh 0 0 (!w.params.followText "set-order")) } } (.ref s.heap.objs.size) "set" := ⟨_, hS, rfl⟩
      have hli := F.called_set.init.lookup
      have hbi := F.called_set.init.bind (.ref s.heap.objs.size)
      repeat (any_goals (first | assumption | wp_step))

      refine codeAny_mono (codeAny_call_builtin (R := wants (fun r s₂ => r = .none ∧ ∃ h' tk c, s₂ = { s with heap := h', toks := tk } ∧ SetS w h' s.heap.objs.size (fun j => decide (j ∈ ns)) c ∧ c ≤ ns.length ∧
          (∀ b o, s.heap.get? b = some o → h'.get? b = some o)) E) F.called_set.init.plain F.entry_set_init (check_set_init_1 hT ?_)) fun r₂ s₂ hr₂ => ?_
      · obtain ⟨ol, hol, hcl, nl, hdl⟩ := hl
        obtain ⟨ocls, odict, odata, oslots⟩ := ol
        simp only at hcl hdl
        subst hcl; subst hdl
        have hol' : (s.heap.push { cls := .type "set", dict := none, data := .set #[] 0 (.fresh 0 0 (!w.params.followText "set-order")) }).get? l = some { cls := .type "tuple", dict := odict, data := .seq items nl, slots := oslots } := Heap.get?_push_of_some _ hol
        have hsls := F.sub_tuple_set
        have hslf := F.sub_tuple_frozenset
        have hne : (Value.type "tuple" == Value.type "dict") = false := by decide
        have hl1 : (s.heap.push { cls := .type "set", dict := none, data := .set #[] 0 (.fresh 0 0 (!w.params.followText "set-order")) }).IsTuple l items := ⟨_, hol', rfl, nl, rfl⟩
        unfold Builtin.«set.__init__» noKeywords Builtin.Frozenset.updateFrom
        generalize hPI : pyIter = PI
        wp_walk
        subst hPI

        refine wpAny_pyIter_tuple hl1 ?_
        refine wpAny_bind (wpAny_runValue ?_)
        have hlS : l < s.heap.objs.size := Heap.lt_size hol
        have hh3 : A.in1.in1.in1.handled = none := by simp [hh]
        have hz1 : (s.heap.push { cls := .type "set", dict := none, data := .set #[] 0 (.fresh 0 0 (!w.params.followText "set-order")) }).objs.size = s.heap.objs.size + 1 := Heap.size_push ..
        have hneI : l ≠ (s.heap.push { cls := .type "set", dict := none, data := .set #[] 0 (.fresh 0 0 (!w.params.followText "set-order")) }).objs.size := by
          rw [Heap.size_push]; exact Nat.ne_of_lt (Nat.lt_succ_of_lt hlS)
        have hSf : s.heap.objs.size ∉ [(s.heap.push { cls := .type "set", dict := none, data := .set #[] 0 (.fresh 0 0 (!w.params.followText "set-order")) }).objs.size, l] := by
          rw [Heap.size_push]; simp only [List.mem_cons, List.mem_singleton, List.not_mem_nil, or_false, not_or]
          exact ⟨Nat.ne_of_lt (Nat.lt_succ_self _), Nat.ne_of_gt hlS⟩
        have hval : ∀ (i : Nat) (v : Value), items[i]? = some v → ∃ k t, ns[i]? = some k ∧ v = .str k t := fun i v hv => by
          have hi : i < ns.length := by rw [← hisz]; exact (Array.getElem?_eq_some_iff.mp hv).1
          obtain ⟨t, e⟩ := SS.strs_at hit i v (by rw [Array.getElem?_toList]; exact hv)
          refine ⟨ns[i], t, List.getElem?_eq_getElem hi, ?_⟩
          rw [e, List.getD_eq_getElem?_getD, List.getElem?_eq_getElem hi] <;> rfl
        refine set_update_strs ((Walks.tuple hh3 _ l hneI items).toS) s.heap.objs.size
          hSf ns hisz hb hval (items.size - 0) 0 _ (by omega) (Nat.zero_le _)
          ⟨⟨_, Heap.get?_push_size _ rfl, rfl, rfl⟩, (hl1.push _)⟩ ?hS0 ?hR
        case hS0 =>
          have hget : ((s.heap.push { cls := .type "set", dict := none, data := .set #[] 0 (.fresh 0 0 (!w.params.followText "set-order")) }).push { cls := .type "tuple_iterator", data := .fields #[.ref l, .int 0 0] }).get? s.heap.objs.size
              = some { cls := .type "set", dict := none, data := .set #[] 0 (.fresh 0 0 (!w.params.followText "set-order")) } := Heap.get?_push_of_some _ hS
          exact ⟨0, Nat.le_refl 0, setS_new_at hget⟩
        case hR =>
          intro s' c' hm hc' hS'
          obtain ⟨h', g2, d', tk', os'⟩ := s'
          have eg : g2 = s.gens := hm.gens
          have ed : d' = s.drawn := hm.drawn
          have eo : os' = s.os := hm.os
          subst eg; subst ed; subst eo
          show wpAny _ _ _ _ _ _
          refine wpAny_pure ?_
          show wpAny _ _ (ret Value.none) _ _ _
          rw [hisz] at hc'
          refine wpAny_pure ⟨rfl, h', tk', c', rfl, hS', hc', fun b o e => ?_⟩
          have hb0 : b < s.heap.objs.size := Heap.lt_size e
          have hb1 : b ≠ s.heap.objs.size := Nat.ne_of_lt hb0
          have hb2 : b ≠ (s.heap.push { cls := .type "set", dict := none, data := .set #[] 0 (.fresh 0 0 (!w.params.followText "set-order")) }).objs.size := by
            rw [Heap.size_push]; exact Nat.ne_of_lt (Nat.lt_succ_of_lt hb0)
          exact hm.heap b o (by simp only [List.mem_cons, List.mem_singleton, List.not_mem_nil, or_false, not_or]; exact ⟨hb1, hb2⟩) (Heap.get?_push_of_some _ (Heap.get?_push_of_some _ e))

      · cases r₂ with
        | error e => exact hr₂
        | ok fl₂ =>
          cases fl₂ with
          | ret r =>
            obtain ⟨rfl, h', tk, c', rfl, hS', hc', hk'⟩ := hr₂
            repeat (any_goals (first | assumption | wp_step))
            exact h _ _ _ hS' hc' hk'
          | _ => exact hr₂.elim
    | _ => exact hr.elim

def rawS (v : Value) : Str := match v with | .str k _ => k | _ => Str.empty
theorem strsA_of : ∀ (l : List Value), (∀ v ∈ l, ∃ k tk, v = Value.str k tk) → StrsAre l (l.map rawS)
  | [], _ => .nil
  | v :: l, h => by
    obtain ⟨k, tk, rfl⟩ := h v List.mem_cons_self
    exact .cons k tk (strsA_of l fun u hu => h u (List.mem_cons_of_mem _ hu))
theorem sorted_setS {S : Str → Bool} {n : Nat} {Q : Value → Shared → Prop} {a : Addr} (R : SetS w s.heap a S n) (hh : A.handled = none) (h64 : n < 64)
    (hQ : ∀ s' p (out : Array Value) (c : Nat) (ns : List Str), (∀ b o, s.heap.get? b = some o → s'.heap.get? b = some o) → s'.gens = s.gens → s'.os = s.os → s.heap.objs.size ≤ p →
      s'.heap.get? p = some (seqObj "list" out c) → StrsAre out.toList ns → sortedS ns = true → ns.Nodup → (∀ k, k ∈ ns ↔ S k = true) → ns.length = n → Q (.ref p) s') :
    wpAny (model P w) A (call (.builtin "sorted") [.ref a]) Q E s := by
  obtain ⟨o, es, ep, t, ho, hex, hd, g, nd, hm, hb, hf, hn, hr, hl⟩ := R
  refine Calls.call_function_entry kind_sorted plain_sorted entry_sorted (args_sorted1 _) ?_
  unfold Builtin.«sorted»
  refine wpAny_bind (m := checkCount "sorted" 1 1 _) (wpAny_pure ?_)
  refine wpAny_bind (collect_set (A := A.in1) hh ⟨o, ho, hex.1, hd⟩ hf hb hr hl fun s1 vs k1 hz g1 o1 pm => ?_)
  have hvl : vs.length = n := by rw [pm.length_eq, List.length_map, Array.length_toList]; exact hn
  have hI : StrsAre vs (vs.map rawS) := strsA_of vs fun v hv => by
    obtain ⟨e, he, q⟩ := List.mem_map.mp (pm.mem_iff.mp hv)
    obtain ⟨k, tk, h1, _⟩ := g e he
    exact ⟨k, tk, by rw [← q]; exact h1⟩
  have pk : (vs.map rawS).Perm (es.toList.map keyS) := by
    have q := pm.map rawS
    rw [List.map_map] at q
    exact q
  refine wpAny_bind (wpAny_newList ?_ (by rw [hvl, sizeLine_eq]; omega))
  have hoL : (s1.heap.push (seqObj "list" vs.toArray 0)).get? s1.heap.objs.size = some (seqObj "list" vs.toArray 0) := Heap.get?_push_size _ rfl
  refine wpAny_bind (wpAny_holding (wpAny_call_entry slot_list_sort ⟨_, hoL, rfl⟩ entry_list_sort (list_sort_treeK PyProof.Rows.strKind_oneLt hoL hI.keysOf (fun v₁ v₂ rest e => keyKind_strs (by rw [← e]; exact hI)) (by rw [hvl]; exact h64) fun st' hp hs => ⟨_, rfl, ?_⟩) (args_list_sort _)))
  obtain ⟨ns', a1, a2, a3⟩ := sorted_out_str hI hp hs
  obtain ⟨c, hc⟩ := sortedHeap_at (vs := vs) (out := (arrOf st').map (·.2)) hoL
  have pn : ns'.Perm (es.toList.map keyS) := a2.trans pk
  refine wpAny_pure ⟨_, rfl, hQ _ s1.heap.objs.size ((arrOf st').map (·.2)) c ns' (fun b u e => ?_) g1 o1 hz hc a1 a3 (pn.nodup_iff.mpr nd) (fun k => by rw [pn.mem_iff, ← hm k]) ?_⟩
  · have q := k1 b u e
    have hlt := Heap.lt_size q
    show (sortedHeap (s1.heap.push (seqObj "list" vs.toArray 0)) s1.heap.objs.size vs ((arrOf st').map (·.2))).get? b = some u
    rw [sortedHeap_old (Nat.ne_of_lt hlt) (by rw [size_push']; exact Nat.lt_succ_of_lt hlt)]
    exact Heap.get?_push_of_some _ q
  · rw [pn.length_eq, List.length_map, Array.length_toList]; exact hn
end
end PL
set_option maxRecDepth 100000
set_option maxHeartbeats 4000000
/-! Lift19: sorted(set(..)), len of a module's dict, isinstance of own classes, == of dicts, *, update, dict(d). -/
namespace PL
open PySem PySem.Spec PyProof.Rows L2 PA
section
variable {C : Cz} {X : Cx} {j k : Nat}
theorem ltc (a b : List Nat) : ltCps a b = true ↔ a < b := by rw [PyProof.Rows.ltCps_eq]; exact decide_eq_true_iff
theorem str_cps_inj {a b : Str} (h : a.cps.toList = b.cps.toList) : a = b := by
  cases a; cases b
  simp only at h
  have : ∀ x y : Array Nat, x.toList = y.toList → x = y := fun x y e => Array.ext' e
  rw [this _ _ h]
/-- strictly rising -/
def UpS (l : List Str) : Prop := l.Pairwise fun a b => a.cps.toList < b.cps.toList
theorem insS_mem (x y : Str) : ∀ l : List Str, y ∈ insS x l ↔ y = x ∨ y ∈ l
  | [] => by simp [insS]
  | z :: r => by
    unfold insS
    by_cases e : x = z
    · rw [if_pos e, e]; simp
    · rw [if_neg e]
      by_cases q : x.cps.toList < z.cps.toList
      · rw [if_pos q]; simp
      · rw [if_neg q, List.mem_cons, insS_mem x y r, List.mem_cons]
        constructor
        · rintro (h | h | h)
          · exact .inr (.inl h)
          · exact .inl h
          · exact .inr (.inr h)
        · rintro (h | h | h)
          · exact .inr (.inl h)
          · exact .inl h
          · exact .inr (.inr h)
theorem insS_up (x : Str) : ∀ l : List Str, UpS l → UpS (insS x l)
  | [], _ => List.pairwise_singleton _ _
  | z :: r, h => by
    obtain ⟨h1, h2⟩ := List.pairwise_cons.mp h
    unfold insS
    by_cases e : x = z
    · rw [if_pos e]; exact h
    · rw [if_neg e]
      by_cases q : x.cps.toList < z.cps.toList
      · rw [if_pos q]
        refine List.pairwise_cons.mpr ⟨fun y hy => ?_, h⟩
        rcases List.mem_cons.mp hy with w | w
        · rw [w]; exact q
        · exact List.lt_trans q (h1 y w)
      · rw [if_neg q]
        refine List.pairwise_cons.mpr ⟨fun y hy => ?_, insS_up x r h2⟩
        rcases (insS_mem x y r).mp hy with w | w
        · rw [w]
          rcases Decidable.em (z.cps.toList < x.cps.toList) with u | u
          · exact u
          · exact absurd (str_cps_inj (List.le_antisymm (List.not_lt.mp u) (List.not_lt.mp q))) e
        · exact h1 y w
theorem sortD_up (xs : List Str) : UpS (sortD xs) := by
  induction xs with
  | nil => exact List.Pairwise.nil
  | cons x r ih => exact insS_up x _ ih
theorem sortD_mem (xs : List Str) (y : Str) : y ∈ sortD xs ↔ y ∈ xs := by
  induction xs with
  | nil => exact Iff.rfl
  | cons x r ih => show y ∈ insS x (sortD r) ↔ _; rw [insS_mem, ih, List.mem_cons]
theorem up_ext : ∀ {a b : List Str}, UpS a → UpS b → (∀ x, x ∈ a ↔ x ∈ b) → a = b
  | [], [], _, _, _ => rfl
  | [], y :: b, _, _, h => absurd ((h y).mpr List.mem_cons_self) (fun z => nomatch z)
  | x :: a, [], _, _, h => absurd ((h x).mp List.mem_cons_self) (fun z => nomatch z)
  | x :: a, y :: b, ha, hb, h => by
    obtain ⟨a1, a2⟩ := List.pairwise_cons.mp ha
    obtain ⟨b1, b2⟩ := List.pairwise_cons.mp hb
    have exy : x = y := by
      rcases List.mem_cons.mp ((h x).mp List.mem_cons_self) with q | q
      · exact q
      · rcases List.mem_cons.mp ((h y).mpr List.mem_cons_self) with w | w
        · exact w.symm
        · exact absurd (List.lt_trans (a1 y w) (b1 x q)) (List.lt_irrefl _)
    subst exy
    rw [up_ext a2 b2 fun z => ?_]
    have hz := h z
    constructor
    · intro q
      rcases List.mem_cons.mp (hz.mp (List.mem_cons_of_mem _ q)) with w | w
      · subst w; exact absurd (a1 _ q) (List.lt_irrefl _)
      · exact w
    · intro q
      rcases List.mem_cons.mp (hz.mpr (List.mem_cons_of_mem _ q)) with w | w
      · subst w; exact absurd (b1 _ q) (List.lt_irrefl _)
      · exact w
theorem risingS_le : ∀ (l : List Str) (p : Str), risingS p l = true → ∀ y ∈ l, ¬ y.cps.toList < p.cps.toList
  | [], _, _ => fun y h => nomatch h
  | x :: r, p, h => by
    unfold risingS at h
    rw [Bool.and_eq_true] at h
    have h1 : ¬ x.cps.toList < p.cps.toList := fun q => by
      have := (ltc _ _).mpr q
      rw [this] at h
      exact absurd h.1 (by decide)
    intro y hy
    rcases List.mem_cons.mp hy with w | w
    · rw [w]; exact h1
    · have h2 := risingS_le r x h.2 y w
      intro q
      by_cases u : p.cps.toList < x.cps.toList
      · exact h2 (List.lt_trans q u)
      · have e := List.le_antisymm (List.not_lt.mp h1) (List.not_lt.mp u)
        rw [e] at q
        exact h2 q
theorem sortedS_up : ∀ (l : List Str), sortedS l = true → l.Nodup → UpS l
  | [], _, _ => List.Pairwise.nil
  | x :: r, h, d => by
    obtain ⟨d1, d2⟩ := List.nodup_cons.mp d
    have h' : risingS x r = true := h
    have hr : sortedS r = true := by
      cases r with
      | nil => rfl
      | cons y r => unfold risingS at h'; rw [Bool.and_eq_true] at h'; exact h'.2
    refine List.pairwise_cons.mpr ⟨fun y hy => ?_, sortedS_up r hr d2⟩
    have a := risingS_le r x h' y hy
    rcases Decidable.em (x.cps.toList < y.cps.toList) with q | q
    · exact q
    · exact absurd (str_cps_inj (List.le_antisymm (List.not_lt.mp a) (List.not_lt.mp q)) ▸ hy) d1
theorem strsAll : ∀ {ys : List Str} {us : List Value}, Vals (ys.map V.str) us → StrsAre us ys := L2.strsAre_of
/-- sorted(set(e)), e a tuple of texts -/
def tSortSet (K : PySem.W.Frag) (ta : TE) : TE := fun σ H Q => ta σ H fun x H1 => ∃ l, ∃ xs : List Str, x = .ref l ∧ SqT K H1 l (xs.map V.str) ∧ xs.length < 64 ∧ ∀ p, H1 p = none → Q (.ref p) (upd H1 p (.lst ((sortD xs).map V.str)))
theorem pe_sortSet {a : Expr} {ta : TE} {p p2 q pos : Pos} (hc : X.calm = true) (hg : Gl X "sorted") (hm : X.mg "sorted" = none) (hg2 : Gl X "set") (hm2 : X.mg "set" = none) (ha : PE X a ta)
    (na : starEach [a] X.env = (false, eval a X.env) :: starEach [] X.env := by rfl) : PE X (.Call (.Name "sorted" p) [.Call (.Name "set" p2) [a] [] q] [] pos) (tSortSet X.K ta) := by
  refine ⟨fun pins s σ H Q I h => ?_⟩
  refine Call_ (ld_blt I hg hm (show bootBuiltins (Str.ofString "sorted") = some (.builtin "sorted") by decide +kernel) ?_)
  refine PyProof.Rows.callWith_builtin1 (PyProof.Rows.args_cons ?_ rfl) rfl rfl
  refine Call_ (ld_blt I hg2 hm2 boot_set ?_)
  refine PyProof.Rows.callWith_type1 (PyProof.Rows.args_cons (thn (ha.run pins s σ H _ I h) fun v s1 ⟨x, H1, I1, r1, q1⟩ => PyProof.Rows.args_nil ?_) na) na rfl
  obtain ⟨l, xs, rfl, hq, h1, q1⟩ := q1
  cases r1
  obtain ⟨its, r, pl, hz⟩ := I1.tuple hq
  have hl : its.toArray.size = xs.length := by rw [List.size_toArray, ← r.length, List.length_map]
  refine call_set_tupS xs (I1.ok.hd hc) pl (by simpa using strsAll r) (by unfold scanBound; omega) fun h' tk c hS hcn hk => ?_
  refine PyProof.Rows.args_nil ?_
  have I2 : Inv X pins σ H1 { s1 with heap := h', toks := tk } := I1.kept hk
  generalize hs2 : ({ s1 with heap := h', toks := tk } : Shared) = s2 at I2 ⊢
  have hS2 : SetS X.w s2.heap s1.heap.objs.size (fun j => decide (j ∈ xs)) c := by rw [← hs2]; exact hS
  refine sorted_setS (s := s2) hS2 (I1.ok.hd hc) (by omega) fun s' p out c' ns k g o hp hg' hi hs nd hmem hln => ?_
  have hns : ns = sortD xs := up_ext (sortedS_up ns hs nd) (sortD_up xs) fun y => by rw [hmem y, sortD_mem]; simp
  have hlen : (ns.map V.str).length ≤ sizeLine := by rw [List.length_map, hln, sizeLine_eq]; omega
  have hn : H1 p = none := I2.hok.fresh hp
  have J : Inv X pins σ (upd H1 p (.lst (ns.map V.str))) { s2 with heap := s'.heap, gens := s'.gens, drawn := s'.drawn, toks := s'.toks } :=
    I2.call (ch := []) (Un.laid k hp hn) (I2.hok.laid k hp ⟨hlen, out.toList, c', vals_of_strs hi, hg'⟩) (by rw [g]; exact I2.bare) (fun _ z => nomatch z)
  have e : s' = { s2 with heap := s'.heap, gens := s'.gens, drawn := s'.drawn, toks := s'.toks } := by
    cases s'
    cases s2
    cases o
    rfl
  rw [e]
  refine ⟨.ref p, _, J, rfl, ?_⟩
  rw [hns]
  exact q1 p hn
theorem laid_lst {ι : Nat → Addr} {h : PA.Heap} {H : Hp} {W : XK} {Q : VK} {xs : List AV} {vs : List V} (r : Rep C ι h H) (av : AvRs C ι h.length H xs vs) (p : GPost C (AvR C) ι h H Q W (.ok (.loc h.length) (h ++ [.lst xs]))) (q : Addr) (hq : H q = none) : Q (.ref q) (upd H q (.lst vs)) := by
  have e2 := Ext.grow (o := .lst vs) r hq
  refine p (put1 ι h.length q) _ (.ref q) (by rw [List.length_append]; exact e2) (r.grow (ao := .lst xs) hq ⟨vs, upd_same, r.avs e2 av⟩) ?_
  have t : AvR C (put1 ι h.length q) (h ++ [AO.lst xs]).length (upd H q (.lst vs)) (.loc h.length) (.ref (put1 ι h.length q h.length)) := .loc (by simp)
  rw [put1_same] at t
  exact t
theorem laid_dct {ι : Nat → Addr} {h : PA.Heap} {H : Hp} {W : XK} {Q : VK} {xs : List (AV × AV)} {vs : List (Key × V)} (r : Rep C ι h H) (av : KsR C ι h.length H xs vs) (p : GPost C (AvR C) ι h H Q W (.ok (.loc h.length) (h ++ [.dct xs]))) (q : Addr) (hq : H q = none) : Q (.ref q) (upd H q (.dK vs)) := by
  have e2 := Ext.grow (o := .dK vs) r hq
  refine p (put1 ι h.length q) _ (.ref q) (by rw [List.length_append]; exact e2) (r.grow (ao := .dct xs) hq ⟨vs, upd_same, r.ksr e2 av⟩) ?_
  have t : AvR C (put1 ι h.length q) (h ++ [AO.dct xs]).length (upd H q (.dK vs)) (.loc h.length) (.ref (put1 ι h.length q h.length)) := .loc (by simp)
  rw [put1_same] at t
  exact t
theorem AvRs.ofStrs {ι : Nat → Addr} {n : Nat} {H : Hp} : ∀ ys : List Str, AvRs C ι n H (ys.map .str) (ys.map V.str)
  | [] => .nil
  | y :: ys => .cons (.str y) (AvRs.ofStrs ys)
theorem re_sortSet {e : Expr} {m : EE} {p p2 q pos : Pos} (g : Gd C X j) (hm : C.mg "sorted" = none) (hm2 : C.mg "set" = none) (he : RE C X e m) (hg : Gl X "sorted" := by rfl) (hg2 : Gl X "set" := by rfl)
    (na : starEach [e] X.env = (false, eval e X.env) :: starEach [] X.env := by rfl) : RE C X (.Call (.Name "sorted" p) [.Call (.Name "set" p2) [e] [] q] [] pos) (eSortSet m) := fun W tk =>
  PE_imp (pe_sortSet g.calm hg (by rw [g.hm]; exact hm) hg2 (by rw [g.hm]; exact hm2) (he W tk) na) fun σ H Q ⟨ι, h, ρ, r, en, p⟩ => ⟨ι, h, ρ, r, en, (GPost.bnd (R := AvR C) p).mono fun x H1 ⟨ι1, h1, a, r1, e1, x1, p1⟩ => by
    cases x1 with
    | @tup q xs vs t av =>
      dsimp only at p1
      cases z : strsOf xs with
      | none => rw [z] at p1; exact p1.elim
      | some ys =>
        rw [z] at p1
        dsimp only at p1
        have ev : vs = ys.map V.str := PL.strs_of av z
        subst ev
        by_cases zl : ys.length < 64
        · rw [if_pos zl] at p1
          exact ⟨q, ys, rfl, by rw [g.hK]; exact t, zl, fun p hp => laid_lst r1 (AvRs.ofStrs _) p1 p hp⟩
        · rw [if_neg zl] at p1; exact p1.elim
    | _ => exact p1.elim⟩

/-! ### len of a dict of the module -/
theorem kd_dictOf {P : Program} {K : PySem.W.Frag} {w : World} {d : Addr} {es : Array DictEntry} {n : Nat} {ks : List Str} {h : PySem.Heap} (D : KDict K w d es n) (hin : K.In h) (hks : es.toList.map He.keyOf = He.keysIn w.params ks) (nd : ks.Nodup) : h.DictOf (PySem.strKind P w) d (es.toList.map fun e => (rawS e.key, e.val)) := by
  have ek : ∀ e ∈ es.toList, ∃ x t, e.key = .str x t ∧ e.hash = PyData.keyHash w.params x := D.lit.all
  have keys : es.toList.map (fun e => rawS e.key) = ks := by
    have gen : ∀ (l : List DictEntry) (ks : List Str), (∀ e ∈ l, ∃ x t, e.key = .str x t ∧ e.hash = PyData.keyHash w.params x) → l.map He.keyOf = He.keysIn w.params ks → l.map (fun e => rawS e.key) = ks := by
      intro l
      induction l with
      | nil => intro ks _ e; cases ks with
        | nil => rfl
        | cons k r => cases e
      | cons a l ih =>
        intro ks hl e
        cases ks with
        | nil => cases e
        | cons k r =>
          obtain ⟨x, t, hx, _⟩ := hl a List.mem_cons_self
          have e' : He.keyOf a :: l.map He.keyOf = some (k, PyData.keyHash w.params k) :: He.keysIn w.params r := e
          injection e' with e1 e2
          unfold He.keyOf at e1
          rw [hx] at e1
          have e3 := (Prod.mk.inj (Option.some.inj e1)).1
          rw [List.map_cons, ih r (fun b hb => hl b (List.mem_cons_of_mem _ hb)) e2, hx, ← e3]
          rfl
    exact gen _ _ ek hks
  refine ⟨_, es, n, hin _ _ D.at_, ⟨rfl, rfl, rfl⟩, rfl, fun e he => ?_, ?_, ?_⟩
  · obtain ⟨x, t, e1, e2⟩ := ek e (Array.mem_toList_iff.mpr he)
    exact ⟨x, by rw [e1]; exact PySem.strKind_is P w x t, e2⟩
  · have gen : ∀ (l : List DictEntry), (∀ e ∈ l, ∃ x t, e.key = .str x t ∧ e.hash = PyData.keyHash w.params x) → Pairs (PySem.strKind P w) l (l.map fun e => (rawS e.key, e.val)) := by
      intro l
      induction l with
      | nil => intro _; exact .nil
      | cons a l ih =>
        intro hl
        obtain ⟨x, t, hx, _⟩ := hl a List.mem_cons_self
        exact .cons (by show (PySem.strKind P w).is (rawS a.key) a.key = true; rw [hx]; exact PySem.strKind_is P w x t) rfl (ih fun b hb => hl b (List.mem_cons_of_mem _ hb))
    exact gen _ ek
  · rw [List.map_map]
    have : (es.toList.map ((fun x => x.1) ∘ fun e => (rawS e.key, e.val))) = ks := keys
    rw [this]
    exact nd
theorem re_lenK {x : Str} {ks : List Str} {n : Nat} {p p2 pos : Pos} (g : Gd C X j) (K : KdK C x ks) (nd : ks.Nodup) (hn : ks.length = n) (hn2 : n ≤ 1000) (hml : C.mg "len" = none) (hg : Gl X "len" := by rfl) (hgx : Gl X x := by rfl) (hdx : (x == ("__debug__" : Str)) = false := by decide)
    (na : starEach [.Name x p2] X.env = (false, eval (.Name x p2) X.env) :: starEach [] X.env := by rfl) : RE C X (.Call (.Name "len" p) [.Name x p2] [] pos) (eLenK n) := by
  obtain ⟨d, es, n0, hm, D, hks⟩ := K.ex
  have D' := kd_transport D g.hK g.hw
  have hks' : es.toList.map He.keyOf = He.keysIn X.w.params ks := by rw [g.hw]; exact hks
  have cr : CallR X (.builtin "len") (fun vs H Q => vs = [.ref d] ∧ Q (.int n) H) := by
    intro pins s σ H xs us Q I rv ⟨ev, q⟩
    subst ev
    rw [Vals.ref1 rv]
    have dd := kd_dictOf (P := X.prog) D' I.kIn hks' nd
    have hsz : (es.toList.map fun e => (rawS e.key, e.val)).length = n := by rw [List.length_map, Array.length_toList, keys_size hks, hn]
    refine call_len_dict D'.low dd (by rw [hsz]; omega) ?_
    rw [hsz]
    exact ⟨.int n, H, I.tok _, ⟨_, rfl⟩, q⟩
  intro W tk
  refine PE_imp (pe_callB cr hg (by rw [g.hm]; exact hml) boot_len (pa_cons (ev_glob g hm hgx hdx) pa_nil na) (by decide) (by decide) na rfl) fun σ H Q ⟨ι, h, ρ, r, en, p⟩ => ⟨rfl, p ι H _ Ext.refl r (.int _)⟩
end
end PL
set_option maxRecDepth 100000
set_option maxHeartbeats 4000000
/-! Lift20: isinstance of own classes, == of dicts, *, update, dict(d). -/
namespace PL
open PySem PySem.Spec PyProof.Rows L2 PA
section
variable {C : Cz} {X : Cx} {j k : Nat}
/-- isinstance(x, c), c a slotted class of the module -/
structure IsiA (C : Cz) (c : String) : Prop where
  us : ∃ names, C.sl c = some names
  sc : SlX.SCls C.K (C.ad c)
  si : SlX.SIsi C.K (C.ad c)
  no : ∀ t ∈ ["NoneType", "bool", "int", "str", "tuple", "list", "dict"], PySem.W.kitOne C.K (.type t) (.ref (C.ad c)) = some false
theorem cr_isC {c : String} (g : Gd C X j) (S : IsiA C c) : CrA C X (.builtin "isinstance") (bIsC c) := by
  intro pins s σ H xs us Q I rv ⟨ι, h, as, W, r, x, p⟩
  cases x with
  | nil => exact p.elim
  | cons a b =>
    cases b with
    | nil => exact p.elim
    | cons a2 b =>
      cases b with
      | cons _ _ => exact (by cases a2 <;> exact p.elim)
      | nil =>
        cases a2 with
        | gl c' =>
          rename_i a0 v0
          unfold bIsC at p
          dsimp only at p
          by_cases e : c' = c
          · rw [if_pos e] at p
            subst e
            by_cases z : isIns c' h a0 = true
            · rw [if_pos z] at p
              obtain ⟨names, hn⟩ := S.us
              obtain ⟨q, dx, vs, rfl, st⟩ := isIns_sl hn r a z
              have sc := S.sc; have si := S.si
              rw [← g.hK] at sc si
              exact SlX.call_isiSl (.ref (C.ad c')) pins s σ H _ us Q I rv ⟨q, C.ad c', dx, vs, .ref (C.ad c'), true, rfl, rfl, fun w hw => hw, st, sc, si, by unfold PySem.W.kitOne; rw [if_pos (by simp)], p ι H _ Ext.refl r (.bl _)⟩
            · rw [if_neg z] at p
              cases e2 : tyOf h a0 with
              | none => rw [e2] at p; exact p.elim
              | some t =>
                rw [e2] at p
                dsimp only at p
                exact call_isi pins s σ H _ us Q I rv ⟨_, _, _, _, _, rfl, .own (C.ad c'), tyx_of g r a e2, by rw [g.hK]; exact S.no t (List.contains_iff_mem.mp (tyOf_in e2)), p ι H _ Ext.refl r (.bl _)⟩
          · rw [if_neg e] at p; exact p.elim
        | _ => exact p.elim

/-! ### == of dicts -/
theorem ksR_len {ι : Nat → Addr} {n : Nat} {H : Hp} {kvs : List (AV × AV)} {ks : List (Key × V)} (r : KsR C ι n H kvs ks) : kvs.length = ks.length := r.length
/-- a list of pairs, each key found -/
theorem ksR_all {ι : Nat → Addr} {n : Nat} {H : Hp} {xs : List (AV × AV)} {ks : List (Key × V)} (r : KsR C ι n H xs ks) {P : AV → AV → Prop} (h : ∀ p ∈ xs, P p.1 p.2) : ∀ p ∈ ks, ∃ a x, KR a p.1 ∧ AvR C ι n H x p.2 ∧ P a x := by
  induction r with
  | nil => exact fun p hp => nomatch hp
  | @int i x v fs gs xv _ ih =>
    intro p hp
    rcases List.mem_cons.mp hp with e | e
    · subst e; exact ⟨_, x, .int i, xv, h _ List.mem_cons_self⟩
    · exact ih (fun q hq => h q (List.mem_cons_of_mem _ hq)) p e
  | @str i x v fs gs xv _ ih =>
    intro p hp
    rcases List.mem_cons.mp hp with e | e
    · subst e; exact ⟨_, x, .str i, xv, h _ List.mem_cons_self⟩
    · exact ih (fun q hq => h q (List.mem_cons_of_mem _ hq)) p e
theorem op_eqD (g : Gd C X j) : OpA C X (compareOp .Eq) oEqD := by
  intro pins s σ H x y v u Q I rx ry ⟨ι, h, a, b, W, r, xa, xb, p⟩
  unfold oEqD at p
  cases e1 : dctU h a with
  | none => rw [e1] at p; exact p.elim
  | some xs =>
    rw [e1] at p
    cases e2 : dctU h b with
    | none => rw [e2] at p; exact p.elim
    | some ys =>
      rw [e2] at p
      dsimp only at p
      by_cases z : sameKvs xs ys = true
      · rw [if_pos z] at p
        obtain ⟨la, rfl, ea⟩ : ∃ l, a = .loc l ∧ h[l]? = some (.dct xs) := by
          unfold dctU at e1
          cases a with
          | loc l =>
            dsimp only at e1
            cases q : h[l]? with
            | none => rw [q] at e1; cases e1
            | some o => rw [q] at e1; cases o <;> first | (cases e1; done) | (cases e1; exact ⟨l, rfl, q⟩)
          | _ => cases e1
        obtain ⟨lb, rfl, eb⟩ : ∃ l, b = .loc l ∧ h[l]? = some (.dct ys) := by
          unfold dctU at e2
          cases b with
          | loc l =>
            dsimp only at e2
            cases q : h[l]? with
            | none => rw [q] at e2; cases e2
            | some o => rw [q] at e2; cases o <;> first | (cases e2; done) | (cases e2; exact ⟨l, rfl, q⟩)
          | _ => cases e2
        obtain ⟨rfl, _⟩ := loc_of xa
        obtain ⟨rfl, _⟩ := loc_of xb
        obtain ⟨ks, hk, kr⟩ := dct_at r ea
        obtain ⟨ls, hl, lr⟩ := dct_at r eb
        unfold sameKvs at z
        rw [Bool.and_eq_true, decide_eq_true_eq, List.all_eq_true] at z
        obtain ⟨zl, za⟩ := z
        refine op_eq_dictA g.room.units0 pins s σ H _ _ v u Q I rx ry ⟨_, _, ks, ls, rfl, rfl, hk, hl, by rw [← kr.length, ← lr.length]; exact zl, fun q hq => ?_, p ι H _ Ext.refl r (.bl _)⟩
        obtain ⟨a, x, ka, xv, pa⟩ := ksR_all kr (P := fun a x => (match dGet ys a with
          | some v => eqF v x && (match v, x with
            | .str _, .str _ => true
            | .int _, .int _ => true
            | _, _ => false)
          | none => false) = true) za q hq
        rcases lr.get ka with ⟨g1, g2⟩ | ⟨y, w, g1, g2, g3⟩
        · rw [g1] at pa; cases pa
        · rw [g1] at pa
          dsimp only at pa
          rw [Bool.and_eq_true] at pa
          obtain ⟨p1, p2⟩ := pa
          rw [g2]
          cases g3 with
          | str s1 =>
            generalize hq2 : q.2 = q2 at xv
            cases xv with
            | str s2 =>
              have : s1 = s2 := eq_of_beq p1
              subst this
              exact ⟨rfl, rfl⟩
            | _ => cases p2
          | int s1 =>
            generalize hq2 : q.2 = q2 at xv
            cases xv with
            | int s2 =>
              have : s1 = s2 := eq_of_beq p1
              subst this
              exact ⟨rfl, rfl⟩
            | _ => cases p2
          | _ => generalize q.2 = q2 at xv; cases xv <;> cases p2
      · rw [if_neg z] at p; exact p.elim

/-! ### * -/
theorem mulOk_small {x : Str} {n : Int} (h0 : 0 ≤ n) (h1 : n ≤ 1000) (h2 : x.length ≤ 1000) : MulOk x n := by
  refine ⟨by simp; omega, fun hn _ h => ?_, fun _ _ => ?_⟩
  · have hp : 0 < n := by omega
    have a1 : (x.length : Int) * n ≤ 1000 * 1000 := Int.mul_le_mul (by omega) h1 h0 (by omega)
    have a2 : (x.length : Int) ≤ (2 ^ 63 - 1) / n := (Int.le_ediv_iff_mul_le hp).mpr (by omega)
    omega
  · have : x.length * n.toNat ≤ 1000 * 1000 := Nat.mul_le_mul h2 (by omega)
    show decide (_ > _) = false
    exact decide_eq_false (by rw [sizeLine_eq]; omega)
theorem op_mulA (g : Gd C X j) : OpA C X (binaryOp .Mult) oMul := by
  intro pins s σ H x y v u Q I rx ry ⟨ι, h, a, b, W, r, xa, xb, p⟩
  unfold oMul at p
  cases xb with
  | int n =>
    cases xa with
    | int i =>
      dsimp only at p
      by_cases z : (-(2 ^ 64) < i ∧ i < 2 ^ 64) ∨ (-(2 ^ 64) < n ∧ n < 2 ^ 64)
      · rw [if_pos z] at p
        exact op_mul pins s σ H _ _ v u Q I rx ry ⟨_, _, rfl, rfl, z, p ι H _ Ext.refl r (.int _)⟩
      · rw [if_neg z] at p; exact p.elim
    | str i =>
      dsimp only at p
      by_cases z : 0 ≤ n ∧ n ≤ 1000 ∧ i.length ≤ 1000
      · rw [if_pos z] at p
        obtain ⟨t, rfl⟩ := rx
        obtain ⟨t', rfl⟩ := ry
        exact SB.mul (mulOk_small z.1 z.2.1 z.2.2) fun t'' k => ⟨.str (Txt.mul i n), H, I.tok _, ⟨_, rfl⟩, p ι H _ Ext.refl r (.str _)⟩
      · rw [if_neg z] at p; exact p.elim
    | @tup q xs vs t av =>
      dsimp only at p
      by_cases z : 2 ≤ n ∧ n ≤ 1000 ∧ xs.length ≤ 1000 ∧ xs.length ≠ 0
      · rw [if_pos z] at p
        obtain ⟨z1, z2, z3, z4⟩ := z
        refine op_repT pins s σ H _ _ v u Q I rx ry ⟨q, n, vs, rfl, rfl, by rw [g.hK]; exact t, fun e => z4 (by rw [av.length, e]; rfl), z1, z2, by rw [← av.length]; exact z3, fun p' hp => ?_⟩
        have rep : ∀ m : Nat, AvRs C ι h.length H (List.replicate m xs).flatten (List.replicate m vs).flatten := by
          intro m
          induction m with
          | zero => exact .nil
          | succ m ih => rw [List.replicate_succ, List.replicate_succ, List.flatten_cons, List.flatten_cons]; exact av.append ih
        exact laid_tup r (rep n.toNat) p hp
      · rw [if_neg z] at p; exact p.elim
    | _ => exact p.elim
  | _ => cases xa <;> exact p.elim

/-! ### d.update(d2), dict(d) -/
theorem ksR_merge {ι : Nat → Addr} {n : Nat} {H : Hp} {ys : List (AV × AV)} {ls : List (Key × V)} (r : KsR C ι n H ys ls) : ∀ {xs : List (AV × AV)} {ks : List (Key × V)}, KsR C ι n H xs ks → KsR C ι n H (ys.foldl (fun acc p => dPut acc p.1 p.2) xs) (mergeK ks ls) := by
  induction r with
  | nil => exact fun q => q
  | @int i x v fs gs xv _ ih => exact fun q => ih (q.put (.int i) xv)
  | @str i x v fs gs xv _ ih => exact fun q => ih (q.put (.str i) xv)
theorem mm_upd : MtR X "dict.update" (fun x vs H Q => ∃ ι h a as W, Rep C ι h H ∧ AvR C ι h.length H a x ∧ AvRs C ι h.length H as vs ∧ GPost C (AvR C) ι h H Q W (mUpd a as h)) := by
  intro pins s σ H x xs v us Q I rx rxs ⟨ι, h, a, as, W, r, xa, x2, p⟩
  unfold mUpd at p
  cases xa with
  | @loc l hl =>
    cases x2 with
    | nil => exact p.elim
    | cons a2 b2 =>
      cases b2 with
      | cons _ _ => cases a2 <;> exact p.elim
      | nil =>
        cases a2 with
        | @loc m hm =>
          dsimp only at p
          by_cases z : l = m
          · rw [if_pos z] at p; exact p.elim
          · rw [if_neg z] at p
            cases e1 : h[l]? with
            | none => rw [e1] at p; exact p.elim
            | some o1 =>
              cases e2 : h[m]? with
              | none => rw [e1, e2] at p; cases o1 <;> exact p.elim
              | some o2 =>
                rw [e1, e2] at p
                cases o1 with
                | dct ks =>
                  cases o2 with
                  | dct ls =>
                    dsimp only at p
                    by_cases zz : ks.length + ls.length ≤ 100000
                    · rw [if_pos zz] at p
                      obtain ⟨ka, hka, ra⟩ := dct_at r e1
                      obtain ⟨kb, hkb, rb⟩ := dct_at r e2
                      obtain rfl : v = Value.ref (ι l) := rx
                      obtain ⟨u, rfl, ru⟩ := rxs.one
                      obtain rfl : u = Value.ref (ι m) := ru
                      obtain ⟨z1, hd1, v1, rel1, dd1⟩ := dk_of I.hok hka
                      obtain ⟨z2, hd2, v2, rel2, dd2⟩ := dk_of I.hok hkb
                      have ne : ι l ≠ ι m := fun q => z (r.inj l m hl hm q)
                      have la := ra.length
                      have lb := rb.length
                      have l1 : ka.length = v1.length := rel1.length
                      have l2 : kb.length = v2.length := rel2.length
                      refine call_meetsIn PySem.F.slot_dict_update dd1.typeIs PySem.F.entry_dict_update (PySem.F.args_dict_update_2 _ _) (meets_dict_update (mixKind X.prog X.w) (ι l) (ι m) ne hd2) ⟨v1, v2, dd1, dd2, by rw [sizeLine_eq]; omega, fun h' dd' _ hs => ?_⟩
                      have he : ∃ q, h'.get? (ι l) = some q := let ⟨q, _, _, hq, _⟩ := dd'; ⟨q, hq⟩
                      obtain ⟨ex, r2⟩ := chg_dct r e1 (ksR_merge rb ra)
                      refine ⟨.non, _, d_write (t' := s.toks) I (by rw [hka]; exact True.intro) hs he (dk_new ?_ hd1 (KV.merge rel2 rel1) dd'), rfl, p ι _ .non ex r2 .non⟩
                      have := length_mergeK kb ka
                      rw [sizeLine_eq]
                      omega
                    · rw [if_neg zz] at p; exact p.elim
                  | _ => exact p.elim
                | _ => exact p.elim
        | _ => exact p.elim
  | _ => cases x2 with
    | nil => exact p.elim
    | cons a2 b2 => exact p.elim
theorem tyd_of {ι : Nat → Addr} {h : PA.Heap} {H : Hp} {a : AV} {x : V} (r : Rep C ι h H) (xa : AvR C ι h.length H a x) (z : isDct h a = true) : tyV X.K "dict" x H := by
  cases xa with
  | @loc l hl =>
    unfold isDct at z
    dsimp only at z
    cases e : h[l]? with
    | none => rw [e] at z; cases z
    | some o =>
      rw [e] at z
      cases o with
      | dct xs => obtain ⟨vs, hv, _⟩ := dct_at r e; exact .inr (.inr (.inl ⟨rfl, .inl ⟨vs, hv⟩⟩))
      | _ => cases z
  | _ => cases z
theorem re_upd {o e : Expr} {mo : EE} {l : LL} {apos cpos : Pos}
    (ho : RE C X o mo) (hl : RL C X [e] l) (hbase : attributeBase o "update" X.env (eval o X.env) = eval o X.env := by rfl)
    (hfew : ((backTo cpos (starEach [e] X.env)).all (fun x => !x.1) && (backToKw cpos (keywordEach [] X.env)).all (fun x => x.1.isSome)
      && decide ([e].length + ([] : List Keyword).length + (if ([] : List Keyword).isEmpty then 0 else 1) < 30)) = true := by rfl)
    (hline : (apos.endLine == cpos.line) = true := by rfl) (hs : starEach [e] X.env = (false, eval e X.env) :: starEach [] X.env := by rfl) (hplain : (backTo cpos (starEach [] X.env)).any (·.1) = false := by rfl) :
    RE C X (.Call (.Attribute o "update" apos) [e] [] cpos) (eDm mUpd mo l) := fun W tk =>
  PE_imp (pe_bm PySem.F.plainAttrs_dict PySem.F.slot_dict_update PySem.F.type_dict_update mm_upd (ho W tk) (hl W tk) hbase hfew hline hs hplain) fun σ H Q ⟨ι, h, ρ, r, en, p⟩ => ⟨ι, h, ρ, r, en, (GPost.bnd (R := AvR C) p).mono fun x H1 ⟨ι1, h1, a, r1, e1, x1, p1⟩ => by
    by_cases z : isDct h1 a = true
    · rw [if_pos z] at p1
      exact ⟨tyd_of r1 x1 z, ι1, h1, ρ, r1, en.ext r e1, (GPost.bnd (R := AvRs C) p1).mono fun xs H2 ⟨ι2, h2, as, r2, e2, x2, p2⟩ => ⟨ι2, h2, a, as, _, r2, r1.av e2 x1, x2, p2⟩⟩
    · rw [if_neg z] at p1; exact p1.elim⟩
theorem cr_dict : CrA C X (.type "dict") bDict := by
  intro pins s σ H xs us Q I rv ⟨ι, h, as, W, r, x, p⟩
  cases x with
  | nil => exact p.elim
  | cons a b =>
    cases b with
    | cons _ _ => exact p.elim
    | nil =>
      rename_i a0 v0
      unfold bDict at p
      dsimp only at p
      cases e : dctOf h a0 with
      | none => rw [e] at p; exact p.elim
      | some kvs =>
        rw [e] at p
        obtain ⟨q, ks, rfl, rd, kr⟩ := dct_of r a e
        exact call_dictD pins s σ H _ us Q I rv ⟨q, ks, rfl, rd, fun p' hp => laid_dct r kr p p' hp⟩
end
end PL
set_option maxRecDepth 100000
set_option maxHeartbeats 4000000
/-! Lift21: a name that is set to a comprehension. -/
namespace PL
open PySem PySem.Spec PyProof.Rows L2 PA
section
variable {C : Cz} {X : Cx} {tg : Expr} {j k : Nat}
theorem lc_imp {it : II} {g : Tg} {g' : TG} {is : List Nat} {t : BB} {e : EE} {W : WX} {vs0 : List Nat} (tokG : TgOk C g' g is) (hin : ∀ i ∈ is, i ∈ vs0) : ∀ σ H Q, tM C (lComp it g t e vs0) W σ H Q → tLc (tI C it W) g' (tT C t WF) (tE C e WF) vs0 σ H Q := by
  intro σ H Q ⟨ι, h, ρ, r, en, Z, hZ, p⟩
  refine ⟨ι, h, ρ, r, en, (GPost.bnd (R := ItOk C) p).mono fun J H1 ⟨ι1, h1, items, r1, e1, x1, p1⟩ => ?_⟩
  intro D hD
  have nZ : ¬ Z D := fun z => e1.dom D (hZ D z) hD
  refine ⟨fun i m H2 => ∃ ι2 h2 acc vs, Ext ι1 h1.length H1 ι2 h2.length H2 ∧ Rep C ι2 h2 H2 ∧ H2 D = some (.lst vs) ∧ AvRs C ι2 h2.length H2 acc vs ∧ (∀ l, l < h2.length → ι2 l ≠ D) ∧ GPost C (rTmp C Z) ι1 h1 H1 Q (fun c d H' => W c d σ H') (lcIter items g t e (wipeA ρ (vs0)) m i acc h2),
    ⟨fuel, ι1, h1, [], [], Ext.laid r1 hD, r1.laid hD, upd_same, .nil, fun l hl => r1.off hD hl, p1⟩, ?_⟩
  rintro i m H2 ⟨ι2, h2, acc, vs, e2, r2, hv, av, off, p2⟩
  cases m with
  | zero => exact p2.elim
  | succ k =>
    unfold lcIter at p2
    cases z : items h2 with
    | none => simp only [z] at p2; exact p2.elim
    | some ys =>
      simp only [z] at p2
      obtain ⟨w1, w2⟩ := x1 ι2 h2 H2 e2 r2 i ys z
      cases z2 : ys[i]? with
      | none =>
        simp only [z2] at p2
        exact .inl ⟨w2 z2, p2 ι2 H2 _ e2 r2 ⟨D, vs, rfl, hv, av, off, nZ⟩⟩
      | some x =>
        simp only [z2] at p2
        obtain ⟨go, yl⟩ := w1 x z2
        refine .inr ⟨go, fun H3 => ∃ ι2 h2 acc vs, Ext ι1 h1.length H1 ι2 h2.length H3 ∧ Rep C ι2 h2 H3 ∧ H3 D = some (.lst vs) ∧ AvRs C ι2 h2.length H3 acc vs ∧ (∀ l, l < h2.length → ι2 l ≠ D) ∧ GPost C (rTmp C Z) ι1 h1 H1 Q (fun c d H' => W c d σ H') (lcIter items g t e (wipeA ρ (vs0)) k (i + 1) acc h2), fun H3 q => ⟨k, Nat.lt_succ_self _, q⟩, fun v H3 y => ?_⟩
        obtain ⟨e3, r3, xv⟩ := yl v H3 y
        cases z3 : g x (wipeA ρ (vs0)) with
        | none => simp only [z3] at p2; exact p2.elim
        | some ρ1 =>
          simp only [z3] at p2
          have en3 : EnR C ι2 h2.length H3 (wipeA ρ (vs0)) (L2.wipe σ (vs0)) := ((en.ext r e1).ext r1 (e2.trans e3)).wipe _
          have keepD : ∀ {ι5 : Nat → Addr} {h5 : PA.Heap} {H5 : Hp}, Ext ι2 h2.length H2 ι5 h5.length H5 → H5 D = some (.lst vs) ∧ ∀ l, l < h5.length → ι5 l ≠ D := fun {ι5 h5 H5} e5 => by
            refine ⟨e5.frame _ _ hv (fun _ z => nomatch z) off, fun l hl zl => ?_⟩
            by_cases q : l < h2.length
            · exact off l q ((e5.agree l q).symm.trans zl)
            · have f := e5.fresh l (Nat.le_of_not_lt q) hl
              rw [zl, hv] at f
              cases f
          refine tokG ι2 h2 H3 _ ρ1 _ x v _ r3 en3 xv z3 fun σ' en' wp => ⟨?_, ι2, h2, ρ1, r3, en', ?_⟩
          · have idem : ∀ ws : List Nat, L2.wipe (L2.wipe σ ws) ws = L2.wipe σ ws := by
              intro ws
              apply List.ext_getElem?
              intro q
              have key : ∀ (τ : L2.St) (us : List Nat), (L2.wipe τ us)[q]? = if q ∈ us then (τ[q]?).map (fun _ => none) else τ[q]? := by
                intro τ us
                induction us with
                | nil => simp [L2.wipe]
                | cons u us ih =>
                  unfold L2.wipe
                  by_cases zz : u = q
                  · subst zz
                    rw [if_pos List.mem_cons_self]
                    by_cases hq : u < τ.length
                    · rw [List.getElem?_set_self (by rw [wipe_length]; exact hq)]
                      simp [hq]
                    · rw [List.getElem?_eq_none (by rw [List.length_set, wipe_length]; omega), List.getElem?_eq_none (by omega)]
                      rfl
                  · rw [List.getElem?_set_ne zz, ih]
                    by_cases hm : q ∈ us
                    · rw [if_pos hm, if_pos (List.mem_cons_of_mem _ hm)]
                    · rw [if_neg hm, if_neg (fun hh => (List.mem_cons.mp hh).elim (fun e => zz e.symm) hm)]
              rw [key, key]
              by_cases hm : q ∈ ws
              · rw [if_pos hm, if_pos hm]; cases σ[q]? <;> rfl
              · rw [if_neg hm, if_neg hm]
            exact (wp _ hin).trans (idem _)
          cases z4 : t ρ1 h2 with
          | bad => simp only [z4] at p2; exact p2.elim
          | exc e' h' => simp only [z4] at p2; exact p2.elim
          | ok b h4 =>
            rw [z4] at p2
            intro ι4 H4 b' e4 r4 eb
            cases eb
            cases b with
            | false =>
              rw [if_neg Bool.false_ne_true]
              obtain ⟨k1, k2⟩ := keepD (e3.trans e4)
              exact ⟨ι4, h4, acc, vs, e2.trans (e3.trans e4), r4, k1, r2.avs (e3.trans e4) av, k2, p2⟩
            | true =>
              rw [if_pos rfl]
              refine ⟨ι4, h4, ρ1, r4, en'.ext r3 e4, ?_⟩
              dsimp only at p2
              cases z5 : e ρ1 h4 with
              | bad => simp only [z5] at p2; exact p2.elim
              | exc e' h' => simp only [z5] at p2; exact p2.elim
              | ok y h5 =>
                simp only [z5] at p2
                intro ι5 H5 w e5 r5 xw
                obtain ⟨k1, k2⟩ := keepD (e3.trans (e4.trans e5))
                have av5 := r2.avs (e3.trans (e4.trans e5)) av
                by_cases zl : acc.length < szl
                · rw [if_pos zl] at p2
                  refine ⟨vs, k1, by rw [← av.length]; exact zl, ι5, h5, acc ++ [y], vs ++ [w], (e2.trans (e3.trans (e4.trans e5))).side hD, r5.side k1 k2, upd_same, ?_, k2, p2⟩
                  exact (av5.append (.cons xw .nil)).map (fun _ _ => side_sqT k1) (Nat.le_refl _) fun _ _ => rfl
                · rw [if_neg zl] at p2; exact p2.elim
theorem dc_imp {it : II} {g : Tg} {g' : TG} {is : List Nat} {t : BB} {ek ev : EE} {W : WX} {vs0 : List Nat} (tokG : TgOk C g' g is) (hin : ∀ i ∈ is, i ∈ vs0) : ∀ σ H Q, tE C (eDc it g t ek ev vs0) W σ H Q → tDc (tI C it W) g' (tT C t WF) (tE C ek WF) (tE C ev WF) vs0 σ H Q := by
  intro σ H Q ⟨ι, h, ρ, r, en, p⟩
  refine ⟨ι, h, ρ, r, en, (GPost.bnd (R := ItOk C) p).mono fun J H1 ⟨ι1, h1, items, r1, e1, x1, p1⟩ => ?_⟩
  intro D hD
  refine ⟨fun i m H2 => ∃ ι2 h2 acc vs, Ext ι1 h1.length H1 ι2 h2.length H2 ∧ Rep C ι2 h2 H2 ∧ H2 D = some (.dK vs) ∧ KsR C ι2 h2.length H2 acc vs ∧ (∀ l, l < h2.length → ι2 l ≠ D) ∧ GPost C (AvR C) ι1 h1 H1 Q (fun c d H' => W c d σ H') (PA.bnd (dcIter items g t ek ev (wipeA ρ (vs0)) m i acc) (fun kvs h => .ok (.loc h.length) (h ++ [.dct kvs])) h2),
    ⟨fuel, ι1, h1, [], [], Ext.laid r1 hD, r1.laid hD, upd_same, .nil, fun l hl => r1.off hD hl, p1⟩, ?_⟩
  rintro i m H2 ⟨ι2, h2, acc, vs, e2, r2, hv, av, off, p2⟩
  cases m with
  | zero => exact p2.elim
  | succ k =>
    unfold PA.bnd dcIter at p2
    cases z : items h2 with
    | none => simp only [z] at p2; exact p2.elim
    | some ys =>
      simp only [z] at p2
      obtain ⟨w1, w2⟩ := x1 ι2 h2 H2 e2 r2 i ys z
      cases z2 : ys[i]? with
      | none =>
        simp only [z2] at p2
        obtain ⟨f1, f2, f3⟩ := adopt_dct e2 hD r2 off hv av
        exact .inl ⟨w2 z2, p2 _ H2 _ f1 f2 f3⟩
      | some x =>
        simp only [z2] at p2
        obtain ⟨go, yl⟩ := w1 x z2
        refine .inr ⟨go, fun H3 => ∃ ι2 h2 acc vs, Ext ι1 h1.length H1 ι2 h2.length H3 ∧ Rep C ι2 h2 H3 ∧ H3 D = some (.dK vs) ∧ KsR C ι2 h2.length H3 acc vs ∧ (∀ l, l < h2.length → ι2 l ≠ D) ∧ GPost C (AvR C) ι1 h1 H1 Q (fun c d H' => W c d σ H') (PA.bnd (dcIter items g t ek ev (wipeA ρ (vs0)) k (i + 1) acc) (fun kvs h => .ok (.loc h.length) (h ++ [.dct kvs])) h2), fun H3 q => ⟨k, Nat.lt_succ_self _, q⟩, fun v H3 y => ?_⟩
        obtain ⟨e3, r3, xv⟩ := yl v H3 y
        cases z3 : g x (wipeA ρ (vs0)) with
        | none => simp only [z3] at p2; exact p2.elim
        | some ρ1 =>
          simp only [z3] at p2
          have en3 : EnR C ι2 h2.length H3 (wipeA ρ (vs0)) (L2.wipe σ (vs0)) := ((en.ext r e1).ext r1 (e2.trans e3)).wipe _
          have keepD : ∀ {ι5 : Nat → Addr} {h5 : PA.Heap} {H5 : Hp}, Ext ι2 h2.length H2 ι5 h5.length H5 → H5 D = some (.dK vs) ∧ ∀ l, l < h5.length → ι5 l ≠ D := fun {ι5 h5 H5} e5 => by
            refine ⟨e5.frame _ _ hv (fun _ z => nomatch z) off, fun l hl zl => ?_⟩
            by_cases q : l < h2.length
            · exact off l q ((e5.agree l q).symm.trans zl)
            · have f := e5.fresh l (Nat.le_of_not_lt q) hl
              rw [zl, hv] at f
              cases f
          refine tokG ι2 h2 H3 _ ρ1 _ x v _ r3 en3 xv z3 fun σ' en' wp => ⟨(wp _ hin).trans (wipe_idem _ _), ι2, h2, ρ1, r3, en', ?_⟩
          cases z4 : t ρ1 h2 with
          | bad => simp only [z4] at p2; exact p2.elim
          | exc e' h' => simp only [z4] at p2; exact p2.elim
          | ok b h4 =>
            rw [z4] at p2
            intro ι4 H4 b' e4 r4 eb
            cases eb
            cases b with
            | false =>
              rw [if_neg Bool.false_ne_true]
              obtain ⟨k1, k2⟩ := keepD (e3.trans e4)
              exact ⟨ι4, h4, acc, vs, e2.trans (e3.trans e4), r4, k1, r2.ksr (e3.trans e4) av, k2, p2⟩
            | true =>
              rw [if_pos rfl]
              refine ⟨ι4, h4, ρ1, r4, en'.ext r3 e4, ?_⟩
              dsimp only at p2
              cases z5 : ek ρ1 h4 with
              | bad => simp only [z5] at p2; exact p2.elim
              | exc e' h' => simp only [z5] at p2; exact p2.elim
              | ok y h5 =>
                simp only [z5] at p2
                intro ι5 H5 w e5 r5 xw
                refine ⟨ι5, h5, ρ1, r5, (en'.ext r3 e4).ext r4 e5, ?_⟩
                cases z6 : ev ρ1 h5 with
                | bad => simp only [z6] at p2; exact p2.elim
                | exc e' h' => simp only [z6] at p2; exact p2.elim
                | ok y2 h6 =>
                  simp only [z6] at p2
                  intro ι6 H6 w2 e6 r6 xw2
                  have et := e3.trans (e4.trans (e5.trans e6))
                  obtain ⟨k1, k2⟩ := keepD et
                  have av6 := r2.ksr et av
                  by_cases zl : isKey y = true ∧ acc.length < 100000
                  · rw [if_pos zl] at p2
                    have sq : ∀ u a xs, SqT C.K H6 a xs → SqT C.K (upd H6 D u) a xs := fun u a xs => side_sqT' k1 (fun _ z => nomatch z) (fun _ _ z => nomatch z)
                    have lz : vs.length < sizeLine := by rw [← av.length]; have := zl.2; unfold sizeLine; omega
                    have fin : ∀ (kk : Key), w = kV kk → KR y kk → ∃ kvs k', w = kV k' ∧ H6 D = some (.dK kvs) ∧ kvs.length < sizeLine ∧ ∃ ι2 h2 acc vs, Ext ι1 h1.length H1 ι2 h2.length (upd H6 D (.dK (putK kvs k' w2))) ∧ Rep C ι2 h2 (upd H6 D (.dK (putK kvs k' w2))) ∧ (upd H6 D (.dK (putK kvs k' w2))) D = some (.dK vs) ∧ KsR C ι2 h2.length (upd H6 D (.dK (putK kvs k' w2))) acc vs ∧ (∀ l, l < h2.length → ι2 l ≠ D) ∧ GPost C (AvR C) ι1 h1 H1 Q (fun c d H' => W c d σ H') (PA.bnd (dcIter items g t ek ev (wipeA ρ (vs0)) k (i + 1) acc) (fun kvs h => .ok (.loc h.length) (h ++ [.dct kvs])) h2) := fun kk ew kr =>
                      ⟨vs, kk, ew, k1, lz, ι6, h6, dPut acc y y2, putK vs kk w2, (e2.trans et).side hD, r6.sideD k1 k2, upd_same, (av6.put kr xw2).map (sq _) (Nat.le_refl _) fun _ _ => rfl, k2, p2⟩
                    cases xw with
                    | int q => exact fin (.inl q) rfl (.int q)
                    | str q => exact fin (.inr q) rfl (.str q)
                    | _ => exact absurd zl.1 Bool.false_ne_true
                  · rw [if_neg zl] at p2; exact p2.elim
theorem keep_imp {m : LL} {W : WX} : ∀ σ H Q, tE C (eKeep m) W σ H Q → tM C m W σ H Q :=
  fun σ H Q ⟨ι, h, ρ, r, en, p⟩ => ⟨ι, h, ρ, r, en, (fun p => H p ≠ none), fun _ z => z, by
    unfold eKeep PA.bnd at p
    cases e : m ρ h with
    | bad => rw [e] at p; exact p.elim
    | exc e' h' => rw [e] at p; exact p
    | ok xs h' =>
      rw [e] at p
      intro ι1 H1 v e1 r1 ⟨q, vs, ev, hq, av, off, nz⟩
      subst ev
      have hn : H q = none := Classical.byContradiction nz
      have e2 : Ext ι h.length H (put1 ι1 h'.length q) (h' ++ [AO.lst xs]).length H1 := by
        rw [List.length_append, List.length_singleton]
        refine ⟨Nat.le_succ_of_le e1.le, fun l hl => (put1_lt (Nat.lt_of_lt_of_le hl e1.le)).trans (e1.agree l hl), e1.frame, fun l a b => ?_, e1.dom, e1.frz⟩
        by_cases z : l < h'.length
        · rw [put1_lt z]; exact e1.fresh l a z
        · have : l = h'.length := by omega
          subst this
          rw [put1_same]; exact hn
      have ag : ∀ l, l < h'.length → put1 ι1 h'.length q l = ι1 l := fun l hl => put1_lt hl
      have r2 : Rep C (put1 ι1 h'.length q) (h' ++ [AO.lst xs]) H1 := by
        refine ⟨fun l o eo => ?_, fun l l' a b eq => ?_, r1.scr⟩
        · rw [List.length_append, List.length_singleton]
          by_cases z : l < h'.length
          · rw [List.getElem?_append_left z] at eo
            rw [put1_lt z]
            have := r1.at_ l o eo
            have step : Ext ι1 h'.length H1 (put1 ι1 h'.length q) (h'.length + 1) H1 ∨ True := .inr trivial
            cases o with
            | lst ys => obtain ⟨ws, w1, w2⟩ := this; exact ⟨ws, w1, w2.map (fun _ _ t => t) (Nat.le_succ _) ag⟩
            | dct ys => obtain ⟨ws, w1, w2⟩ := this; exact ⟨ws, w1, w2.map (fun _ _ t => t) (Nat.le_succ _) ag⟩
            | lck ys => obtain ⟨o, ws, w1, w2⟩ := this; exact ⟨o, ws, w1, w2.map (fun _ _ t => t) (Nat.le_succ _) ag⟩
            | ins c fs =>
              rcases this with ⟨e0, dx, gs, w1, w2⟩ | ⟨names, dx, us, e0, sl, ne, w2⟩
              · exact .inl ⟨e0, dx, gs, w1, w2.map (fun _ _ t => t) (Nat.le_succ _) ag⟩
              · exact .inr ⟨names, dx, us, e0, sl, ne, fun i f x h1 h2 => let ⟨v, e3, e4⟩ := w2 i f x h1 h2; ⟨v, e3, e4.map (fun _ _ t => t) (Nat.le_succ _) ag⟩⟩
          · have hl : l < h'.length + 1 := by have := (List.getElem?_eq_some_iff.mp eo).1; simpa using this
            have : l = h'.length := by omega
            subst this
            rw [List.getElem?_append_right (Nat.le_refl _), Nat.sub_self] at eo
            simp at eo
            subst eo
            rw [put1_same]
            exact ⟨vs, hq, av.map (fun _ _ t => t) (Nat.le_succ _) ag⟩
        · rw [List.length_append, List.length_singleton] at a b
          by_cases z : l < h'.length
          · by_cases z' : l' < h'.length
            · rw [put1_lt z, put1_lt z'] at eq; exact r1.inj l l' z z' eq
            · have : l' = h'.length := by omega
              subst this
              rw [put1_lt z, put1_same] at eq
              exact absurd eq (off l z)
          · have : l = h'.length := by omega
            subst this
            by_cases z' : l' < h'.length
            · rw [put1_lt z', put1_same] at eq
              exact absurd eq.symm (off l' z')
            · omega
      refine p _ H1 (.ref q) e2 r2 ?_
      have t : AvR C (put1 ι1 h'.length q) (h' ++ [AO.lst xs]).length H1 (.loc h'.length) (.ref (put1 ι1 h'.length q h'.length)) := .loc (by simp)
      rw [put1_same] at t
      exact t⟩
theorem rs_setLc (i : Nat) {y : Str} {py : Pos} {elt tg iter : Expr} {ifs : List Expr} {scope : Scope} {own : List (Str × Nat)} {pos spos : Pos} {it : II} {g : Tg} {g' : TG} {is : List Nat} {t : BB} {e : EE} (gd : Gd C X j) (hi : RI C X tg iter it) (ok : BlkOk X.N X.env.scope scope own)
    (hg : ∀ (s : Shared) (H : Hp) (c : Addr) (cl : List (Str × Addr)) (fp : List Addr), RG C (X.blk s H scope (compEnvC scope cl c X.env) fp) tg g g' is)
    (ht : ∀ (s : Shared) (H : Hp) (c : Addr) (cl : List (Str × Addr)) (fp : List Addr), Gd C (X.blk s H scope (compEnvC scope cl c X.env) fp) j → RTs C (X.blk s H scope (compEnvC scope cl c X.env) fp) ifs t)
    (he : ∀ (s : Shared) (H : Hp) (c : Addr) (cl : List (Str × Addr)) (fp : List Addr), Gd C (X.blk s H scope (compEnvC scope cl c X.env) fp) j → RE C (X.blk s H scope (compEnvC scope cl c X.env) fp) elt e)
    (hy : X.N[i]? = some y := by rfl) (hyl : X.env.scope.names.lookup y = some .local := by rfl) (hk : X.env.scope.kind = .function := by rfl) (hl : (py.line == pos.line) = true := by rfl)
    (ha : (scope.names.any fun (n, k) => n == y && (k == .local || k == .cell)) = false := by rfl) (hin : ∀ i ∈ is, i ∈ own.map (·.2) := by decide) (hs : ∀ x, foldedSetIterable iter X.env x = pure x := by intro _; rfl) :
    RS C X (.Assign [.Name y py] (.ListComp elt [⟨tg, iter, ifs, 0⟩] scope pos) spos) (sSet i (eKeep (lComp it g t e (own.map (·.2))))) := fun W tk => by
  have gb : ∀ (s : Shared) (H : Hp) (c : Addr) (cl : List (Str × Addr)) (fp : List Addr), Gd C (X.blk s H scope (compEnvC scope cl c X.env) fp) j := fun _ _ _ _ _ => ⟨gd.hP, gd.hw, gd.hK, gd.hm, gd.hb, gd.calm, gd.nd, gd.room⟩
  refine PS_imp (ps_setLc (tt := tT C t WF) (te := tE C e WF) gd.calm gd.nd hy hyl (sw_true hk hyl hl ha) (hi W tk) ok (fun s H c cl fp => (hg s H c cl fp).pg) (fun s H c cl fp => ht s H c cl fp (gb s H c cl fp) WF takes0) (fun s H c cl fp => he s H c cl fp (gb s H c cl fp) WF takes0) hs) ?_
  intro D σ H ⟨ι, h, ρ, r, en, p⟩
  refine lc_imp (hg { } H 0 [] []).ok hin _ _ _ (keep_imp _ _ _ ⟨ι, h, ρ, r, en, (SPost.bnd (R := AvR C) r en p).mono fun x H1 ⟨ι1, h1, a, r1, e1, x1, p1⟩ => ?_⟩)
  exact p1 ι1 H1 _ Ext.refl r1 ((en.ext r e1).set x1 i)
/-- name = {..: .. for ..} on one line, the name a local -/
theorem ps_setDc {i : Nat} {y : Str} {py : Pos} {kx vx tg iter : Expr} {ifs : List Expr} {scope : Scope} {own : List (Str × Nat)} {pos spos : Pos} {wi : TI} {g : TG} {tt : TT} {tk tv : TE} (hc : X.calm = true) (hN : X.N.Nodup) (hy : X.N[i]? = some y) (hyl : X.env.scope.names.lookup y = some .local)
    (hsw : swapsWith (.DictComp kx vx [⟨tg, iter, ifs, 0⟩] scope pos) (some (.Name y py)) spos.line X.env = pure true) (hi : PI X tg iter wi) (ok : BlkOk X.N X.env.scope scope own)
    (hg : ∀ (s : Shared) (H : Hp) (C : Addr) (cl : List (Str × Addr)) (fp : List Addr), PG (X.blk s H scope (compEnvC scope cl C X.env) fp) tg g) (ht : ∀ (s : Shared) (H : Hp) (C : Addr) (cl : List (Str × Addr)) (fp : List Addr), PTs (X.blk s H scope (compEnvC scope cl C X.env) fp) ifs tt)
    (hk : ∀ (s : Shared) (H : Hp) (C : Addr) (cl : List (Str × Addr)) (fp : List Addr), PE (X.blk s H scope (compEnvC scope cl C X.env) fp) kx tk)
    (he : ∀ (s : Shared) (H : Hp) (C : Addr) (cl : List (Str × Addr)) (fp : List Addr), PE (X.blk s H scope (compEnvC scope cl C X.env) fp) vx tv) (hs : ∀ x, foldedSetIterable iter X.env x = pure x := by intro _; rfl) :
    PS X (.Assign [.Name y py] (.DictComp kx vx [⟨tg, iter, ifs, 0⟩] scope pos) spos) (tAsg (tDc wi g tt tk tv (own.map (·.2))) (L2.gName i)) := by
  refine ⟨fun pins s σ H D I h => ?_⟩
  rw [exec_Assign_Name_used _ _ _ _ hsw]
  refine wpAny_bind (wpAny_standAt (wpAny_bind ?_))
  show wpAny _ X.A (do let _ ← comprehension (.DictComp kx vx [⟨tg, iter, ifs, 0⟩] scope pos) scope X.env (firstIterPos [⟨tg, iter, ifs, 0⟩] pos) newDict false (eval iter X.env) (some (assign (.Name y py) X.env))) _ _ s
  have h : tDc wi g tt tk tv (own.map (·.2)) σ H (fun x H1 => L2.gName i x σ H1 D.nx) := h
  refine wpAny_bind (thn (dc_core (Qf := fun _ s' => SP X pins D .next s') hc hN I hi ok hg ht hk he hs h fun L C s' m H' I' q hn f => ?_) fun _ s' hq => wpAny_pure (wpAny_pure hq))
  show wpAny _ _ (assign (.Name y py) X.env (.ref L)) _ _ _
  refine wpAny_assign_Name (store_ok2 (v := V.ref L) I' hN hy (.inl hyl) rfl (fun s2 I2 ⟨a, sb, ha⟩ => ?_) (.inr hyl))
  obtain ⟨f0, f1, f2, f3, f4, f5⟩ := f
  have haC : C ≠ a := by
    rcases ha with z | z
    · rw [z]; exact f1
    · exact fun e => f4 y a z e.symm
  refine ⟨m, hn.sameBut sb haC, fun h3 sb3 => ?_⟩
  exact ⟨_, H', I2.turned (t' := s2.toks) (fun b o hb e => (sb3.2 b hb).trans e) f0 f1 f3 f4 f5, q⟩
theorem swd_true {kx vx : Expr} {gs : List Comprehension} {scope : Scope} {pos py : Pos} {y : Str} {l : Nat} {env : PySem.Env} (hk : env.scope.kind = .function) (hy : env.scope.names.lookup y = some .local) (hl : (py.line == pos.line) = true)
    (ha : (scope.names.any fun (n, k) => n == y && (k == .local || k == .cell)) = false) : swapsWith (.DictComp kx vx gs scope pos) (some (.Name y py)) l env = pure true := by
  have ky : env.kindOf y = some .local := hy
  have hb : env.blockKind = .function := by unfold PySem.Env.blockKind; rw [hk]; rfl
  unfold swapsWith
  simp only [hb, ky, ha, Expr.pos, hl]
  rfl
theorem rs_setDc (i : Nat) {y : Str} {py : Pos} {kx vx tg iter : Expr} {ifs : List Expr} {scope : Scope} {own : List (Str × Nat)} {pos spos : Pos} {it : II} {g : Tg} {g' : TG} {is : List Nat} {t : BB} {ek ev : EE} (gd : Gd C X j) (hi : RI C X tg iter it) (ok : BlkOk X.N X.env.scope scope own)
    (hg : ∀ (s : Shared) (H : Hp) (c : Addr) (cl : List (Str × Addr)) (fp : List Addr), RG C (X.blk s H scope (compEnvC scope cl c X.env) fp) tg g g' is)
    (ht : ∀ (s : Shared) (H : Hp) (c : Addr) (cl : List (Str × Addr)) (fp : List Addr), Gd C (X.blk s H scope (compEnvC scope cl c X.env) fp) j → RTs C (X.blk s H scope (compEnvC scope cl c X.env) fp) ifs t)
    (hk' : ∀ (s : Shared) (H : Hp) (c : Addr) (cl : List (Str × Addr)) (fp : List Addr), Gd C (X.blk s H scope (compEnvC scope cl c X.env) fp) j → RE C (X.blk s H scope (compEnvC scope cl c X.env) fp) kx ek)
    (he : ∀ (s : Shared) (H : Hp) (c : Addr) (cl : List (Str × Addr)) (fp : List Addr), Gd C (X.blk s H scope (compEnvC scope cl c X.env) fp) j → RE C (X.blk s H scope (compEnvC scope cl c X.env) fp) vx ev)
    (hy : X.N[i]? = some y := by rfl) (hyl : X.env.scope.names.lookup y = some .local := by rfl) (hk : X.env.scope.kind = .function := by rfl) (hl : (py.line == pos.line) = true := by rfl)
    (ha : (scope.names.any fun (n, k) => n == y && (k == .local || k == .cell)) = false := by rfl) (hin : ∀ i ∈ is, i ∈ own.map (·.2) := by decide) (hs : ∀ x, foldedSetIterable iter X.env x = pure x := by intro _; rfl) :
    RS C X (.Assign [.Name y py] (.DictComp kx vx [⟨tg, iter, ifs, 0⟩] scope pos) spos) (sSet i (eDc it g t ek ev (own.map (·.2)))) := fun W tk => by
  have gb : ∀ (s : Shared) (H : Hp) (c : Addr) (cl : List (Str × Addr)) (fp : List Addr), Gd C (X.blk s H scope (compEnvC scope cl c X.env) fp) j := fun _ _ _ _ _ => ⟨gd.hP, gd.hw, gd.hK, gd.hm, gd.hb, gd.calm, gd.nd, gd.room⟩
  refine PS_imp (ps_setDc (tt := tT C t WF) (tk := tE C ek WF) (tv := tE C ev WF) gd.calm gd.nd hy hyl (swd_true hk hyl hl ha) (hi W tk) ok (fun s H c cl fp => (hg s H c cl fp).pg) (fun s H c cl fp => ht s H c cl fp (gb s H c cl fp) WF takes0) (fun s H c cl fp => hk' s H c cl fp (gb s H c cl fp) WF takes0) (fun s H c cl fp => he s H c cl fp (gb s H c cl fp) WF takes0) hs) ?_
  intro D σ H ⟨ι, h, ρ, r, en, p⟩
  refine dc_imp (hg { } H 0 [] []).ok hin _ _ _ ⟨ι, h, ρ, r, en, (SPost.bnd (R := AvR C) r en p).mono fun x H1 ⟨ι1, h1, a, r1, e1, x1, p1⟩ => ?_⟩
  exact p1 ι1 H1 _ Ext.refl r1 ((en.ext r e1).set x1 i)
end
end PL
set_option maxRecDepth 100000
set_option maxHeartbeats 4000000
/-! Lift22: the law's script. -/
namespace PL
open PySem PySem.Spec PyProof.Rows L2 PA
section
variable {C : Cz} {X : Cx} {tg : Expr} {j k : Nat}
theorem ScR.seq {H : Hp} (s : ScR C H) : SqL C.K H (C.ad "#s") (C.scr.map V.int) := by
  rcases s with ⟨o, e⟩ | e
  · exact .inl (.inr ⟨o, e⟩)
  · exact .inr e
theorem ints_get {xs : List Int} {i : Nat} {x : AV} (e : (xs.map AV.int)[i]? = some x) : ∃ k, x = .int k ∧ (xs.map V.int)[i]? = some (.int k) := by
  rw [List.getElem?_map] at e ⊢
  cases z : xs[i]? with
  | none => rw [z] at e; cases e
  | some k => rw [z] at e; cases e; exact ⟨k, rfl, rfl⟩
theorem ri_scr {e : Expr} {m : EE} (g : Gd C X j) (he : RE C X e m) : RI C X tg e (iScr C.scr m) := fun W tk =>
  PI_imp (pi_list (he W tk)) fun σ H R ⟨ι, h, ρ, r, en, p⟩ => ⟨ι, h, ρ, r, en, (GPost.bnd (R := AvR C) p).mono fun x H1 ⟨ι1, h1, a, r1, e1, x1, p1⟩ => by
    cases x1 with
    | gl g0 =>
      dsimp only at p1
      by_cases z : g0 = "#s"
      · rw [if_pos z] at p1
        subst z
        refine ⟨_, rfl, ⟨_, by rw [g.hK]; exact r1.scr.seq⟩, p1 ι1 H1 (Itl X.K (C.ad "#s")) Ext.refl r1 (itoN fun ι h H e2 r2 i => ?_)⟩
        have t2 : SqL X.K H (C.ad "#s") (C.scr.map V.int) := by rw [g.hK]; exact r2.scr.seq
        refine ⟨fun x ex => ?_, fun ex => ?_⟩
        · obtain ⟨k, rfl, h1⟩ := ints_get ex
          refine ⟨⟨_, _, t2, h1⟩, fun v' H' y => ?_⟩
          obtain ⟨rfl, y⟩ := y
          have := y _ t2
          rw [h1] at this
          cases this
          exact ⟨Ext.refl, r2, .int k⟩
        · refine ⟨_, t2, ?_⟩
          have := List.getElem?_eq_none_iff.mp ex
          simpa using this
      · rw [if_neg z] at p1; exact p1.elim
    | _ => exact p1.elim⟩
theorem AvRs.ofInts {ι : Nat → Addr} {n : Nat} {H : Hp} : ∀ ys : List Int, AvRs C ι n H (ys.map .int) (ys.map V.int)
  | [] => .nil
  | y :: ys => .cons (.int y) (AvRs.ofInts ys)
theorem cr_listS (g : Gd C X j) : CrA C X (.type "list") (bListS C.scr) := by
  intro pins s σ H xs us Q I rv ⟨ι, h, as, W, r, x, p⟩
  cases x with
  | nil => exact p.elim
  | cons a b =>
    cases b with
    | cons _ _ => cases a <;> exact p.elim
    | nil =>
      cases a with
      | gl g0 =>
        unfold bListS at p
        dsimp only at p
        by_cases z : g0 = "#s"
        · rw [if_pos z] at p
          subst z
          refine call_list_of pins s σ H _ us Q I rv ⟨_, _, rfl, .inl (by rw [g.hK]; exact r.scr.seq), fun l hl => laid_lst r (AvRs.ofInts _) p l hl⟩
        · rw [if_neg z] at p; exact p.elim
      | _ => exact p.elim
end
end PL
set_option maxRecDepth 100000
set_option maxHeartbeats 4000000
/-! Lift23: the law's promise, the end. -/
namespace PL
open PySem PySem.Spec PyProof.Rows L2 PA
inductive KvW (C : Cz) : List DictEntry → List (Str × AV) → Prop
  | nil : KvW C [] []
  | cons {hh : Int} {k : Str} {t : Tok} {u : Value} {v : V} {a : AV} {es : List DictEntry} {kvs : List (Str × AV)} (r : RelV v u) (av : ∀ ι n H, AvR C ι n H a v) (p : KvW C es kvs) : KvW C (⟨hh, .str k t, u⟩ :: es) ((k, a) :: kvs)
theorem kvw_find {C : Cz} {es : List DictEntry} {kvs : List (Str × AV)} (p : KvW C es kvs) (z : Str) : (kvs.lookup z = none ∧ es.find? (fun d => d.key.isStr z) = none) ∨
    ∃ a u v e, kvs.lookup z = some a ∧ es.find? (fun d => d.key.isStr z) = some e ∧ e.val = u ∧ RelV v u ∧ ∀ ι n H, AvR C ι n H a v := by
  induction p with
  | nil => exact .inl ⟨rfl, rfl⟩
  | @cons hh k t u v a es kvs r av p ih =>
    by_cases e : z = k
    · subst e
      refine .inr ⟨a, u, v, ⟨hh, .str z t, u⟩, ?_, ?_, rfl, r, av⟩
      · rw [List.lookup_cons]; simp
      · rw [List.find?_cons]
        have : (Value.str z t).isStr z = true := by unfold Value.isStr; simp
        rw [this]
    · have e1 : (z == k) = false := beq_eq_false_iff_ne.mpr e
      have e2 : (Value.str k t).isStr z = false := by unfold Value.isStr; exact beq_eq_false_iff_ne.mpr (fun q => e q.symm)
      rw [List.lookup_cons, e1, List.find?_cons]
      dsimp only
      rw [e2]
      exact ih
theorem kvw_plain {C : Cz} {es : List DictEntry} {kvs : List (Str × AV)} (p : KvW C es kvs) : es.any (·.refKey) = false := by
  induction p with
  | nil => rfl
  | cons r av p ih => rw [List.any_cons, ih]; rfl
theorem kd_look {C : Cz} {d : Addr} {es : Array DictEntry} {n : Nat} {kvs : List (Str × AV)} (hd : C.K.lookup d = some ⟨.type "dict", none, .dict es n, #[]⟩) (p : KvW C es.toList kvs) : ∀ z, (kvs.lookup z = none ∧ PySem.W.nsIn C.K d z = some none) ∨
    ∃ a u v, kvs.lookup z = some a ∧ PySem.W.nsIn C.K d z = some (some u) ∧ RelV v u ∧ ∀ ι n H, AvR C ι n H a v := by
  intro z
  obtain ⟨l⟩ := es
  have key : PySem.W.nsIn C.K d z = some ((l.find? fun d => d.key.isStr z).map (·.val)) := by
    unfold PySem.W.nsIn
    rw [hd]
    dsimp only
    have np : l.any (·.refKey) = false := kvw_plain p
    cases l.find? fun d => d.key.isStr z with
    | some e => rfl
    | none => dsimp only; rw [np]; rfl
  rw [key]
  rcases kvw_find p z with ⟨h1, h2⟩ | ⟨a, u, v, e, h1, h2, h3, h4, h5⟩
  · exact .inl ⟨h1, by rw [h2]; rfl⟩
  · exact .inr ⟨a, u, v, h1, by rw [h2, ← h3]; rfl, h4, h5⟩
/-- the law's promise -/
def spLaw (mk : Addr → List Int → Cz) (F : List Int → FF) : Sp := fun vs H Q E => ∃ (a : Addr) (ns : List Int), vs = [.ref a] ∧ Only H ∧ SqL (mk a ns).K H a (ns.map V.int) ∧ (∃ h', F ns [.gl "#s"] [] = .ok (.bl true) h') ∧ ∀ H', Q (.bl true) H'
theorem fn_law {P : Program} {w : World} {K : PySem.W.Frag} {mg : Str → Option Value} {base : PySem.Heap} {k : Nat} {f : Addr} {fd : FuncData} {x : Str} {mk : Addr → List Int → Cz} {F : List Int → FF} (had : ∀ a ns, (mk a ns).ad "#s" = a)
    (hmk : ∀ a ns, (mk a ns).P = P ∧ (mk a ns).w = w ∧ (mk a ns).K = K ∧ (mk a ns).mg = mg ∧ (mk a ns).base = base ∧ (mk a ns).scr = ns) (ok : ∀ a ns, FnA (mk a ns) k f fd [x] (F (mk a ns).scr)) : FnOk P w K mg base (L2.CX P w) k f fd [x] (spLaw mk F) := by
  have imp : ∀ vs H Q E, spLaw mk F vs H Q E → ∃ a ns, spA (mk a ns) (F (mk a ns).scr) vs H Q E := by
    intro vs H Q E ⟨a, ns, ev, hO, hS, ⟨h', hF⟩, q⟩
    subst ev
    obtain ⟨_, _, _, _, _, hsc⟩ := hmk a ns
    refine ⟨a, ns, fun _ => 0, [], [.gl "#s"], ⟨fun l o e => by simp at e, fun l l' z => by simp at z, ?_⟩, .cons ?_ .nil, ?_⟩
    · unfold ScR
      rw [had, hsc]
      rcases hS with (e | ⟨o, e⟩) | e
      · rcases hO a with z | ⟨o, xs, z⟩
        · rw [z] at e; cases e
        · rw [z] at e; cases e
      · exact .inl ⟨o, e⟩
      · exact .inr e
    · have t : AvR (mk a ns) (fun _ => 0) ([] : PA.Heap).length H (.gl "#s") (.ref ((mk a ns).ad "#s")) := .gl "#s"
      rw [had] at t
      exact t
    · rw [hsc, hF]
      intro ι' H' b e' r' xb
      cases xb
      exact q H'
  refine ⟨fun vs H Q E h => ?_, fun A outer s H args us vs Q E hr e0 hb hv h => ?_⟩
  · obtain ⟨a, ns, h⟩ := imp vs H Q E h
    exact (ok a ns).len vs H Q E h
  · obtain ⟨a, ns, h⟩ := imp vs H Q E h
    have o := ok a ns
    obtain ⟨h1, h2, h3, h4, h5, _⟩ := hmk a ns
    unfold FnA at o
    rw [h1, h2, h3, h4, h5] at o
    exact o.run A outer s H args us vs Q E hr e0 hb hv h
theorem walk_law {l : PySem.W.OpenLaw} {k : Nat} {q : Program} {loose : List Str} {XP : (Str → Option Value) → PySem.Heap → Prop} {YP : World → PySem.Heap → Prop} {d : DefRec} {K : Params → PySem.W.Frag} {x : Str} {F : List Int → FF}
    (hn : l.most = some 63) (hdf : d.params.defaults = []) (hr : Room k callerA)
    (hY : ∀ (w : World) (h : PySem.Heap), YP w h → (K w.params).In h)
    (G : ∀ (w : World) (mg : Str → Option Value) (fa : Addr) (h : PySem.Heap), (K w.params).In h → h.Ns mainGlobals mg → mg d.name = some (.ref fa) →
      ∃ (ad : Addr → String → Addr) (sl : String → Option (List Str)) (fd : FuncData), (∀ (s : Shared) (u : Value), BindsTo s fd ⟨[u], []⟩ [(x, u)]) ∧
        ∀ base : PySem.Heap, (K w.params).In base → base.Ns mainGlobals mg → FnOk l.prog w (K w.params) mg base (L2.CX l.prog w) k fa fd [x] (spLaw (fun a ns => ⟨l.prog, w, K w.params, mg, base, ad a, sl, ns⟩) F))
    (T : ∀ ns : List Int, ns.length ≤ 63 → ∃ h', F ns [.gl "#s"] [] = .ok (.bl true) h') :
    PySem.W.WalkO q loose XP YP l.row.toRowW d [] (fun f vs => PySem.call f vs) := by
  refine L2.walk_of (n := 63) (k := k) (x := x) (CX := fun w => L2.CX l.prog w) (K := K) (sp := fun w => fun vs H Q E => ∃ (a : Addr) (ns : List Int), vs = [.ref a] ∧ Only H ∧ SqL (K w.params) H a (ns.map V.int) ∧ (∃ h', F ns [.gl "#s"] [] = .ok (.bl true) h') ∧ ∀ H', Q (.bl true) H') hn (by decide) hdf hr hY (fun w mg fa h KX Gn hmg => ?_) (fun w H a ns hl hO hS => ⟨a, ns, rfl, hO, hS, T ns hl, fun _ => rfl⟩) ?_
  · obtain ⟨ad, sl, fd, hb, hF⟩ := G w mg fa h KX Gn hmg
    exact ⟨fd, hb, fun base h1 h2 => hF base h1 h2⟩
  · intro w H s e s' z
    obtain ⟨_, _, _, _, _, _, _, _, _, _, _, _, z⟩ := z
    exact z
end PL
set_option maxRecDepth 100000
set_option maxHeartbeats 2000000
/-! Lift24: several except clauses, with a name or without one. -/
namespace PL
open PySem PySem.Spec PyProof.Rows L2 PA
/-- a clause: whether it names a tuple of classes, the classes, the slot of its name, what its suite wishes -/
structure Cl where
  t : Bool
  cs : List Value
  i : Option Nat
  ts : Addr → Value → Option Addr → TS
def clEnds (D : Ends) : Option Nat → Ends
  | none => D
  | some i => { nx := fun σ H => D.nx (σ.set i none) H, rt := D.rt, bk := fun σ H => D.bk (σ.set i none) H, ct := fun σ H => D.ct (σ.set i none) H }
def clSt (σ : L2.St) (a : Addr) : Option Nat → L2.St
  | none => σ
  | some i => σ.set i (some (.ref a))
/-- does the clause take an exception of this class? -/
def clM (K : PySem.W.Frag) (k : Cl) (cls : Value) : Option Bool := match k.t, k.cs with
  | false, [c] => PySem.W.exmOne K cls c
  | true, cs => PySem.W.exmAny K cls cs
  | _, _ => none
/-- what the clauses wish of an exception of the body -/
def wMix (K : PySem.W.Frag) (Wo : WX) (D : Ends) : List Cl → WX
  | [] => Wo
  | k :: r => fun cls d σ H => ∃ b, clM K k cls = some b ∧
      (b = true → ∀ a, H a = none → k.ts a cls d (clEnds D k.i) (clSt σ a k.i) H) ∧ (b = false → wMix K Wo D r cls d σ H)
/-- a clause's name is a local -/
inductive ClName (X : Cx) : Option Str → Option Nat → Prop
  | none : ClName X none none
  | some {n : Str} {i : Nat} : X.N[i]? = some n → X.env.kindOf n = some .local → ClName X (some n) (some i)
/-- what a clause names -/
inductive ClTest (X : Cx) : Expr → Bool → List Value → Prop
  | one {x : Str} {p : Pos} {c : Value} : Names X x c → ClTest X (.Name x p) false [c]
  | two {x y : Str} {p q r : Pos} {i : Nat} {c d : Value} : Names X x c → Names X y d → starEach [.Name x p, .Name y q] X.env = (false, eval (.Name x p) X.env) :: starEach [.Name y q] X.env → starEach [.Name y q] X.env = (false, eval (.Name y q) X.env) :: starEach [] X.env →
      ClTest X (.Tuple [.Name x p, .Name y q] i r) true [c, d]
inductive ClsOk (X : Cx) : List ExceptHandler → List Cl → Prop
  | nil : ClsOk X [] []
  | cons {te : Expr} {nm : Option Str} {k : Cl} {st : Stmt} {sts : List Stmt} {q : Pos} {hs : List ExceptHandler} {ks : List Cl} (hc : ClTest X te k.t k.cs) (hn : ClName X nm k.i)
      (hsu : ∀ (a : Addr) (o : Obj) (cls : Value) (d : Option Addr) (pn : List (Addr × Obj)), Zc cls d o → (∃ vs, o.data = .fields vs) → PSs (X.suite a ((a, o) :: pn)) (st :: sts) (k.ts a cls d))
      (r : ClsOk X hs ks) : ClsOk X (.ExceptHandler (some te) nm (st :: sts) q :: hs) (k :: ks)
section
variable {X : Cx} {body : List Stmt} {hd0 : ExceptHandler} {hds : List ExceptHandler} {ks : List Cl} {pos : Pos} {tb : WX → TS} {Wo : WX}
theorem ps_try_mix (nd : X.N.Nodup) (hst : X.stack = X.env :: X.outer) (hfl : X.env.frame = some X.env.locals) (tk : Takes X Wo)
    (hb : ∀ (W : WX) (pn : List (Addr × Obj)) (xe : Value → Shared → Prop), Takes (X.tr pn xe) W → PSs (X.tr pn xe) body (tb W))
    (hh : ClsOk X (hd0 :: hds) ks) : PS X (.Try body (hd0 :: hds) [] [] pos) (fun D σ H => tb (wMix X.K Wo D ks) D σ H) := by
  refine ⟨fun pins s σ H D I w0 => ?_⟩
  have okX := I.ok
  have frX : X.A.frames = some (X.env :: X.outer) := okX.frames.trans (by rw [hst])
  refine wpAny_Try_except ?_
  let M := model X.prog X.w
  let catch_ : Value → Shared → Prop := fun e s₁ => wpAny M X.A (noteFrame e X.env) (fun _ s₂ =>
    wpAny M X.A (setFlight e none) (fun _ s₃ =>
      wpAny M X.A (handleBy e X.env (hd0 :: hds)) (SP X pins D) X.xe s₃) X.xe s₂) X.xe s₁
  refine wpAny_mono ((hb (wMix X.K Wo D ks) (X.pn ++ pins) catch_ (fun u s' air => ?_)).run [] s σ H D (I.toTry _) w0) (fun f s1 dn => ?_) (fun _ _ z => z)
  · obtain ⟨a, B, sI, pins', σ', H', cls, d, rfl, Ja, nb, up, sky, na, os, ag, w⟩ := air
    have Jb : Inv X pins σ' H' sI := Ja.ofTry okX
    have skyX : Sky B (X.env :: X.outer) a (Zc cls d) X.env.locals s'.heap := by
      rw [← hst]; exact sky
    show wpAny M X.A (noteFrame (.ref a) X.env) _ _ _
    refine Sky.land Zc.steady frX hfl skyX fun g3 fl up3 => ?_
    have walk : ∀ {hs' : List ExceptHandler} {ks' : List Cl}, ClsOk X hs' ks' → wMix X.K Wo D ks' cls d σ' H' → ∀ g3, HandSPX.FlyingZ B (X.env :: X.outer) a (Zc cls d) g3 → s'.heap.UpToSlots g3 →
        wpAny M X.A (handleBy (.ref a) X.env hs') (SP X pins D) X.xe { s' with heap := g3 } := by
      intro hs' ks' ok
      induction ok with
      | nil =>
        intro w g3 fl up3
        refine wpAny_handleBy_nil ?_
        obtain ⟨k1, k2, k3, o, vs, T, oT, ts', ho, hz, hdt, h1, hr⟩ := id fl
        unfold PySem.passOn
        refine wpAny_bind (wpAny_field ho hdt h1 ?_)
        rw [if_neg (show ¬ ((Value.ref T == Value.none) = true) from by simp)]
        have out : wpAny M X.A (setFlight (.ref a) X.env.frame) (fun _ s4 =>
            wpAny M X.A (throw (.ref a) : Sem Flow) (SP X pins D) X.xe s4) X.xe { s' with heap := g3 } := by
          rw [hfl]
          refine HandSPX.setFlight_upZ fl fun g4 hd4 up4 => wpAny_throw (tk _ _ ?_)
          have hld : HandSPX.HeldZ B X.stack a (Zc cls d) X.env.locals g4 := by
            rw [hst]; exact hd4
          exact ⟨a, B, sI, pins, σ', H', cls, d, rfl, Jb, nb, (up.trans up3).trans up4, .inr (.inr hld), na, os, ag, w⟩
        first
          | exact wpAny_bind (wpAny_pure (wpAny_bind out))
          | exact wpAny_bind out
      | @cons te nm k st sts q hs2 ks2 hc hn hsu r ih =>
        intro w g3 fl up3
        obtain ⟨b, hb1, hyes, hno⟩ := w
        refine wpAny_handleBy_cons (codeAny_handlers_test ?_) (by intro z; cases z)
        have Jc : Inv X pins σ' H' { s' with heap := g3 } := Jb.landed nb fl.1 (up.trans up3) os ag
        obtain ⟨o3, v3, ea3, z3, ed3⟩ := fl.there
        have nofr : a ∉ frs (X.env :: X.outer) := fun hm => by
          obtain ⟨_, o', e', hnf⟩ := fl.2.2.1.mem hm
          rw [ea3] at e'
          cases e'
          exact hnf _ ed3
        have nloc : a ≠ X.env.locals := fun z =>
          nofr (List.mem_filterMap.mpr ⟨X.env, List.mem_cons_self, by rw [hfl, z]⟩)
        have nout : a ∉ X.fs := fun hm => by
          obtain ⟨e, he, q⟩ := List.mem_filterMap.mp hm
          exact nofr (List.mem_filterMap.mpr ⟨e, List.mem_cons_of_mem _ he, q⟩)
        have Sc := Jc.suite ea3 ed3 na nloc nout
        have lt : PySem.W.Looks M g3 (typeOf (.ref a)) cls := fun A Q E s kk q =>
          wpAny_typeOf_ref (kk _ _ ea3) (by rw [z3.1]; exact q)
        have nameOk : ∀ {x : Str} {p : Pos} {c : Value} {Q : Value → Shared → Prop} {E : Value → Shared → Prop}, Names X x c → Q c { s' with heap := g3 } →
            wpAny M (X.A.mark (some (.ref a))) (eval (.Name x p) X.env) Q E { s' with heap := g3 } := fun {x p c Q E} hc q => by
          obtain ⟨hg, hdb, hm | ⟨hm, hv, hne⟩⟩ := hc
          · exact ld_glob (X := X.suite a ((a, o3) :: (X.pn ++ pins))) Sc hg hm q hdb
          · exact ld_blt (X := X.suite a ((a, o3) :: (X.pn ++ pins))) Sc hg hm hv q hne hdb
        have test : ∀ {Q : Bool → Shared → Prop} {E : Value → Shared → Prop}, (∀ g4, HandSPX.FlyingZ B (X.env :: X.outer) a (Zc cls d) g4 → s'.heap.UpToSlots g4 → Q b { s' with heap := g4 }) →
            wpAny M (X.A.mark (some (.ref a))) (eval te X.env) (fun c s1 => wpAny M (X.A.mark (some (.ref a))) (excMatches (.ref a) c) Q E s1) E { s' with heap := g3 } := fun {Q E} hq => by
          obtain ⟨kt, kcs, ki, kts⟩ := k
          cases hc with
          | one hc =>
            exact nameOk hc ((PySem.W.exm_one (M := M) Jc.kIn lt hb1).here (hq g3 fl up3))
          | @two x1 x2 p1 p2 p3 i0 c1 c2 h1 h2 hs1 hs2 =>
            refine wpAny_Tuple ?_
            rw [hs1]
            refine Calls.spliced_cons (nameOk h1 ?_)
            rw [hs2]
            refine Calls.spliced_cons (nameOk h2 (Calls.spliced_nil ⟨by show 2 ≤ sizeLine; rw [sizeLine_eq]; decide, ?_⟩))
            have keep : ∀ (b : Addr) (o : Obj), g3.get? b = some o → (g3.push { cls := .type "tuple", data := .seq [c1, c2].toArray }).get? b = some o := fun b o z => Heap.get?_push_of_some _ z
            have flp : HandSPX.FlyingZ B (X.env :: X.outer) a (Zc cls d) (g3.push { cls := .type "tuple", data := .seq [c1, c2].toArray }) := by
              obtain ⟨k1, k2, k3, o, vs, T, oT, ts', ho, hz, hdt, h1, h2, h3, h4, h5⟩ := fl
              exact ⟨fun b o z => keep b o (k1 b o z), k2, k3.of_keeps fun b o z _ => ⟨o, keep b o z, rfl⟩, o, vs, T, oT, ts', keep _ _ ho, hz, hdt, h1, h2, h3, keep _ _ h4, h5⟩
            have upp : s'.heap.UpToSlots (g3.push { cls := .type "tuple", data := .seq [c1, c2].toArray }) := up3.trans fun b o z _ => ⟨o.slots, keep b o z⟩
            have ktp : X.K.In (g3.push { cls := .type "tuple", data := .seq [c1, c2].toArray }) := Jc.kIn.keeps keep
            have ltp := lt.keeps keep
            exact (PySem.W.exm_tup2 (M := M) ktp ltp (Heap.get?_push_size g3 rfl) hb1).here (hq _ flp upp)
        refine test fun g5 fl5 up5 => ?_
        cases b with
        | false =>
          show wpAny _ X.A (handleBy (.ref a) X.env hs2) _ _ _
          exact ih (hno rfl) g5 fl5 up5
        | true =>
          have wy := hyes rfl a na
          obtain ⟨kc, ki, kts⟩ := k
          dsimp only at hn hsu wy
          cases hn with
          | none =>
            refine codeAny_handlers_suite ?_
            refine HandSPX.lands_againZ fl5 fun g4 fl4 up4 => ?_
            have Jd : Inv X pins σ' H' { s' with heap := g4 } := Jb.landed nb fl4.1 ((up.trans up5).trans up4) os ag
            obtain ⟨o4, v4, ea4, z4, ed4⟩ := fl4.there
            have Sd := Jd.suite ea4 ed4 na nloc nout
            refine wpAny_mono ((hsu a o4 cls d (X.pn ++ pins) z4 ⟨_, ed4⟩).run [] _ _ H' _ Sd wy) (fun f s6 dn => ?_) (fun _ _ z => False.elim z)
            cases f with
            | ret u =>
              obtain ⟨v6, σ6, H6, S6, r6, q6⟩ := dn
              exact ⟨_, _, _, S6.unsuite okX, r6, q6⟩
            | next =>
              obtain ⟨σ6, H6, S6, q6⟩ := dn
              exact ⟨_, _, S6.unsuite okX, q6⟩
            | brk =>
              obtain ⟨σ6, H6, S6, q6⟩ := dn
              exact ⟨_, _, S6.unsuite okX, q6⟩
            | cont =>
              obtain ⟨σ6, H6, S6, q6⟩ := dn
              exact ⟨_, _, S6.unsuite okX, q6⟩
          | @some n i hi hln =>
            have hlo : Loc X.env.scope n := .inl hln
            refine codeAny_handlers_suite_as ?_
            refine HandSPX.lands_againZ fl5 fun g4 fl4 up4 => ?_
            have Jd : Inv X pins σ' H' { s' with heap := g4 } := Jb.landed nb fl4.1 ((up.trans up5).trans up4) os ag
            obtain ⟨o4, v4, ea4, z4, ed4⟩ := fl4.there
            have Sd := Jd.suite ea4 ed4 na nloc nout
            refine store_ok (X := X.suite a ((a, o4) :: (X.pn ++ pins))) (v := .ref a) Sd nd hi hlo rfl (fun s5 S5 => ?_) (.inr hln)
            refine wpAny_mono ((hsu a o4 cls d (X.pn ++ pins) z4 ⟨_, ed4⟩).run [] s5 _ H' _ S5 wy) (fun f s6 dn => ?_) (fun _ _ z => False.elim z)
            have fin : ∀ {σ6 : L2.St} {H6 : Hp} {Q : Shared → Prop}, Inv (X.suite a ((a, o4) :: (X.pn ++ pins))) [] σ6 H6 s6 → (∀ s7, Inv X pins (σ6.set i none) H6 s7 → Q s7) →
                wpAny M X.A (do bindName X.env n .none; unbindBehindTheSuite X.env n q) (fun _ s7 => Q s7) X.xe s6 :=
              fun {σ6 H6 Q} S6 hq => gone_ok (S6.unsuite okX) nd hi hln hq
            cases f with
            | ret u =>
              obtain ⟨v6, σ6, H6, S6, r6, q6⟩ := dn
              exact fin S6 fun s7 J7 => ⟨_, _, _, J7, r6, q6⟩
            | next =>
              obtain ⟨σ6, H6, S6, q6⟩ := dn
              exact fin S6 fun s7 J7 => ⟨_, _, J7, q6⟩
            | brk =>
              obtain ⟨σ6, H6, S6, q6⟩ := dn
              exact fin S6 fun s7 J7 => ⟨_, _, J7, q6⟩
            | cont =>
              obtain ⟨σ6, H6, S6, q6⟩ := dn
              exact fin S6 fun s7 J7 => ⟨_, _, J7, q6⟩
    exact walk hh w g3 fl up3
  · cases f with
    | ret u =>
      obtain ⟨v, σ', H', Ja, r, q⟩ := dn
      exact ⟨v, σ', H', Ja.ofTry okX, r, q⟩
    | next =>
      obtain ⟨σ', H', Ja, q⟩ := dn
      exact wpAny_execs_nil ⟨σ', H', Ja.ofTry okX, q⟩
    | brk =>
      obtain ⟨σ', H', Ja, q⟩ := dn
      exact ⟨σ', H', Ja.ofTry okX, q⟩
    | cont =>
      obtain ⟨σ', H', Ja, q⟩ := dn
      exact ⟨σ', H', Ja.ofTry okX, q⟩
end
end PL
set_option maxRecDepth 100000
set_option maxHeartbeats 2000000
/-! Lift25: raise, try. -/
namespace PL
open PySem PySem.Spec PyProof.Rows L2 PA
section
variable {C : Cz} {X : Cx} {j : Nat}
theorem Rep.noxd {ι : Nat → Addr} {h : PA.Heap} {H : Hp} (r : Rep C ι h H) {dd : Addr} {gs : List (Str × V)} (e : H dd = some (.xd gs)) : ∀ l, l < h.length → ι l ≠ dd := fun l hl z => by
  obtain ⟨o, _, ob⟩ := r.there hl
  exact ob.noxd (by rw [z]; exact e)
theorem ExR.ext {ι ι' : Nat → Addr} {h : PA.Heap} {n' : Nat} {H H' : Hp} {e : Exc} {cls : Value} {d : Option Addr} (q : ExR C ι h.length H e cls d) (r : Rep C ι h H) (x : Ext ι h.length H ι' n' H') : ExR C ι' n' H' e cls d := by
  obtain ⟨q1, q2⟩ := q
  refine ⟨q1, ?_⟩
  rcases q2 with q2 | ⟨dd, gs, e1, e2, e3⟩
  · exact .inl q2
  · exact .inr ⟨dd, gs, e1, x.frame dd _ e2 (fun y z => nomatch z) (r.noxd e2), r.fsr x e3⟩

/-! ### raise -/
theorem pmk_own0 {c : Addr} {bmB : List Value} {B newId initId : String} {x : Str} {p pos : Pos} (F : ExcBaseFacts B newId initId bmB) (q : PySem.W.excIn X.K c bmB newId = true) (gC : X.mg x = some (.ref c)) (kC : PySem.W.keepIn X.K (.ref c) = true) (r : Raises X (.ref c)) (hg : Gl X x)
    (hdb : (x == ("__debug__" : Str)) = false := by decide) : PMk X (.Call (.Name x p) [] [] pos) (fun _ H Q => Q (.ref c) none H) := by
  intro pins s σ H Q I h
  refine wpAny_Call_Name_kw (ld_glob I hg gC ?_ hdb)
  refine PySem.W.callWith_K0 I.kIn kC ?_
  show wpAny _ _ (call (.ref c) []) _ _ _
  obtain ⟨bm, N, nm, qn, bs, hdct, sn, sub, ab, col, dd, k0, k1, k2, k3, k5, mN, hC, hN, hni, T⟩ := exc_obj I.kIn q
  refine wpAny_call_exc_subT F T hC hN hni (fun h' e hm => ?_) (by show 0 ≤ sizeLine; exact Nat.zero_le _)
  exact mk_of I hm r h (I.hok.gone hm.new)
/-- an own exception class without __init__ -/
structure ExcA0 (C : Cz) (c : String) : Prop where
  q : ∃ B newId initId bmB, ExcBaseFacts B newId initId bmB ∧ PySem.W.excIn C.K (C.ad c) bmB newId = true
  g : C.mg c = some (.ref (C.ad c))
  k : PySem.W.keepIn C.K (.ref (C.ad c)) = true
  s1 : PySem.W.subIn C.K (.ref (C.ad c)) (.type "BaseException") = some true
  s2 : PySem.W.typeIn C.K (.ref (C.ad c)) = some (.type "type")
theorem rs_raise0 {c : String} {p pos pos' : Pos} (g : Gd C X j) (T : ExcA0 C c) (hg : Gl X c := by rfl) (hdb : ((c : Str) == ("__debug__" : Str)) = false := by decide) : RS C X (.Raise (some (.Call (.Name c p) [] [] pos)) none pos') (sRaise0 c) := fun W tk => by
  obtain ⟨B, newId, initId, bmB, F, q⟩ := T.q
  have T1 := T.g
  have T2 := T.k
  have T3 := T.s1
  have T4 := T.s2
  rw [← g.hK] at q T2 T3 T4
  rw [← g.hm] at T1
  exact PS_imp (ps_raise g.calm tk (pmk_own0 F q T1 T2 (raises_own T3 T4) hg hdb)) fun D σ H ⟨ι, h, ρ, r, en, w⟩ => w ι H σ _ _ Ext.refl r en ⟨rfl, .inl ⟨rfl, rfl⟩⟩
/-- what an exception's __init__ does: its arguments are kept in these fields -/
def spI (C : Cz) (c : String) (names : List Str) : Sp := fun vs H Q _ => ∃ (a : Addr) (ws : List V), vs = .ref a :: ws ∧ ws.length = names.length ∧ H a = some (exo a (C.ad c) none) ∧
  ∀ (H2 : Hp) (d : Addr), H d = none → d ≠ a → H2 a = some (exo a (C.ad c) (some d)) → H2 d = some (exd d (names.zip ws).reverse) → (∀ b, b ≠ a → b ≠ d → H2 b = H b) → Q .non H2
theorem fn_init1 {c : String} {x n s0 : Str} {qual : Str} {st : Stmt} {f : Addr} {fd : FuncData} {p1 p2 p3 p4 : Pos} (F : L2.Fun C.K "__init__" qual st f fd) (S : FnScope [s0, x] [s0, x] (defScope st)) (T : OexC C.K (C.ad c)) (hno : PySem.W.findIn C.K (.ref (C.ad c)) n = some none)
    (hb : defBody st = [.Assign [.Attribute (.Name s0 p1) n p2] (.Name x p3) p4]) (hd0 : (s0 == ("__debug__" : Str)) = false := by decide) (hd1 : (x == ("__debug__" : Str)) = false := by decide) (hc0 : (s0 == ("__classdict__" : Str)) = false := by decide) (hc1 : (x == ("__classdict__" : Str)) = false := by decide)
    (v0 : (defScope st).names.lookup s0 = some .local := by rfl) (v1 : (defScope st).names.lookup x = some .local := by rfl)
    (hs : ∀ env : PySem.Env, swapsWith (.Name x p3) (some (.Attribute (.Name s0 p1) n p2)) p4.line env = pure false := by intro _; rfl) : FnOk C.P C.w C.K C.mg C.base (L2.CX C.P C.w) 1 f fd [s0, x] (spI C c [n]) := by
  refine F.okX (k := 0) S (fun vs H Q E h => ?_) (fun cdv A outer s H vs Q E hr h => ?_)
  · obtain ⟨a, ws, rfl, hl, _⟩ := h
    show ws.length + 1 = 2
    rw [hl]; rfl
  · obtain ⟨a, ws, rfl, hl, ea, k⟩ := h
    rw [hb]
    refine ⟨_, pss_one (ps_ost (pv 0 rfl (.inl v0) hd0 hc0) (pv 1 rfl (.inl v1) hd1 hc1) (hs _)), ?_⟩
    match ws, hl with
    | [w], _ =>
      refine ⟨w, rfl, .ref a, rfl, a, C.ad c, rfl, T, hno, .inl ⟨ea, fun dx e1 e2 => ?_⟩⟩
      refine k _ dx e1 e2 upd_same (by rw [upd_ne e2, upd_same]; rfl) fun b h1 h2 => by rw [upd_ne h1, upd_ne h2]
theorem fn_init2 {c : String} {x y n m s0 : Str} {qual : Str} {st : Stmt} {f : Addr} {fd : FuncData} {p1 p2 p3 p4 q1 q2 q3 q4 : Pos} (F : L2.Fun C.K "__init__" qual st f fd) (S : FnScope [s0, x, y] [s0, x, y] (defScope st)) (T : OexC C.K (C.ad c)) (hno : PySem.W.findIn C.K (.ref (C.ad c)) n = some none)
    (hno2 : PySem.W.findIn C.K (.ref (C.ad c)) m = some none) (hb : defBody st = [.Assign [.Attribute (.Name s0 p1) n p2] (.Name x p3) p4, .Assign [.Attribute (.Name s0 q1) m q2] (.Name y q3) q4]) (hd0 : (s0 == ("__debug__" : Str)) = false := by decide) (hd1 : (x == ("__debug__" : Str)) = false := by decide) (hd2 : (y == ("__debug__" : Str)) = false := by decide)
    (hc0 : (s0 == ("__classdict__" : Str)) = false := by decide) (hc1 : (x == ("__classdict__" : Str)) = false := by decide) (hc2 : (y == ("__classdict__" : Str)) = false := by decide)
    (v0 : (defScope st).names.lookup s0 = some .local := by rfl) (v1 : (defScope st).names.lookup x = some .local := by rfl) (v2 : (defScope st).names.lookup y = some .local := by rfl)
    (hs : ∀ env : PySem.Env, swapsWith (.Name x p3) (some (.Attribute (.Name s0 p1) n p2)) p4.line env = pure false := by intro _; rfl) (hs2 : ∀ env : PySem.Env, swapsWith (.Name y q3) (some (.Attribute (.Name s0 q1) m q2)) q4.line env = pure false := by intro _; rfl) : FnOk C.P C.w C.K C.mg C.base (L2.CX C.P C.w) 1 f fd [s0, x, y] (spI C c [n, m]) := by
  refine F.okX (k := 0) S (fun vs H Q E h => ?_) (fun cdv A outer s H vs Q E hr h => ?_)
  · obtain ⟨a, ws, rfl, hl, _⟩ := h
    show ws.length + 1 = 3
    rw [hl]; rfl
  · obtain ⟨a, ws, rfl, hl, ea, k⟩ := h
    rw [hb]
    refine ⟨_, pss_cons (ps_ost (pv 0 rfl (.inl v0) hd0 hc0) (pv 1 rfl (.inl v1) hd1 hc1) (hs _)) (pss_one (ps_ost (pv 0 rfl (.inl v0) hd0 hc0) (pv 2 rfl (.inl v2) hd2 hc2) (hs2 _))), ?_⟩
    match ws, hl with
    | [w, w2], _ =>
      refine ⟨w, rfl, .ref a, rfl, a, C.ad c, rfl, T, hno, .inl ⟨ea, fun dx e1 e2 => ?_⟩⟩
      refine ⟨w2, rfl, .ref a, rfl, a, C.ad c, rfl, T, hno2, .inr ⟨dx, [(n, w)], upd_same, by rw [upd_ne e2, upd_same], (by show 1 ≤ 900; decide), ?_⟩⟩
      refine k _ dx e1 e2 (by rw [upd_ne (Ne.symm e2), upd_same]) (by rw [upd_same]; rfl) fun b h1 h2 => by rw [upd_ne h2, upd_ne h1, upd_ne h2]
/-- an own exception class whose __init__ keeps its arguments -/
structure ExcAN (C : Cz) (c : String) (names : List Str) : Prop where
  g : C.mg c = some (.ref (C.ad c))
  T : OexC C.K (C.ad c)
  i : ∃ f fd ps, PySem.W.findIn C.K (.ref (C.ad c)) "__init__" = some (some (.ref f)) ∧ PySem.W.typeIn C.K (.ref f) = some (.type "function") ∧ FnOk C.P C.w C.K C.mg C.base (L2.CX C.P C.w) 1 f fd ps (spI C c names) ∧ Binds C.K fd ps []
theorem zip_fs {ι : Nat → Addr} {n : Nat} {H : Hp} : ∀ {names : List Str} {as : List AV} {vs : List V}, AvRs C ι n H as vs → FsR C ι n H (names.zip as) (names.zip vs)
  | [], _, _, _ => .nil
  | _ :: _, _, _, .nil => .nil
  | _ :: _, _, _, .cons a b => .cons a (zip_fs b)
theorem FsR.append {ι : Nat → Addr} {n : Nat} {H : Hp} : ∀ {xs ys : List (Str × AV)} {us ws : List (Str × V)}, FsR C ι n H xs us → FsR C ι n H ys ws → FsR C ι n H (xs ++ ys) (us ++ ws)
  | _, _, _, _, .nil, q => q
  | _, _, _, _, .cons a b, q => .cons a (FsR.append b q)
theorem FsR.reverse {ι : Nat → Addr} {n : Nat} {H : Hp} : ∀ {xs : List (Str × AV)} {us : List (Str × V)}, FsR C ι n H xs us → FsR C ι n H xs.reverse us.reverse
  | _, _, .nil => .nil
  | _, _, .cons a b => by
    rw [List.reverse_cons, List.reverse_cons]
    exact FsR.append (FsR.reverse b) (.cons a .nil)
theorem rs_raiseN {c : String} {names : List Str} {e : Expr} {es : List Expr} {l : LL} {p pos pos' : Pos} (g : Gd C X j) (T : ExcAN C c names) (hl : RL C X (e :: es) l) (hj : 2 ≤ j := by decide) (hn : names.length ≤ 1000 := by decide) (hg : Gl X c := by rfl) (hdb : ((c : Str) == ("__debug__" : Str)) = false := by decide)
    (he : starEach (e :: es) X.env = (false, eval e X.env) :: starEach es X.env := by rfl) (hpl : (backTo pos (starEach es X.env)).any (·.1) = false := by rfl) :
    RS C X (.Raise (some (.Call (.Name c p) (e :: es) [] pos)) none pos') (sRaiseN c names l) := fun W tk => by
  obtain ⟨f, fd, ps, i1, i2, fn, hb⟩ := T.i
  have T1 := T.g
  have TT := T.T
  rw [← g.hP, ← g.hw, ← g.hK, ← g.hm, ← g.hb] at fn
  rw [← g.hK] at i1 i2 hb TT
  rw [← g.hm] at T1
  refine PS_imp (ps_raise g.calm tk (pmk_oex TT i1 i2 fn (g.room.mono hj) hb .nil (passes_call tk fun _ _ _ _ z => z.elim) hg T1 (hl W tk) hdb he hpl)) fun D σ H ⟨ι, h, ρ, r, en, w⟩ => ⟨ι, h, ρ, r, en, (SPost.bnd (R := AvRs C) r en w).mono fun vs H1 ⟨ι1, h1, as, r1, e1, x1, w1⟩ => ?_⟩
  by_cases z : as.length = names.length
  · rw [if_pos z] at w1
    have hvl : vs.length = names.length := by rw [← x1.length]; exact z
    refine ⟨by rw [hvl]; exact hn, fun a na => ⟨a, vs, by rw [List.append_nil], hvl, upd_same, fun H2 d hd nda q1 q2 q3 => ⟨rfl, d, _, q1, q2, ?_, ?_⟩⟩⟩
    · rw [upd_ne nda] at hd; exact hd
    · rw [upd_ne nda] at hd
      have eH : upd (del H2 a) d (.xd (names.zip vs).reverse) = upd H1 d (.xd (names.zip vs).reverse) := by
        funext b
        by_cases zb : b = d
        · subst zb; rw [upd_same, upd_same]
        · rw [upd_ne zb, upd_ne zb]
          by_cases za : b = a
          · subst za; rw [del_same, na]
          · rw [del_ne za, q3 b za zb, upd_ne za]
      rw [eH]
      have ex : Ext ι1 h1.length H1 ι1 h1.length (upd H1 d (.xd (names.zip vs).reverse)) := Ext.laid r1 hd
      refine w1 ι1 _ σ _ _ ex (r1.laid hd) ((en.ext r e1).ext r1 ex) ⟨rfl, .inr ⟨d, _, rfl, upd_same, ?_⟩⟩
      exact FsR.reverse (zip_fs (AvRs.map (fun p ys t => r1.sqT ex t) (Nat.le_refl _) (fun _ _ => rfl) x1))
  · rw [if_neg z] at w1; exact w1.elim

/-! ### an except suite -/
def tX (C : Cz) (cls : Value) (d : Option Addr) (P : L2.St → Prop) (m : Exc → EE) (W : WX) : TE := fun σ H Q =>
  ∃ ι h ρ E, Rep C ι h H ∧ EnR C ι h.length H ρ σ ∧ ExR C ι h.length H E cls d ∧ P σ ∧ GPost C (AvR C) ι h H Q (fun c d H' => W c d σ H') (m E ρ h)
def RX (C : Cz) (X : Cx) (cls : Value) (d : Option Addr) (P : L2.St → Prop) (e : Expr) (m : Exc → EE) : Prop := ∀ W, Takes X W → PE X e (tX C cls d P m W)
def tXS (C : Cz) (cls : Value) (d : Option Addr) (P : L2.St → Prop) (m : Exc → SS) (W : WX) : TS := fun D σ H =>
  ∃ ι h ρ E, Rep C ι h H ∧ EnR C ι h.length H ρ σ ∧ ExR C ι h.length H E cls d ∧ P σ ∧ SPost C ι h H D W (m E ρ h)
def RXS (C : Cz) (X : Cx) (cls : Value) (d : Option Addr) (P : L2.St → Prop) (st : List Stmt) (m : Exc → SS) : Prop := ∀ W, Takes X W → PSs X st (tXS C cls d P m W)
variable {cls : Value} {d : Option Addr} {P : L2.St → Prop}
theorem rx_re {e : Expr} {m : EE} (h : RE C X e m) : RX C X cls d P e (fun _ => m) := fun W tk => PE_imp (h W tk) fun σ H Q ⟨ι, h, ρ, E, r, en, _, _, p⟩ => ⟨ι, h, ρ, r, en, p⟩
/-- what is needed of a class whose field is read off a caught exception -/
structure XfA (C : Cz) (c : String) (f : Str) : Prop where
  t : XfC C.K (C.ad c)
  n : PySem.W.findIn C.K (.ref (C.ad c)) f = some none
theorem rx_fld {i : Nat} {c : String} {n f : Str} {a : Addr} {oe : Obj} {pn : List (Addr × Obj)} {p pos : Pos} (T : XfA C c f) (hK : X.K = C.K) (hz : Zc cls d oe) (hf : ∃ vs, oe.data = .fields vs) (hP : ∀ σ, P σ → σ[i]? = some (some (.ref a))) (inj : ∀ e, C.ad e = C.ad c → e = c → True := by intros; trivial)
    (hN : X.N[i]? = some n := by rfl) (hv : Vis X.env.scope n := by first | exact Or.inl rfl | exact Or.inr (Or.inl rfl) | exact Or.inr (Or.inr rfl)) (hd : (n == ("__debug__" : Str)) = false := by decide) (hcd : (n == ("__classdict__" : Str)) = false := by decide)
    (hb : attributeBase (.Name n p) f X.env (eval (.Name n p) X.env) = eval (.Name n p) X.env := by rfl) : RX C (X.suite a ((a, oe) :: pn)) cls d P (.Attribute (.Name n p) f pos) (xFld c f) := fun W tk => by
  have t1 := T.t
  have t2 := T.n
  rw [← hK] at t1 t2
  refine PE_imp (pe_xf t1 t2 hz hf (pv i hN hv hd hcd) hb) fun σ H Q ⟨ι, h, ρ, E, r, en, x, hp, p⟩ => ?_
  unfold xFld at p
  by_cases z : E.cls = c
  · rw [if_pos z] at p
    cases e : E.fs.lookup f with
    | none => rw [e] at p; exact p.elim
    | some v =>
      rw [e] at p
      obtain ⟨x1, x2⟩ := x
      rcases x2 with ⟨x2, _⟩ | ⟨dd, gs, e1, e2, e3⟩
      · rw [x2] at e; cases e
      · rcases e3.lookup f with ⟨y, u, l1, l2, yu⟩ | ⟨l1, _⟩
        · rw [e] at l1; cases l1
          exact ⟨.ref a, hP σ hp, rfl, by rw [x1, z], dd, gs, u, e1, e2, l2, p ι H u Ext.refl r yu⟩
        · rw [e] at l1; cases l1
  · rw [if_neg z] at p; exact p.elim
theorem xbnd {α β : Type} {R : RR α β} {ι : Nat → Addr} {h : PA.Heap} {H : Hp} {Q : V → Hp → Prop} {W : XK} {m : PA.Heap → Res α} {k : α → PA.Heap → Res AV} (p : GPost C (AvR C) ι h H Q W (PA.bnd m k h)) :
    GPost C R ι h H (fun b H1 => ∃ ι1 h1 a, Rep C ι1 h1 H1 ∧ Ext ι h.length H ι1 h1.length H1 ∧ R ι1 h1.length H1 a b ∧ GPost C (AvR C) ι1 h1 H1 Q W (k a h1)) W (m h) := GPost.bnd p
theorem rx_tup2 {e1 e2 : Expr} {m1 m2 : Exc → EE} {c pos} (h1 : RX C X cls d P e1 m1) (h2 : RX C X cls d P e2 m2) (hs1 : starEach [e1, e2] X.env = (false, eval e1 X.env) :: starEach [e2] X.env := by rfl) (hs2 : starEach [e2] X.env = (false, eval e2 X.env) :: starEach [] X.env := by rfl) : RX C X cls d P (.Tuple [e1, e2] c pos) (xTup2 m1 m2) := fun W tk =>
  PE_imp (pe_tup (pa_cons (h1 W tk) (pa_cons (h2 W tk) pa_nil hs2) hs1)) fun σ H Q ⟨ι, h, ρ, E, r, en, x, hp, p⟩ => by
    unfold xTup2 at p
    refine ⟨ι, h, ρ, E, r, en, x, hp, (xbnd (R := AvR C) p).mono fun v H1 ⟨ι1, h1, a, r1, e1, x1, p1⟩ => ?_⟩
    refine ⟨ι1, h1, ρ, E, r1, en.ext r e1, x.ext r e1, hp, (xbnd (R := AvR C) p1).mono fun w H2 ⟨ι2, h2, b, r2, e2, x2, p2⟩ => ?_⟩
    have x12 := r1.av e2 x1
    refine ⟨by show 2 ≤ sizeLine; rw [sizeLine_eq]; decide, fun q hq => ?_⟩
    exact laid_tup r2 (.cons x12 (.cons x2 .nil)) p2 hq
theorem rxs_set (i : Nat) {x : Str} {e : Expr} {m : Exc → EE} {pos pos' : Pos} (hN : X.N.Nodup) (he : RX C X cls d P e m) (hi : X.N[i]? = some x := by rfl) (hx : Loc X.env.scope x := by first | exact Or.inl rfl | exact Or.inr rfl) (hs : swapsWith e (some (.Name x pos')) pos.line X.env = pure false := by rfl)
    (hf : X.fn x = true ∨ X.env.scope.names.lookup x = some .local := by first | exact .inl rfl | exact .inr rfl | assumption) : RXS C X cls d P [.Assign [.Name x pos'] e pos] (fun E => sSet i (m E)) := fun W tk =>
  pss_one (PS_imp (ps_set hN hi hx (he W tk) hs hf) fun D σ H ⟨ι, h, ρ, E, r, en, x, hp, p⟩ => ⟨ι, h, ρ, E, r, en, x, hp, (SPost.bnd (R := AvR C) r en p).mono fun v H1 ⟨ι1, h1, a, r1, e1, x1, p1⟩ =>
    p1 ι1 H1 _ Ext.refl r1 ((en.ext r e1).set x1 i)⟩)
/-! ### try -/
/-- what a clause names: one class of the module, or two -/
inductive TestA (C : Cz) (X : Cx) : Expr → Bool → List Value → Prop
  | one {c : String} {p : Pos} (hg : C.mg c = some (.ref (C.ad c))) (hgl : Gl X c) (hdb : ((c : Str) == ("__debug__" : Str)) = false) : TestA C X (.Name c p) false [.ref (C.ad c)]
  | two {c c' : String} {p q r : Pos} {i : Nat} (hg : C.mg c = some (.ref (C.ad c))) (hgl : Gl X c) (hdb : ((c : Str) == ("__debug__" : Str)) = false) (hg' : C.mg c' = some (.ref (C.ad c'))) (hgl' : Gl X c') (hdb' : ((c' : Str) == ("__debug__" : Str)) = false)
      (h1 : starEach [.Name c p, .Name c' q] X.env = (false, eval (.Name c p) X.env) :: starEach [.Name c' q] X.env) (h2 : starEach [.Name c' q] X.env = (false, eval (.Name c' q) X.env) :: starEach [] X.env) : TestA C X (.Tuple [.Name c p, .Name c' q] i r) true [.ref (C.ad c), .ref (C.ad c')]
theorem TestA.test {te : Expr} {t : Bool} {cs : List Value} (h : TestA C X te t cs) (hm : X.mg = C.mg) : ClTest X te t cs := by
  cases h with
  | one hg hgl hdb => exact .one ⟨hgl, hdb, .inl (by rw [hm]; exact hg)⟩
  | two hg hgl hdb hg' hgl' hdb' h1 h2 => exact .two ⟨hgl, hdb, .inl (by rw [hm]; exact hg)⟩ ⟨hgl', hdb', .inl (by rw [hm]; exact hg')⟩ h1 h2
def clK (K : PySem.W.Frag) (t : Bool) (cs : List Value) (cls : Value) : Option Bool := clM K ⟨t, cs, none, fun _ _ _ _ _ _ => True⟩ cls
theorem hf_of {K : PySem.W.Frag} {t : Bool} {cs : List Value} {l : List (String × Bool)} {ad : String → Addr} (h : ∀ p ∈ l, clK K t cs (.ref (ad p.1)) = some p.2) : ∀ n b, clF l n = some b → clK K t cs (.ref (ad n)) = some b := by
  intro n b e
  unfold clF at e
  induction l with
  | nil => cases e
  | cons p r ih =>
    obtain ⟨x, y⟩ := p
    rw [List.lookup_cons] at e
    cases z : n == x with
    | true =>
      rw [z] at e
      cases e
      have := eq_of_beq z
      subst this
      exact h _ List.mem_cons_self
    | false => rw [z] at e; exact ih (fun p hp => h p (List.mem_cons_of_mem _ hp)) e
theorem exm2 {K : PySem.W.Frag} {cls c1 c2 : Value} {b1 b2 : Bool} (h1 : PySem.W.exmOne K cls c1 = some b1) (h2 : PySem.W.exmOne K cls c2 = some b2) : clK K true [c1, c2] cls = some (b1 || (b2 || false)) := by
  show PySem.W.exmAny K cls [c1, c2] = _
  unfold PySem.W.exmAny PySem.W.exmAny PySem.W.exmAny
  rw [h1, h2]
/-- the clauses -/
inductive RC (C : Cz) (X : Cx) : List ExceptHandler → List ClA → Prop
  | nil : RC C X [] []
  | cons {te : Expr} {t : Bool} {cs : List Value} {nm : Option Str} {k : ClA} {st : Stmt} {sts : List Stmt} {q : Pos} {hs : List ExceptHandler} {ks : List ClA} (ht : TestA C X te t cs)
      (hf : ∀ n b, k.f n = some b → clK C.K t cs (.ref (C.ad n)) = some b) (hn : ClName X nm k.i)
      (hsu : ∀ (a : Addr) (o : Obj) (cls : Value) (d : Option Addr) (pn : List (Addr × Obj)), Zc cls d o → (∃ vs, o.data = .fields vs) → RXS C (X.suite a ((a, o) :: pn)) cls d (fun σ => ∀ i, k.i = some i → σ[i]? = some (some (.ref a))) (st :: sts) k.s)
      (r : RC C X hs ks) : RC C X (.ExceptHandler (some te) nm (st :: sts) q :: hs) (k :: ks)
def clOf (C : Cz) (t : Bool) (cs : List Value) (k : ClA) : Cl := ⟨t, cs, k.i, fun a cls d => tXS C cls d (fun σ => ∀ i, k.i = some i → σ[i]? = some (some (.ref a))) k.s (fun _ _ _ _ => False)⟩
theorem offE_en {ι : Nat → Addr} {n : Nat} {H : Hp} {ρ : PA.Env} {σ : L2.St} (en : EnR C ι n H ρ σ) (o : Option V) (i : Nat) : EnR C ι n H (ρ.set i none) (σ.set i o) := by
  refine ⟨by simp [en.1], fun j b hj => ?_⟩
  by_cases z : i = j
  · subst z
    have hl : i < ρ.length := by
      have := (List.getElem?_eq_some_iff.mp hj).1
      simpa using this
    rw [List.getElem?_set_self hl] at hj
    cases hj
  · rw [List.getElem?_set_ne z] at hj
    rw [List.getElem?_set_ne z]
    exact en.2 j b hj
theorem catch_imp {hds : List ExceptHandler} {ks : List ClA} (R : RC C X hds ks) (hK : X.K = C.K) (hm : X.mg = C.mg) : ∃ cs, ClsOk X hds cs ∧ ∀ {W : WX} {D : Ends} {ι : Nat → Addr} {h : PA.Heap} {H : Hp} {ρ : PA.Env} {σ : L2.St} {E : Exc} {cls : Value} {d : Option Addr}, Rep C ι h H → EnR C ι h.length H ρ σ → ExR C ι h.length H E cls d →
    SPost C ι h H D W (catchA ks E ρ h) → wMix X.K W D cs cls d σ H := by
  induction R with
  | nil => exact ⟨[], .nil, fun {W D ι h H ρ σ E cls d} r en x p => p ι H σ cls d Ext.refl r en x⟩
  | @cons te t cls0 nm k st sts q hs ks ht hf hn hsu r ih =>
    obtain ⟨cs, i1, i2⟩ := ih
    refine ⟨clOf C t cls0 k :: cs, .cons (ht.test hm) hn (fun a o cls d pn z1 z2 => hsu a o cls d pn z1 z2 _ (fun _ _ ⟨_, _, _, _, _, _, _, _, _, _, _, _, _, _, _, _, w⟩ => w.elim)) i1, ?_⟩
    intro W D ι h H ρ σ E cls d rp en x w
    unfold catchA at w
    cases e : k.f E.cls with
    | none => rw [e] at w; exact w.elim
    | some b =>
      rw [e] at w
      refine ⟨b, by rw [hK, x.1]; exact hf _ _ e, fun hb a na => ?_, fun hb => ?_⟩
      · subst hb
        dsimp only at w
        by_cases hlt : (k.i.all fun i => decide (i < ρ.length)) = true
        · rw [if_pos hlt] at w
          show tXS C cls d (fun σ => ∀ i, k.i = some i → σ[i]? = some (some (.ref a))) k.s (fun _ _ _ _ => False) (clEnds D k.i) (clSt σ a k.i) H
          cases hi : k.i with
          | none =>
            rw [hi] at w
            refine ⟨ι, h, ρ, E, rp, en, x, fun i z => (nomatch z), ?_⟩
            show SPost C ι h H D _ (k.s E ρ h)
            have w : SPost C ι h H D W (offS none (k.s E ρ h)) := w
            cases es : k.s E ρ h with
            | exc e' ρ' h' => rw [es] at w; exact w.elim
            | bad => rw [es] at w; exact w.elim
            | ret v h' => rw [es] at w; exact w
            | nx ρ' h' => rw [es] at w; exact w
            | brk ρ' h' => rw [es] at w; exact w
            | ct ρ' h' => rw [es] at w; exact w
          | some i =>
            rw [hi] at w hlt
            have hil : i < σ.length := by rw [← en.1]; exact of_decide_eq_true hlt
            refine ⟨ι, h, ρ.set i none, E, rp, offE_en en _ i, x, fun i' z => by cases z; exact List.getElem?_set_self hil, ?_⟩
            have w : SPost C ι h H D W (offS (some i) (k.s E (ρ.set i none) h)) := w
            cases es : k.s E (ρ.set i none) h with
            | exc e' ρ' h' => rw [es] at w; exact w.elim
            | bad => rw [es] at w; exact w.elim
            | ret v h' => rw [es] at w; exact w
            | nx ρ' h' => rw [es] at w; exact fun ι' H' σ' e1 r1 en1 => w ι' H' _ e1 r1 (offE_en en1 none i)
            | brk ρ' h' => rw [es] at w; exact fun ι' H' σ' e1 r1 en1 => w ι' H' _ e1 r1 (offE_en en1 none i)
            | ct ρ' h' => rw [es] at w; exact fun ι' H' σ' e1 r1 en1 => w ι' H' _ e1 r1 (offE_en en1 none i)
        · rw [if_neg hlt] at w; exact w.elim
      · subst hb
        exact i2 rp en x w
theorem rs_try {body : List Stmt} {hd0 : ExceptHandler} {hds : List ExceptHandler} {m : SS} {ks : List ClA} {pos : Pos} (g : Gd C X j) (hst : X.stack = X.env :: X.outer) (hfl : X.env.frame = some X.env.locals)
    (hb : ∀ (pn : List (Addr × Obj)) (xe : Value → Shared → Prop), Gd C (X.tr pn xe) j → RSs C (X.tr pn xe) body m) (R : RC C X (hd0 :: hds) ks) : RS C X (.Try body (hd0 :: hds) [] [] pos) (sTryA m ks) := fun W tk => by
  obtain ⟨cs, c1, c2⟩ := catch_imp R g.hK g.hm
  refine PS_imp (ps_try_mix (tb := fun W => tS C m W) g.nd hst hfl tk (fun W pn xe tk' => hb pn xe ⟨g.hP, g.hw, g.hK, g.hm, g.hb, g.calm, g.nd, g.room⟩ W tk') c1) fun D σ H ⟨ι, h, ρ, r, en, w⟩ => ⟨ι, h, ρ, r, en, ?_⟩
  unfold sTryA at w
  cases e : m ρ h with
  | exc x ρ' h' =>
    rw [e] at w
    exact fun ι' H' σ' cls d e1 r1 en1 x1 => c2 r1 en1 x1 (SPost.shift (h := h) (h' := h') w e1)
  | ret v h' => rw [e] at w; exact w
  | nx ρ' h' => rw [e] at w; exact w
  | brk ρ' h' => rw [e] at w; exact w
  | ct ρ' h' => rw [e] at w; exact w
  | bad => rw [e] at w; exact w
end
end PL
set_option maxRecDepth 100000
set_option maxHeartbeats 2000000
/-! Lift26: slices of lists, d.get(k, x), displays with ints as keys. -/
namespace PL
open PySem PySem.Spec PyProof.Rows L2 PA
section
variable {C : Cz} {X : Cx} {j : Nat}
/-! ### displays of dicts with ints as keys -/
inductive RDI (C : Cz) (X : Cx) : List (Option Expr) → List Expr → List (Int × EE) → Prop
  | nil : RDI C X [] [] []
  | cons {s : Int} {k : Nat} {p : Pos} {v : Expr} {ks : List (Option Expr)} {vs : List Expr} {m : EE} {ms : List (Int × EE)} (h : RE C X v m) (r : RDI C X ks vs ms) : RDI C X (some (.Constant (.int s) k p) :: ks) (v :: vs) ((s, m) :: ms)
theorem RDI.pps {pos : Pos} {ks : List (Option Expr)} {vs : List Expr} {ms : List (Int × EE)} {W : WX} (tk : Takes X W) (h : RDI C X ks vs ms) : PPs X pos ks vs (ms.map fun m => (tC (.int m.1), tE C m.2 W)) := by
  induction h with
  | nil => exact pps_nil
  | cons h r ih => exact pps_cons pe_int (h W tk) ih
/-- the pairs' values, from the left -/
inductive PsI (C : Cz) (ι : Nat → Addr) (n : Nat) (H : Hp) : List (Int × AV) → List (V × V) → Prop
  | nil : PsI C ι n H [] []
  | cons {s : Int} {a : AV} {v : V} {ps : List (Int × AV)} {qs : List (V × V)} : AvR C ι n H a v → PsI C ι n H ps qs → PsI C ι n H ((s, a) :: ps) ((.int s, v) :: qs)
theorem tpairsI_imp {W : WX} {σ : L2.St} : ∀ (ms : List (Int × EE)) {ι : Nat → Addr} {h : PA.Heap} {ρ : PA.Env} {H : Hp} {Q : List (V × V) → Hp → Prop}, Rep C ι h H → EnR C ι h.length H ρ σ → GPost C (PsI C) ι h H Q (fun c d H' => W c d σ H') (lDctI ms ρ h) → tPairs (ms.map fun m => (tC (.int m.1), tE C m.2 W)) σ H Q
  | [], ι, h, ρ, H, Q, r, en, p => p ι H [] Ext.refl r .nil
  | (s, m) :: ms, ι, h, ρ, H, Q, r, en, p => by
    refine ⟨ι, h, ρ, r, en, (GPost.bnd (R := AvR C) p).mono fun y H1 ⟨ι1, h1, a, r1, e1, x1, p1⟩ => ?_⟩
    refine tpairsI_imp ms r1 (en.ext r e1) ((GPost.bnd (R := PsI C) p1).mono fun ps H2 ⟨ι2, h2, as, r2, e2, x2, p2⟩ => ?_)
    exact p2 ι2 H2 _ Ext.refl r2 (.cons (r1.av e2 x1) x2)
theorem psi_keys {ι : Nat → Addr} {n : Nat} {H : Hp} {ps : List (Int × AV)} {qs : List (V × V)} (r : PsI C ι n H ps qs) : ∃ kvs : List (Key × V), qs = kvs.map (fun kv => (kV kv.1, kv.2)) ∧ kvs.length = ps.length ∧
    ∀ (xs : List (AV × AV)) (ks : List (Key × V)), KsR C ι n H xs ks → KsR C ι n H (ps.foldl (fun acc p => dPut acc (.int p.1) p.2) xs) (mergeK ks kvs) := by
  induction r with
  | nil => exact ⟨[], rfl, rfl, fun _ _ h => h⟩
  | @cons s a v ps qs h t ih =>
    obtain ⟨kvs, h1, h2, h3⟩ := ih
    exact ⟨(.inl s, v) :: kvs, by rw [h1]; rfl, by simp [h2], fun xs ks h0 => h3 _ _ (h0.put (.int s) h)⟩
theorem re_dispI {ks : List (Option Expr)} {vs : List Expr} {ms : List (Int × EE)} {pos : Pos} (h : RDI C X ks vs ms) (hall : ks.all (·.isSome) = true := by rfl) (hl : ks.length = vs.length := by rfl) (h0 : ks ≠ [] := by exact fun z => nomatch z) (h15 : ks.length ≤ 15 := by decide) (hms : ms.length ≤ 15 := by decide) :
    RE C X (.Dict ks vs pos) (eDispI ms) := fun W tk =>
  PE_imp (pe_disp (h.pps tk) hall hl h0 h15) fun σ H Q ⟨ι, hh, ρ, r, en, p⟩ => fun q hq => by
    have exl := Ext.laid (o := .dK []) r hq
    have p' : GPost C (PsI C) ι hh H (fun b H1 => ∃ ι1 h1 a, Rep C ι1 h1 H1 ∧ Ext ι hh.length H ι1 h1.length H1 ∧ PsI C ι1 h1.length H1 a b ∧ GPost C (AvR C) ι1 h1 H1 Q (fun c d H' => W c d σ H') (.ok (.loc h1.length) (h1 ++ [.dct (a.foldl (fun acc p => dPut acc (.int p.1) p.2) [])]))) (fun c d H' => W c d σ H') (lDctI ms ρ hh) := GPost.bnd (R := PsI C) p
    have lenp : ∀ (ms : List (Int × EE)) (h : PA.Heap) ps h', lDctI ms ρ h = .ok ps h' → ps.length = ms.length := by
      intro ms
      induction ms with
      | nil => intro h ps h' e; unfold lDctI at e; cases e; rfl
      | cons m ms ih =>
        obtain ⟨s, m⟩ := m
        intro h ps h' e
        unfold lDctI PA.bnd at e
        cases e1 : m ρ h with
        | bad => rw [e1] at e; cases e
        | exc a b => rw [e1] at e; cases e
        | ok v h1 =>
          rw [e1] at e
          dsimp only at e
          cases e2 : lDctI ms ρ h1 with
          | bad => rw [e2] at e; cases e
          | exc a b => rw [e2] at e; cases e
          | ok ws h2 => rw [e2] at e; cases e; simp [ih h1 ws _ e2]
    refine tpairsI_imp ms (r.laid hq) (en.ext r exl) ?_
    cases e : lDctI ms ρ hh with
    | bad => rw [e] at p'; exact p'.elim
    | exc e' h' => rw [e] at p'; exact fun ι1 H1 c d e1 r1 x1 => p' ι1 H1 c d (exl.trans e1) r1 x1
    | ok ps h1 =>
      intro ι1 H1 qs e1 r1 x1
      have hH1 : H1 q = some (.dK []) := e1.frame _ _ upd_same (fun _ z => nomatch z) fun l hl => r.off hq hl
      have off : ∀ l, l < h1.length → ι1 l ≠ q := fun l hl z => by
        by_cases zz : l < hh.length
        · exact r.off hq zz ((e1.agree l zz).symm.trans z)
        · have f := e1.fresh l (Nat.le_of_not_lt zz) hl
          rw [z, upd_same] at f
          cases f
      obtain ⟨kvs, k1, k2, k3⟩ := psi_keys x1
      refine ⟨hH1, kvs, k1, by rw [k2, lenp ms hh ps h1 e]; exact hms, ?_⟩
      have sq : ∀ a xs, SqT C.K H1 a xs → SqT C.K (upd H1 q (.dK (mergeK [] kvs))) a xs := fun a xs => side_sqT' hH1 (fun _ z => nomatch z) (fun _ _ z => nomatch z)
      have r2 : Rep C ι1 h1 (upd H1 q (.dK (mergeK [] kvs))) := r1.sideD hH1 off
      have ag : ∀ l, l < h1.length → put1 ι1 h1.length q l = ι1 l := fun l hl => put1_lt hl
      have kr := (k3 [] [] .nil).map sq (Nat.le_succ h1.length) ag
      have r3 := adopt (ao := .dct (ps.foldl (fun acc p => dPut acc (.int p.1) p.2) [])) r2 off ⟨_, upd_same, kr⟩
      have e3 : Ext ι hh.length H (put1 ι1 h1.length q) (h1 ++ [AO.dct (ps.foldl (fun acc p => dPut acc (.int p.1) p.2) [])]).length (upd H1 q (.dK (mergeK [] kvs))) := by
        rw [List.length_append, List.length_singleton]
        have et := exl.trans e1
        refine ⟨Nat.le_succ_of_le et.le, fun l hl => (put1_lt (Nat.lt_of_lt_of_le hl et.le)).trans (et.agree l hl), fun p o q1 q2 q3 => ?_, fun l a b => ?_, fun p q1 => ?_, fun p o w q1 => ?_⟩
        · rw [upd_ne (ne_of_none q1 hq)]; exact et.frame p o q1 q2 q3
        · by_cases z : l < h1.length
          · rw [put1_lt z]; exact et.fresh l a z
          · have : l = h1.length := by omega
            subst this
            rw [put1_same]; exact hq
        · by_cases z : p = q
          · rw [z, upd_same]; exact fun z => nomatch z
          · rw [upd_ne z]; exact et.dom p q1
        · rw [upd_ne (ne_of_none q1 hq)]; exact et.frz p o w q1
      have key : GPost C (AvR C) ι hh H Q (fun c d H' => W c d σ H') (.ok (.loc h1.length) (h1 ++ [.dct (ps.foldl (fun acc p => dPut acc (.int p.1) p.2) [])])) := by
        unfold eDispI PA.bnd at p
        rw [e] at p
        exact p
      refine key _ _ (.ref q) e3 r3 ?_
      have t : AvR C (put1 ι1 h1.length q) (h1 ++ [AO.dct (ps.foldl (fun acc p => dPut acc (.int p.1) p.2) [])]).length (upd H1 q (.dK (mergeK [] kvs))) (.loc h1.length) (.ref (put1 ι1 h1.length q h1.length)) := .loc (by simp)
      rw [put1_same] at t
      exact t

/-! ### slices of lists -/
theorem sixA_eq (n d : Nat) (o : Option Int) : sixA n d o = HT.sIx n d o := by
  cases o <;> rfl
theorem AvRs.take {ι : Nat → Addr} {n : Nat} {H : Hp} : ∀ {xs : List AV} {vs : List V} (k : Nat), AvRs C ι n H xs vs → AvRs C ι n H (xs.take k) (vs.take k)
  | _, _, 0, _ => .nil
  | _, _, _ + 1, .nil => .nil
  | _, _, k + 1, .cons a b => .cons a (AvRs.take k b)
theorem AvRs.drop {ι : Nat → Addr} {n : Nat} {H : Hp} : ∀ {xs : List AV} {vs : List V} (k : Nat), AvRs C ι n H xs vs → AvRs C ι n H (xs.drop k) (vs.drop k)
  | _, _, 0, r => r
  | _, _, _ + 1, .nil => .nil
  | _, _, k + 1, .cons a b => AvRs.drop k b
theorem AvRs.cut {ι : Nat → Addr} {n : Nat} {H : Hp} {xs : List AV} {vs : List V} (r : AvRs C ι n H xs vs) (lo hi : Option Int) : AvRs C ι n H (cutA xs lo hi) (cutV vs lo hi) := by
  unfold cutA cutV
  rw [sixA_eq, sixA_eq, r.length]
  exact AvRs.take _ (AvRs.drop _ r)
/-- a bound of a slice -/
def tOA (C : Cz) (m : Option EE) (W : WX) : L2.St → Hp → (Option Int → Hp → Prop) → Prop := fun σ H Q => ∃ ι h ρ, Rep C ι h H ∧ EnR C ι h.length H ρ σ ∧ GPost C (fun _ _ _ (a b : Option Int) => a = b) ι h H Q (fun c d H' => W c d σ H') (bndO m ρ h)
def RO (C : Cz) (X : Cx) (e : Option Expr) (m : Option EE) : Prop := ∀ W, Takes X W → ∃ t : TO, PO X e t ∧ ∀ σ H Q, tOA C m W σ H Q → t σ H Q
theorem ro_none : RO C X none none := fun W tk => ⟨_, po_none, fun σ H Q ⟨ι, h, ρ, r, en, p⟩ => p ι H none Ext.refl r rfl⟩
theorem ro_some {e : Expr} {m : EE} (h : RE C X e m) : RO C X (some e) (some m) := fun W tk => ⟨_, po_some (h W tk), fun σ H Q ⟨ι, h, ρ, r, en, p⟩ => ⟨ι, h, ρ, r, en, (GPost.bnd (R := AvR C) p).mono fun x H1 ⟨ι1, h1, a, r1, e1, x1, p1⟩ => by
  cases x1 with
  | int i => exact ⟨i, rfl, p1 ι1 H1 (some i) Ext.refl r1 rfl⟩
  | _ => exact p1.elim⟩⟩
theorem re_sliceL {e : Expr} {lo hi : Option Expr} {m : EE} {ml mh : Option EE} {p2 pos : Pos} (hK : X.K = C.K) (he : RE C X e m) (hl : RO C X lo ml) (hh : RO C X hi mh) : RE C X (.Subscript e (.Slice lo hi none p2) pos) (eSliceL m ml mh) := fun W tk => by
  obtain ⟨tl, l1, l2⟩ := hl W tk
  obtain ⟨th, h1, h2⟩ := hh W tk
  refine PE_imp (pe_slice sl_list (he W tk) l1 h1) fun σ H Q ⟨ι, h, ρ, r, en, p⟩ => ⟨ι, h, ρ, r, en, (GPost.bnd (R := AvR C) p).mono fun x H1 ⟨ι1, h1', a, r1, e1, x1, p1⟩ => ?_⟩
  refine l2 σ H1 _ ⟨ι1, h1', ρ, r1, en.ext r e1, (GPost.bnd (R := fun _ _ _ (a b : Option Int) => a = b) p1).mono fun u H2 ⟨ι2, h2', u', r2, e2, x2, p2⟩ => ?_⟩
  subst x2
  refine h2 σ H2 _ ⟨ι2, h2', ρ, r2, (en.ext r e1).ext r1 e2, (GPost.bnd (R := fun _ _ _ (a b : Option Int) => a = b) p2).mono fun w H3 ⟨ι3, h3', w', r3, e3, x3, p3⟩ => ?_⟩
  subst x3
  have x13 := r2.av e3 (r1.av e2 x1)
  cases x13 with
  | @loc l hl =>
    dsimp only at p3
    cases z : h3'[l]? with
    | none => rw [z] at p3; exact p3.elim
    | some o =>
      rw [z] at p3
      cases o with
      | lst xs =>
        obtain ⟨vs, v1, v2⟩ := lst_at r3 z
        exact ⟨_, vs, rfl, SqL.of v1, fun q hq => grow_lst r3 (v2.cut u' w') p3 hq⟩
      | _ => exact p3.elim
  | _ => exact p3.elim
/-! ### d.get(k, x) -/
theorem re_dget2 {o i x : Expr} {mo mi mx : EE} {apos cpos : Pos} (g : Gd C X j) (ho : RE C X o mo) (hi : RE C X i mi) (hx : RE C X x mx) (m : M2 X o "get" apos i x cpos := by exact ⟨rfl, rfl, rfl, rfl⟩) : RE C X (.Call (.Attribute o "get" apos) [i, x] [] cpos) (eGet2 mo mi mx) := fun W tk =>
  PE_imp (pe_dget2 (hu_of g.room) (ho W tk) (hi W tk) (hx W tk) m) fun σ H Q ⟨ι, h, ρ, r, en, p⟩ => ⟨ι, h, ρ, r, en, (GPost.bnd (R := AvR C) p).mono fun y H1 ⟨ι1, h1, a, r1, e1, x1, p1⟩ => by
    by_cases zd : isDct h1 a = true
    · rw [if_pos zd] at p1
      cases x1 with
      | @loc l hl =>
        refine ⟨_, rfl, ?_, ι1, h1, ρ, r1, en.ext r e1, (GPost.bnd (R := AvR C) p1).mono fun k H2 ⟨ι2, h2, b, r2, e2, x2, p2⟩ => ⟨ι2, h2, ρ, r2, (en.ext r e1).ext r1 e2, (GPost.bnd (R := AvR C) p2).mono fun v H3 ⟨ι3, h3, c, r3, e3, x3, p3⟩ => ?_⟩⟩
        · unfold isDct at zd
          dsimp only at zd
          cases ez : h1[l]? with
          | none => rw [ez] at zd; cases zd
          | some ob =>
            rw [ez] at zd
            cases ob with
            | dct kvs => obtain ⟨ks, k1, k2⟩ := dct_at r1 ez; exact .inl ⟨ks, .inl k1⟩
            | _ => cases zd
        · have xl := r2.av e3 (r1.av e2 (AvR.loc (C := C) hl))
          have xb := r2.av e3 x2
          cases e : dctOf h3 (.loc l) with
          | none => rw [e] at p3; exact p3.elim
          | some kvs =>
            rw [e] at p3
            dsimp only at p3
            by_cases z : isKey b = true
            · rw [if_pos z] at p3
              obtain ⟨q', ks, q1, rd, kr⟩ := dct_of r3 xl e
              obtain ⟨k', hk', kk⟩ := KR.of xb z
              cases q1
              rcases kr.get kk with ⟨g1, g2⟩ | ⟨w, u, g1, g2, g3⟩
              · rw [g1] at p3
                exact ⟨none, .inl ⟨ks, k', rd, hk', g2.symm⟩, p3 ι3 H3 v Ext.refl r3 x3⟩
              · rw [g1] at p3
                exact ⟨some u, .inl ⟨ks, k', rd, hk', g2.symm⟩, p3 ι3 H3 u Ext.refl r3 g3⟩
            · rw [if_neg z] at p3; exact p3.elim
      | _ => cases zd
    · rw [if_neg zd] at p1; exact p1.elim⟩
end
end PL
set_option maxRecDepth 100000
set_option maxHeartbeats 2000000
/-! Lift27: -x, xs * n, d.pop, d.clear, a dict turned about, list(d), sorted, == of nested ones. -/
namespace PySem.SeqAt
open AutoSeq1 (wpAny_loadPart')
open MeetsSeq MeetsSeq2 MeetsSeq3
section
variable {prog : Program} {w : World}
/-- != of two lists, each item equal to the one beside it: the loop's rest says no -/
theorem pl_neRest (p q : Addr) (us vs : Array Value) (cu cv : Nat) (du dv : Option Addr) (tu tv : Array (Option Value)) (hs : us.size = vs.size) :
    ∀ (m at_ : Nat), us.size - at_ = m → MeetsIn prog w (Builtin.«list.__eq__.loop» ⟨[.ref p, .ref q, rawInt at_, rawInt 3], []⟩)
      (fun A R s => s.heap.get? p = some { cls := .type "list", dict := du, data := .seq us cu, slots := tu } ∧ s.heap.get? q = some { cls := .type "list", dict := dv, data := .seq vs cv, slots := tv } ∧
        (∀ k (a : k < us.size) (b : k < vs.size), EqP prog w A.in1 s us[k] vs[k] true) ∧ R (.ok (.ret (.bool false))) s) := by
  intro m
  induction m with
  | zero =>
    intro at_ hm A R s hyp
    obtain ⟨o1, o2, o3, o4, o5⟩ := s
    obtain ⟨gp, gq, ev, fin⟩ := hyp
    wp_walk using wpAny_loadPart' gp, wpAny_loadPart' gq
    have nu : us[((at_ : Nat) : Int).toNat]? = none := by simp; omega
    have nv : vs[((at_ : Nat) : Int).toNat]? = none := by simp; omega
    rw [nu, nv]
    wp_walk using wpAny_loadPart' gp, wpAny_loadPart' gq
    show R (.ok (.ret (.bool (us.size != vs.size)))) _
    rw [hs]
    simpa using fin
  | succ m ih =>
    intro at_ hm A R s hyp
    obtain ⟨o1, o2, o3, o4, o5⟩ := s
    obtain ⟨gp, gq, ev, fin⟩ := hyp
    wp_walk using wpAny_loadPart' gp, wpAny_loadPart' gq
    have lu : at_ < us.size := by omega
    have lv : at_ < vs.size := by omega
    have su : us[((at_ : Nat) : Int).toNat]? = some us[at_] := by simp [lu]
    have sv : vs[((at_ : Nat) : Int).toNat]? = some vs[at_] := by simp [lv]
    have cast1 : ((at_ : Int) + 1) = ((at_ + 1 : Nat) : Int) := by push_cast; rfl
    rw [su, sv]
    refine wpAny_bind (ev at_ lu lv _ _ ?_)
    wp_walk
    rw [cast1]
    exact ⟨plainId_quiet plain_eq_loop _, codeAny_builtin entry_eq_loop (by
      rw [Around.under_plainId plain_eq_loop _]
      exact ih (at_ + 1) (by omega) A R _ ⟨gp, gq, ev, fin⟩)⟩
theorem pl_neAll (p q : Addr) (us vs : Array Value) (cu cv : Nat) (du dv : Option Addr) (tu tv : Array (Option Value)) (hs : us.size = vs.size) :
    MeetsIn prog w (Builtin.«list.__ne__» ⟨[.ref p, .ref q], []⟩)
      (fun A R s => s.heap.get? p = some { cls := .type "list", dict := du, data := .seq us cu, slots := tu } ∧ s.heap.get? q = some { cls := .type "list", dict := dv, data := .seq vs cv, slots := tv } ∧
        (∀ k (a : k < us.size) (b : k < vs.size), EqP prog w A.in1 s us[k] vs[k] true) ∧ R (.ok (.ret (.bool false))) s) := by
  intro A R s hyp
  obtain ⟨o1, o2, o3, o4, o5⟩ := s
  obtain ⟨gp, gq, ev, fin⟩ := hyp
  have sub := AutoSeq1.sub_list_list
  have same : ¬ (us.size != vs.size) = true := by simp [hs]
  wp_walk using wpAny_loadPart' gp, wpAny_loadPart' gq
  exact ⟨plainId_quiet plain_eq_loop _, codeAny_builtin entry_eq_loop (by
    rw [Around.under_plainId plain_eq_loop _]
    exact pl_neRest p q us vs cu cv du dv tu tv hs _ 0 rfl A R _ ⟨gp, gq, ev, fin⟩)⟩
theorem pl_ne {A : Around} {s : Shared} {p q : Addr} {us vs : Array Value} (gp : s.heap.IsList p us) (gq : s.heap.IsList q vs) (hs : us.size = vs.size) (room : A.units < cLine)
    (ev : ∀ k (a : k < us.size) (b : k < vs.size), EqP prog w A.in1 s us[k] vs[k] true) (E Q : Value → Shared → Prop) (fin : Q (.bool false) s) : wpAny (model prog w) A (richCompare .NotEq (.ref p) (.ref q)) Q E s := by
  obtain ⟨⟨c1, du, d1, tu⟩, a1, a2, cu, a3⟩ := id gp
  obtain ⟨⟨c2, dv, d2, tv⟩, b1, b2, cv, b3⟩ := id gq
  simp only at a2 a3 b2 b3
  subst a2 a3 b2 b3
  have tp : s.TypeIs (.ref p) "list" := ⟨_, a1, rfl⟩
  have tq : s.TypeIs (.ref q) "list" := ⟨_, b1, rfl⟩
  exact wpAny_richCompare_same_room (op := .NotEq) tp tq F.slot_list_ne (call_meetsIn F.slot_list_ne tp F.entry_list_ne (F.args_list_ne_2 _ _) (pl_neAll p q us vs cu cv du dv tu tv hs)
    ⟨a1, b1, ev, show Value.bool false ≠ Value.notImplemented ∧ Q (.bool false) s from ⟨(fun x => nomatch x), fin⟩⟩) room
end
end PySem.SeqAt
namespace PL
open PySem PySem.Spec PyProof.Rows L2 PA
section
variable {C : Cz} {X : Cx} {j k : Nat}
/-! ### more objects, none of ours -/
theorem Ext.more {ι : Nat → Addr} {n : Nat} {H H' : Hp} (k : ∀ b o, H b = some o → H' b = some o) : Ext ι n H ι n H' where
  le := Nat.le_refl _
  agree := fun _ _ => rfl
  frame := fun p o e _ _ => k p o e
  fresh := fun l a b => absurd (Nat.lt_of_lt_of_le b a) (Nat.lt_irrefl _)
  dom := fun p hp => by
    cases e : H p with
    | none => exact absurd e hp
    | some o => rw [k p o e]; exact fun z => nomatch z
  frz := fun p o u e => k p _ e
theorem Rep.more {ι : Nat → Addr} {h : PA.Heap} {H H' : Hp} (r : Rep C ι h H) (k : ∀ b o, H b = some o → H' b = some o) : Rep C ι h H' :=
  ⟨fun l o e => r.obr (Ext.more k) (r.at_ l o e) (by obtain ⟨u, hu⟩ := (r.at_ l o e).some_; rw [k _ _ hu, hu]) (fun dx q => k _ _ q), r.inj, r.scr.keep fun p o u e => k p _ e⟩
/-! ### -x, xs * n -/
theorem re_neg {a : Expr} {m : EE} {pos : Pos} (ha : RE C X a m) : RE C X (.UnaryOp .USub a pos) (eNeg m) := fun W tk =>
  PE_imp (pe_un un_neg (ha W tk)) fun σ H Q ⟨ι, h, ρ, r, en, p⟩ => ⟨ι, h, ρ, r, en, (GPost.bnd (R := AvR C) p).mono fun x H1 ⟨ι1, h1, a, r1, e1, x1, p1⟩ => by
    cases x1 with
    | int i => exact ⟨i, rfl, p1 ι1 H1 _ Ext.refl r1 (.int _)⟩
    | _ => exact p1.elim⟩
theorem op_mulL : OpA C X (binaryOp .Mult) oMulL := by
  intro pins s σ H x y v u Q I rx ry ⟨ι, h, a, b, W, r, xa, xb, p⟩
  unfold oMulL at p
  cases xb with
  | int n =>
    cases xa with
    | @loc l hl =>
      dsimp only at p
      cases e : h[l]? with
      | none => rw [e] at p; exact p.elim
      | some o =>
        rw [e] at p
        cases o with
        | lst xs =>
          dsimp only at p
          by_cases z : 0 ≤ n ∧ n ≤ 1000 ∧ xs.length ≤ 1000
          · rw [if_pos z] at p
            obtain ⟨z1, z2, z3⟩ := z
            obtain ⟨vs, hv, av⟩ := lst_at r e
            have lim : vs.length * n.toNat ≤ sizeLine := by
              have : vs.length * n.toNat ≤ 1000 * 1000 := Nat.mul_le_mul (by rw [← av.length]; exact z3) (by omega)
              rw [sizeLine_eq]; omega
            refine op_rep pins s σ H _ _ v u Q I rx ry ⟨_, n, vs, rfl, rfl, hv, by omega, by omega, lim, fun p' hp => ?_⟩
            have rep : ∀ m : Nat, AvRs C ι h.length H (List.replicate m xs).flatten (List.replicate m vs).flatten := by
              intro m
              induction m with
              | zero => exact .nil
              | succ m ih => rw [List.replicate_succ, List.replicate_succ, List.flatten_cons, List.flatten_cons]; exact av.append ih
            exact laid_lst r (rep n.toNat) p p' hp
          · rw [if_neg z] at p; exact p.elim
        | _ => exact p.elim
    | _ => exact p.elim
  | _ => cases xa <;> exact p.elim
/-! ### d.pop(k, x), d.clear() -/
theorem KsR.drop {ι : Nat → Addr} {n : Nat} {H : Hp} {kvs : List (AV × AV)} {ks : List (Key × V)} (r : KsR C ι n H kvs ks) {a : AV} {k : Key} (q : KR a k) : KsR C ι n H (dDrop kvs a) (dropK ks k) := by
  unfold dDrop dropK
  induction r with
  | nil => exact .nil
  | @int i x v fs gs h t ih =>
    rw [List.filter_cons, List.filter_cons, KR.eq (.int i) q]
    by_cases z : (Sum.inl i : Key) = k
    · simpa [z] using ih
    · simpa [z] using KsR.int h ih
  | @str i x v fs gs h t ih =>
    rw [List.filter_cons, List.filter_cons, KR.eq (.str i) q]
    by_cases z : (Sum.inr i : Key) = k
    · simpa [z] using ih
    · simpa [z] using KsR.str h ih
theorem re_dpop2 {o i x : Expr} {mo mi mx : EE} {apos cpos : Pos} (ho : RE C X o mo) (hi : RE C X i mi) (hx : RE C X x mx) (m : M2 X o "pop" apos i x cpos := by exact ⟨rfl, rfl, rfl, rfl⟩) : RE C X (.Call (.Attribute o "pop" apos) [i, x] [] cpos) (eDPop2 mo mi mx) := fun W tk =>
  PE_imp (pe_dpop2 (ho W tk) (hi W tk) (hx W tk) m) fun σ H Q ⟨ι, h, ρ, r, en, p⟩ => ⟨ι, h, ρ, r, en, (GPost.bnd (R := AvR C) p).mono fun y H1 ⟨ι1, h1, a, r1, e1, x1, p1⟩ => by
    by_cases zd : isDct h1 a = true
    · rw [if_pos zd] at p1
      cases x1 with
      | @loc l hl =>
        refine ⟨_, rfl, ?_, ι1, h1, ρ, r1, en.ext r e1, (GPost.bnd (R := AvR C) p1).mono fun k H2 ⟨ι2, h2, b, r2, e2, x2, p2⟩ => ⟨ι2, h2, ρ, r2, (en.ext r e1).ext r1 e2, (GPost.bnd (R := AvR C) p2).mono fun v H3 ⟨ι3, h3, c, r3, e3, x3, p3⟩ => ?_⟩⟩
        · unfold isDct at zd
          dsimp only at zd
          cases ez : h1[l]? with
          | none => rw [ez] at zd; cases zd
          | some ob =>
            rw [ez] at zd
            cases ob with
            | dct kvs => obtain ⟨ks, k1, k2⟩ := dct_at r1 ez; exact .inl ⟨ks, .inl k1⟩
            | _ => cases zd
        · have xl := r2.av e3 (r1.av e2 (AvR.loc (C := C) hl))
          have xb := r2.av e3 x2
          have hl3 : l < h3.length := Nat.lt_of_lt_of_le (Nat.lt_of_lt_of_le hl e2.le) e3.le
          have eι : ι1 l = ι3 l := ((e3.agree l (Nat.lt_of_lt_of_le hl e2.le)).trans (e2.agree l hl)).symm
          cases e : h3[l]? with
          | none => unfold dctU at p3; dsimp only at p3; rw [e] at p3; exact p3.elim
          | some ob =>
            unfold dctU at p3
            dsimp only at p3
            rw [e] at p3
            cases ob with
            | dct kvs =>
              dsimp only at p3
              by_cases z : isKey b = true
              · rw [if_pos z] at p3
                obtain ⟨ks, hk, kr⟩ := dct_at r3 e
                obtain ⟨k', hk', kk⟩ := KR.of xb z
                rw [eι]
                refine ⟨ks, k', hk, hk', ?_⟩
                rcases kr.get kk with ⟨g1, g2⟩ | ⟨w, u, g1, g2, g3⟩
                · rw [g1] at p3
                  exact ⟨fun v' z => (by rw [g2] at z; cases z), fun _ => p3 ι3 H3 v Ext.refl r3 x3⟩
                · rw [g1] at p3
                  obtain ⟨ex, r4⟩ := chg_dct r3 e (kr.drop kk)
                  refine ⟨fun v' z => ?_, fun z => by rw [g2] at z; cases z⟩
                  rw [g2] at z; cases z
                  exact p3 ι3 _ u ex r4 (r3.av ex g3)
              · rw [if_neg z] at p3; exact p3.elim
            | _ => exact p3.elim
      | _ => cases zd
    · rw [if_neg zd] at p1; exact p1.elim⟩
theorem re_dclear {o : Expr} {mo : EE} {apos cpos : Pos} (ho : RE C X o mo) (hbase : attributeBase o "clear" X.env (eval o X.env) = eval o X.env := by rfl) (hline : (apos.endLine == cpos.line) = true := by rfl) : RE C X (.Call (.Attribute o "clear" apos) [] [] cpos) (eDClear mo) := fun W tk =>
  PE_imp (pe_dclear (ho W tk) hbase hline) fun σ H Q ⟨ι, h, ρ, r, en, p⟩ => ⟨ι, h, ρ, r, en, (GPost.bnd (R := AvR C) p).mono fun y H1 ⟨ι1, h1, a, r1, e1, x1, p1⟩ => by
    cases x1 with
    | @loc l hl =>
      dsimp only at p1
      cases e : h1[l]? with
      | none => rw [e] at p1; exact p1.elim
      | some ob =>
        rw [e] at p1
        cases ob with
        | dct kvs =>
          obtain ⟨ks, hk, kr⟩ := dct_at r1 e
          obtain ⟨ex, r4⟩ := chg_dct r1 e (ys := []) (ws := []) .nil
          exact ⟨.inr (.inr (.inl ⟨rfl, .inl ⟨ks, hk⟩⟩)), _, ks, rfl, rfl, hk, p1 ι1 _ .non ex r4 .non⟩
        | _ => exact p1.elim
    | _ => exact p1.elim⟩
/-! ### dict(list(d.items())[::-1]) -/
theorem KsR.append {ι : Nat → Addr} {n : Nat} {H : Hp} {xs ys : List (AV × AV)} {ks ls : List (Key × V)} (r : KsR C ι n H xs ks) (q : KsR C ι n H ys ls) : KsR C ι n H (xs ++ ys) (ks ++ ls) := by
  induction r with
  | nil => exact q
  | int h t ih => exact .int h ih
  | str h t ih => exact .str h ih
theorem KsR.reverse {ι : Nat → Addr} {n : Nat} {H : Hp} {xs : List (AV × AV)} {ks : List (Key × V)} (r : KsR C ι n H xs ks) : KsR C ι n H xs.reverse ks.reverse := by
  induction r with
  | nil => exact .nil
  | int h t ih => rw [List.reverse_cons, List.reverse_cons]; exact ih.append (.int h .nil)
  | str h t ih => rw [List.reverse_cons, List.reverse_cons]; exact ih.append (.str h .nil)
theorem paired_rev {α β : Type} {R : α → β → Prop} {xs : List α} {ys : List β} (h : Paired R xs ys) : Paired R xs.reverse ys.reverse := by
  have app : ∀ {xs xs' : List α} {ys ys' : List β}, Paired R xs ys → Paired R xs' ys' → Paired R (xs ++ xs') (ys ++ ys') := by
    intro xs xs' ys ys' a b
    induction a with
    | nil => exact b
    | cons h _ ih => exact .cons h ih
  induction h with
  | nil => exact .nil
  | cons h _ ih => rw [List.reverse_cons, List.reverse_cons]; exact app ih (.cons h .nil)
theorem paired_imp {α β : Type} {R S : α → β → Prop} {xs : List α} {ys : List β} (h : Paired R xs ys) (i : ∀ a b, R a b → S a b) : Paired S xs ys := by
  induction h with
  | nil => exact .nil
  | cons h _ ih => exact .cons (i _ _ h) ih
theorem re_revIt {o : Expr} {mo : EE} {p1 p2 p3 p4 p5 p6 p7 q1 q2 : Pos} {k0 : Nat} (g : Gd C X j) (hd : C.mg "dict" = none) (hl : C.mg "list" = none) (ho : RE C X o mo) (hgd : Gl X "dict" := by rfl) (hgl : Gl X "list" := by rfl)
    (hbase : attributeBase o "items" X.env (eval o X.env) = eval o X.env := by rfl) (hline : (q1.endLine == q2.line) = true := by rfl)
    (hs : starEach [.Call (.Attribute o "items" q1) [] [] q2] X.env = (false, eval (.Call (.Attribute o "items" q1) [] [] q2) X.env) :: starEach [] X.env := by rfl)
    (na : starEach [.Subscript (.Call (.Name "list" p2) [.Call (.Attribute o "items" q1) [] [] q2] [] p3) (.Slice none none (some (.UnaryOp .USub (.Constant (.int 1) k0 p4) p5)) p6) p7] X.env = (false, eval (.Subscript (.Call (.Name "list" p2) [.Call (.Attribute o "items" q1) [] [] q2] [] p3) (.Slice none none (some (.UnaryOp .USub (.Constant (.int 1) k0 p4) p5)) p6) p7) X.env) :: starEach [] X.env := by rfl) {pos : Pos} :
    RE C X (.Call (.Name "dict" p1) [.Subscript (.Call (.Name "list" p2) [.Call (.Attribute o "items" q1) [] [] q2] [] p3) (.Slice none none (some (.UnaryOp .USub (.Constant (.int 1) k0 p4) p5)) p6) p7] [] pos) (eRevIt mo) := fun W tk => by
  have hit := LiI.pe_listItems (p := p2) (pos := p3) g.calm (ho W tk) hgl (by rw [g.hm]; exact hl) (by decide +kernel) hbase hline hs
  have hrv := pe_revL (k := k0) (p1 := p4) (p2 := p5) (p3 := p6) (pos := p7) hit
  refine PE_imp (pe_callTy (call_dictP g.calm) hgd (by rw [g.hm]; exact hd) (by decide +kernel) (pa_cons hrv pa_nil na) (by decide) (by decide) na rfl) fun σ H Q ⟨ι, h, ρ, r, en, p⟩ => ⟨ι, h, ρ, r, en, (GPost.bnd (R := AvR C) p).mono fun y H1 ⟨ι1, h1, a, r1, e1, x1, p1⟩ => ?_⟩
  cases e : dctU h1 a with
  | none => rw [e] at p1; exact p1.elim
  | some kvs =>
    rw [e] at p1
    obtain ⟨q, ks, rfl, hk, kr⟩ := dctU_of r1 x1 e
    refine ⟨q, ks, rfl, hk, fun H2 pl ts mono _ _ _ hp2 prs => ⟨pl, ts.map V.ref, rfl, SqL.of hp2, fun p' hp' => ?_⟩⟩
    have r2 : Rep C ι1 h1 H2 := r1.more mono
    have x2 : Ext ι1 h1.length H1 ι1 h1.length H2 := Ext.more mono
    have r3 : Rep C ι1 h1 (upd H2 p' (.lst (ts.map V.ref).reverse)) := r2.laid hp'
    have x3 := x2.trans (Ext.laid (o := .lst (ts.map V.ref).reverse) r2 hp')
    refine ⟨p', ts.reverse, ks.reverse, rfl, SqL.of (by rw [upd_same, List.map_reverse]), paired_imp (paired_rev prs) fun t kv ht => .inl (.inl (by rw [upd_ne (ne_of_none ht hp')]; exact ht)), fun p6 hp6 => ?_⟩
    have kr3 : KsR C ι1 h1.length (upd H2 p' (.lst (ts.map V.ref).reverse)) kvs.reverse ks.reverse := (r1.ksr x3 kr).reverse
    exact laid_dct r3 (ksR_merge kr3 .nil) (GPost.shift p1 x3) p6 hp6
/-! ### list(d), sorted(xs) -/
theorem KsR.keys {ι : Nat → Addr} {n : Nat} {H : Hp} {xs : List (AV × AV)} {ks : List (Key × V)} (r : KsR C ι n H xs ks) : AvRs C ι n H (keysOf xs) (ks.map fun kv => kV kv.1) := by
  induction r with
  | nil => exact .nil
  | int h t ih => exact .cons (.int _) ih
  | str h t ih => exact .cons (.str _) ih
theorem cr_listD (g : Gd C X j) : CrA C X (.type "list") bListD := by
  intro pins s σ H xs us Q I rv ⟨ι, h, as, W, r, x, p⟩
  cases x with
  | nil => exact p.elim
  | cons a b =>
    cases b with
    | cons _ _ => exact p.elim
    | nil =>
      rename_i a0 v0
      unfold bListD at p
      dsimp only at p
      cases e : dctOf h a0 with
      | none => rw [e] at p; exact p.elim
      | some kvs =>
        rw [e] at p
        obtain ⟨q, ks, rfl, rd, kr⟩ := dct_of r a e
        exact call_listD g.calm pins s σ H _ us Q I rv ⟨q, ks, rfl, rd, fun p' hp => laid_lst r kr.keys p p' hp⟩
theorem cr_sorted (g : Gd C X j) : CrA C X (.builtin "sorted") bSorted := by
  intro pins s σ H xs us Q I rv ⟨ι, h, as, W, r, x, p⟩
  cases x with
  | nil => exact p.elim
  | cons a b =>
    cases b with
    | cons _ _ => cases a <;> exact p.elim
    | nil =>
      cases a with
      | @loc l hl =>
        unfold bSorted at p
        dsimp only at p
        cases e : h[l]? with
        | none => rw [e] at p; exact p.elim
        | some o =>
          rw [e] at p
          cases o with
          | lst xs =>
            dsimp only at p
            cases z : strsOf xs with
            | none => rw [z] at p; exact p.elim
            | some ys =>
              rw [z] at p
              dsimp only at p
              by_cases q : ys.Nodup ∧ ys.length < 64
              · rw [if_pos q] at p
                obtain ⟨vs, hv, av⟩ := lst_at r e
                have ev : vs = ys.map V.str := PL.strs_of av z
                subst ev
                refine cr_sortedS pins s σ H _ us Q I rv ⟨_, ys, rfl, SqL.of hv, q.2, fun zs p' pm hs hp => ?_⟩
                have : zs = sortD ys := up_ext (sortedS_up zs hs (pm.nodup_iff.mpr q.1)) (sortD_up ys) fun y => by rw [sortD_mem]; exact pm.mem_iff
                rw [this]
                exact laid_lst r (AvRs.ofStrs _) p p' hp
              · rw [if_neg q] at p; exact p.elim
          | _ => exact p.elim
      | _ => exact p.elim
end
end PL
set_option maxRecDepth 100000
set_option maxHeartbeats 4000000
/-! Lift28: isinstance of a caught error, with a dict of its own or without; suites with a choice; == of a list and an own instance; != of nested lists. -/
namespace PySem.W
open PySem PySem.Spec PySem.Calls PyProof.Rows
section
variable {prog : Program} {w : World} {A : Around} {E : Value → Shared → Prop} {s : Shared} {K : Frag} {x D : Addr} {ox : Obj} {od : Option Obj}
theorem pl_findO {name : Str} {a g : Value} (c1 : (clsIn K D).isSome = true) (c2 : findIn K (.ref D) name = some (some a)) (c3 : specialIn K a "__get__" = some (some g)) (c4 : takesIn K a = some true) : findObj K D od name = some (.bind g a) := by
  cases od with
  | none => exact findObj_dataN c1 c2 c3 c4
  | some o => exact findObj_data c1 c2 c3 c4
theorem pl_kinE {Q : Option Value → Shared → Prop} (T : L2.ExcC K D) (X : K.In s.heap) (I : InstAt s.heap x ox D od) (fin : Q (some (.ref D)) { s with toks := s.toks + 1 }) : wpAny (model prog w) A (getAttr? (.ref x) "__class__") Q E s := by
  obtain ⟨t1, t2, t3, t4, t5, t6, t7, t8⟩ := T
  have fo : findObj K D od "__class__" = some (.bind (.builtin "getset_descriptor.__get__") (.builtin "object.__class__")) := pl_findO (by obtain ⟨cd, q, _⟩ := any_some t4; rw [q]; rfl) t5 t6 t7
  obtain ⟨o1, o2, o3, o4, o5⟩ := s
  have ty0 := I.type (M := model prog w)
  have ga1 := looks_findIn (M := model prog w) X t1
  have gt2 := looks_findIn (M := model prog w) X t2
  have fi3 := looks_find (M := model prog w) X I fo
  have isb : Looks (model prog w) o1 (isInstance (.ref x) (.type "BaseException")) true := ty0.andThen (looks_subIn X t3)
  have n0 : (false && onTheHeap (Value.builtin "BaseException.__getattribute__")) = false := rfl
  have n2 : (Value.builtin "BaseException.__getattribute__" == Value.builtin "object.__getattribute__") = false := by decide +kernel
  have n1 : (onTheHeap (Value.ref D) && Value.builtin "BaseException.__getattribute__" == Value.builtin "object.__getattribute__") = false := by rw [n2]; rfl
  unfold getAttr? getAttrBy? getAttrBy
  refine wpAny_bind (wpAny_mkText (wpAny_bind (wpAny_attempt (wpAny_holding (wpAny_bind (ty0.at (wpAny_bind (ga1.at ?_))))))))
  show wpAny (model prog w) A (if (onTheHeap (Value.ref D) && Value.builtin "BaseException.__getattribute__" == Value.builtin "object.__getattribute__") = true then _ else _) _ _ _
  rw [n1, if_neg Bool.false_ne_true]
  unfold getAttrByItsOwn hookBefore
  refine wpAny_bind ?_
  rw [if_pos (show onTheHeap (Value.ref D) = true from rfl)]
  refine gt2.at ?_
  refine wpAny_bind (wpAny_attempt (wpAny_holding ?_))
  unfold callGetattribute
  rw [n0, if_neg Bool.false_ne_true]
  unfold boundAndCalled
  rw [PySem.F.excAttr_ValueError.ga.bind (.ref x)]
  refine wpAny_bind (wpAny_pure ?_)
  show wpAny (model prog w) _ (call (.builtin "BaseException.__getattribute__") [.ref x, .str "__class__" o4]) _ _ _
  refine wpAny_call (codeAny_call_builtin PySem.F.excAttr_ValueError.ga.plain PySem.F.entry_bexc_ga ?_)
  refine @check_slot (model prog w) _ _ ⟨o1, o2, o3, o4 + 1, o5⟩ "BaseException.__getattribute__" "BaseException" "__getattribute__" (.ref x) [.str "__class__" o4] [] _ (by decide +kernel) (by decide +kernel) isb (PySem.F.args_bexc_ga (.ref x) (.str "__class__" o4)) ?_
  unfold Builtin.«object.__getattribute__»
  refine wpAny_bind (wpAny_of_eq (a := ((Value.ref x : Value), [Value.str "__class__" o4])) (by first | rfl | (simp only [slotArgs]; rfl)) ?_)
  refine wpAny_bind (wpAny_pure (wpAny_bind (ty0.at (wpAny_bind (fi3.at ?_)))))
  show wpAny (model prog w) _ (holding [Value.builtin "object.__class__"] (call (.builtin "getset_descriptor.__get__") [.builtin "object.__class__", .ref x, .ref D]) >>= ret) _ _ _
  refine wpAny_bind (wpAny_holding (wpAny_call (class_get (s := ⟨o1, o2, o3, o4 + 1, o5⟩) (ox := ox) (od := od) X I t8 ?_)))
  refine wpAny_pure ?_
  show wpAny (model prog w) _ (handedOut (.ref D)) _ _ _
  rw [handedOut_of (v := .ref D) rfl]
  first
    | exact wpAny_pure (wpAny_pure fin)
    | exact wpAny_pure fin
    | exact wpAny_pure (wpAny_bind (wpAny_pure (wpAny_pure fin)))
theorem pl_kitE (T : L2.ExcC K D) : KitX K (.ref x) (.ref D) (fun h => InstAt h x ox D od) where
  ty := fun _ _ _ J => J.type
  it := fun M h X _ => by
    obtain ⟨cd0, q, _⟩ := any_some T.hd
    unfold clsIn at q
    split at q
    · rename_i c0 d0 cd1 sl0 at0
      intro A1 Q1 E1 s1 keep fin
      unfold isType loadHead
      exact wpAny_bind (wpAny_loadPart (keep _ _ (X _ _ at0)) (wpAny_pure fin))
    · cases q
  ne := (handS_kitx_exc (x := x) (ox := ox) T.hg T.hk T.hs T.hd T.ha T.hn T.ht T.hm).ne
  ca := fun X J k => pl_kinE T X J k
end
end PySem.W
namespace PL
open PySem PySem.Spec PyProof.Rows L2 PA
section
variable {C : Cz} {X : Cx} {j k : Nat}
/-- isinstance(e, c), e an exception that is pinned -/
def rIsX (K : PySem.W.Frag) (cls : Value) (d : Option Addr) (a : Addr) : List V → Hp → VK → Prop := fun xs H Q => ∃ (D : Addr) (c : V) (cv : Value) (b : Bool), cls = .ref D ∧ ExcC K D ∧ xs = [.ref a, c] ∧ (∀ u, RelV c u → u = cv) ∧ PySem.W.kitOne K cls cv = some b ∧
  (d = none ∨ ∃ dd gs, d = some dd ∧ H dd = some (.xd gs)) ∧ Q (.bl b) H
theorem call_isX {a : Addr} {cls : Value} {d : Option Addr} {oe : Obj} (hp : (a, oe) ∈ X.pn) (hz : Zc cls d oe) (hf : ∃ vs, oe.data = .fields vs) : CallR X (.builtin "isinstance") (rIsX X.K cls d a) := by
  intro pins s σ H xs us Q I r ⟨D, c, cv, b, ec, T, ex, hcv, hk, hd, q⟩
  subst ec ex
  cases r with
  | cons rx rr =>
    cases rr with
    | cons rt rr =>
      cases rr
      cases rx
      have et := hcv _ rt
      subst et
      obtain ⟨here, _⟩ := I.pin (a, oe) (List.mem_append.mpr (.inl hp))
      obtain ⟨vs, hv⟩ := hf
      obtain ⟨od, J⟩ : ∃ od, PySem.W.InstAt s.heap a oe D od := by
        obtain ⟨oc, odx, oda, osl⟩ := oe
        obtain ⟨z1, z2⟩ := hz
        dsimp only at z1 z2 hv
        subst z1 z2 hv
        rcases hd with hd | ⟨dd, gs, hd, he⟩
        · subst hd
          exact ⟨none, here, rfl, rfl, trivial⟩
        · subst hd
          obtain ⟨mA, n, _⟩ := (show ObjOk X.prog X.w H s.heap dd (.xd gs) from I.hok dd _ he)
          obtain ⟨od, ho, _⟩ := lookIn_ns n
          exact ⟨some od, here, rfl, rfl, ho⟩
      exact PySem.W.kia_one (PySem.W.pl_kitE T) I.kIn J hk (fun z => nomatch z) fun tk => ⟨.bl b, H, I.kept (t' := tk) fun _ _ z => z, rfl, q⟩
variable {cls : Value} {d : Option Addr} {P : L2.St → Prop}
/-- which of the classes that are thrown is below c -/
structure XiA (C : Cz) (c : String) (f : String → Option Bool) : Prop where
  g : C.mg c = some (.ref (C.ad c))
  k : ∀ n b, f n = some b → ExcC C.K (C.ad n) ∧ PySem.W.kitOne C.K (.ref (C.ad n)) (.ref (C.ad c)) = some b
theorem xi_of {c : String} {l : List (String × Bool)} (g : C.mg c = some (.ref (C.ad c))) (h : ∀ p ∈ l, ExcC C.K (C.ad p.1) ∧ PySem.W.kitOne C.K (.ref (C.ad p.1)) (.ref (C.ad c)) = some p.2) : XiA C c (clF l) := by
  refine ⟨g, fun n b e => ?_⟩
  unfold clF at e
  induction l with
  | nil => cases e
  | cons p r ih =>
    obtain ⟨x, y⟩ := p
    rw [List.lookup_cons] at e
    cases z : n == x with
    | true =>
      rw [z] at e
      cases e
      have := eq_of_beq z
      subst this
      exact h _ List.mem_cons_self
    | false => rw [z] at e; exact ih (fun p hp => h p (List.mem_cons_of_mem _ hp)) e
theorem rx_isE {i : Nat} {c : String} {n : Str} {f : String → Option Bool} {a : Addr} {oe : Obj} {pn : List (Addr × Obj)} {p p2 p3 pos : Pos} (T : XiA C c f) (g : Gd C X j) (hmi : C.mg "isinstance" = none) (hz : Zc cls d oe) (hf : ∃ vs, oe.data = .fields vs) (hP : ∀ σ, P σ → σ[i]? = some (some (.ref a)))
    (hN : X.N[i]? = some n := by rfl) (hv : Vis X.env.scope n := by first | exact Or.inl rfl | exact Or.inr (Or.inl rfl) | exact Or.inr (Or.inr rfl)) (hd : (n == ("__debug__" : Str)) = false := by decide) (hcd : (n == ("__classdict__" : Str)) = false := by decide)
    (hg : Gl X "isinstance" := by rfl) (hgc : Gl X c := by rfl) (hdc : ((c : Str) == ("__debug__" : Str)) = false := by decide)
    (he1 : starEach [.Name n p, .Name c p2] X.env = (false, eval (.Name n p) X.env) :: starEach [.Name c p2] X.env := by rfl) (he2 : starEach [.Name c p2] X.env = (false, eval (.Name c p2) X.env) :: starEach [] X.env := by rfl) (hpl : (backTo pos (starEach [.Name c p2] X.env)).any (·.1) = false := by rfl) :
    RX C (X.suite a ((a, oe) :: pn)) cls d P (.Call (.Name "isinstance" p3) [.Name n p, .Name c p2] [] pos) (xIsE f) := fun W tk => by
  have cr := call_isX (X := X.suite a ((a, oe) :: pn)) (a := a) (oe := oe) (cls := cls) (d := d) List.mem_cons_self hz hf
  have hc : PE (X.suite a ((a, oe) :: pn)) (.Name c p2) (tC (.ref (C.ad c))) := pe_glob (X := X.suite a ((a, oe) :: pn)) hgc (by show X.mg c = _; rw [g.hm]; exact T.g) rfl hdc
  refine PE_imp (pe_callB (X := X.suite a ((a, oe) :: pn)) cr hg (by show X.mg "isinstance" = none; rw [g.hm]; exact hmi) (by decide +kernel) (pa_cons (pv (X := X.suite a ((a, oe) :: pn)) i hN hv hd hcd) (pa_cons hc pa_nil he2) he1) (by decide) (by decide) he1 hpl) fun σ H Q ⟨ι, h, ρ, E, r, en, x, hp, q⟩ => ?_
  unfold xIsE at q
  cases e : f E.cls with
  | none => rw [e] at q; exact q.elim
  | some b =>
    rw [e] at q
    obtain ⟨x1, x2⟩ := x
    obtain ⟨t1, t2⟩ := T.k _ _ e
    refine ⟨.ref a, hP σ hp, C.ad E.cls, .ref (C.ad c), .ref (C.ad c), b, x1, by show ExcC X.K _; rw [g.hK]; exact t1, rfl, fun u z => z, by show PySem.W.kitOne X.K _ _ = _; rw [g.hK, x1]; exact t2, ?_, q ι H _ Ext.refl r (.bl b)⟩
    rcases x2 with ⟨_, x2⟩ | ⟨dd, gs, x2, x3, _⟩
    · exact .inl x2
    · exact .inr ⟨dd, gs, x2, x3⟩
theorem rx_if {t a b : Expr} {mt m1 m2 : Exc → EE} {pos : Pos} (ht : RX C X cls d P t mt) (h1 : RX C X cls d P a m1) (h2 : RX C X cls d P b m2) (he : ∀ whole, isTrue t X.env whole = (do let v ← whole; standAt t.pos; holding [v] (truthy v)) := by intro _; rfl) : RX C X cls d P (.IfExp t a b pos) (xIf mt m1 m2) := fun W tk =>
  PE_imp (pe_ifExp (pt_val (ht W tk) he) (h1 W tk) (h2 W tk)) fun σ H Q ⟨ι, h, ρ, E, r, en, x, hp, p⟩ => by
    unfold xIf at p
    refine ⟨ι, h, ρ, E, r, en, x, hp, (xbnd (R := AvR C) p).mono fun v H1 ⟨ι1, h1', a, r1, e1, x1, p1⟩ => ?_⟩
    cases x1 with
    | bl b =>
      cases b with
      | true => exact ⟨true, rfl, ι1, h1', ρ, E, r1, en.ext r e1, x.ext r e1, hp, p1⟩
      | false => exact ⟨false, rfl, ι1, h1', ρ, E, r1, en.ext r e1, x.ext r e1, hp, p1⟩
    | _ => exact p1.elim
/-! ### own == a list -/
theorem op_ownEqL {c : String} {F : FF} (g : Gd C X j) (M : EqS C k c F) (nf : PySem.W.notFirst C.K (C.ad c) (.type "list") = true) (hk : k ≤ j := by decide) : OpA C X (compareOp .Eq) (oOwnEqL c F) := by
  obtain ⟨f, fd, ps, names, fn, hc, hf, hfn, hb, us, _⟩ := M.ex
  unfold FnA at fn
  rw [← g.hP, ← g.hw, ← g.hK, ← g.hm, ← g.hb] at fn
  rw [← g.hK] at hc hf hfn hb nf
  have fr := fn.raw hb (dvs := []) .nil
  intro pins s σ H x y v u Q I rx ry ⟨ι, h, a, b, W, r, xa, xb, p⟩
  unfold oOwnEqL at p
  by_cases z : (isIns c h a && isLst h b) = true
  · rw [if_pos z] at p
    rw [Bool.and_eq_true] at z
    obtain ⟨q, dx, vs, rfl, st⟩ := isIns_sl us r xa z.1
    have hl : ∃ q' ys, y = .ref q' ∧ H q' = some (.lst ys) := by
      obtain ⟨_, z2⟩ := z
      unfold isLst at z2
      cases xb with
      | @loc l hl =>
        dsimp only at z2
        cases e : h[l]? with
        | none => rw [e] at z2; cases z2
        | some o =>
          rw [e] at z2
          cases o with
          | lst xs => obtain ⟨vs, hv, _⟩ := lst_at r e; exact ⟨_, vs, rfl, hv⟩
          | _ => cases z2
      | _ => cases z2
    obtain ⟨q', ys, rfl, hy⟩ := hl
    cases (show v = Value.ref q from rx)
    cases (show u = Value.ref q' from ry)
    obtain ⟨sl, od, _, J, _⟩ := SlX.slt_inst I st
    obtain ⟨m, hF⟩ := I.fr
    obtain ⟨_, its, nn, _, hget⟩ := (show ObjOk X.prog X.w H s.heap q' (.lst ys) from I.hok q' _ hy)
    have tl : PySem.W.Looks (model X.prog X.w) s.heap (typeOf (.ref q')) (.type "list") := fun A Q E s kk z => wpAny_typeOf_ref (kk _ _ hget) z
    show wpAny _ _ (richCompare .Eq (.ref q) (.ref q')) _ _ s
    refine PySem.W.cmp_K (op := .Eq) (tb := .type "list") g.room.units0 hF I.ok.mod.kin J tl nf hf hfn ?_
    refine wpAny_mono (wpAny_call (run_fnR (us := [.ref q, .ref q']) (vs := [.ref q, .ref q']) fr (g.room.mono hk) (passL (X := X)) I (.cons rfl (.cons rfl .nil)) (show spA C F [.ref q, .ref q'] H Q E0 from ⟨ι, h, [a, b], r, .cons xa (.cons xb .nil), p.noExc⟩))) (fun w s' z => ?_) fun _ _ x => x
    obtain ⟨z', H', I', rz, qz⟩ := z
    exact SlX.cmpback rz ⟨z', H', I', rz, qz⟩
  · rw [if_neg z] at p; exact p.elim
/-! ### != of nested lists -/
theorem sameF_eq {ι : Nat → Addr} {n : Nat} {H : Hp} {x y : AV} {v u : V} (a : AvR C ι n H x v) (b : AvR C ι n H y u) (e : sameF x y = true) : v = u ∧ flatB v = true := by
  cases a <;> cases b <;> first | (cases e; done) | (have e := eq_of_beq e; subst e; exact ⟨rfl, rfl⟩) | exact ⟨rfl, rfl⟩
theorem sameL_len {f : AV → AV → Bool} : ∀ {xs ys : List AV}, sameL f xs ys = true → xs.length = ys.length
  | [], [], _ => rfl
  | x :: xs, y :: ys, e => by
    unfold sameL at e
    rw [Bool.and_eq_true] at e
    rw [List.length_cons, List.length_cons, sameL_len e.2]
  | [], y :: ys, e => by cases e
  | x :: xs, [], e => by cases e
theorem item_eq {pins : List (Addr × Obj)} {σ : L2.St} {H : Hp} {s : Shared} {ι : Nat → Addr} {h : PA.Heap} (hK : X.K = C.K) (I : Inv X pins σ H s) (r : Rep C ι h H) {A : Around} (hu : A.units + 70 < cLine) {x y : AV} {v u : V} {v' u' : Value} (a : AvR C ι h.length H x v) (b : AvR C ι h.length H y u)
    (rv : RelV v v') (ru : RelV u u') (e : sameV h x y = true) : SeqAt.EqP X.prog X.w A s v' u' true := by
  have flatE : ∀ n {x y : AV} {v u : V}, AvR C ι h.length H x v → AvR C ι h.length H y u → sameF x y = true → EqV X.K H (n + 1) v u := fun n {x y v u} a b e => .inl (sameF_eq a b e)
  unfold sameV at e
  rw [Bool.or_eq_true, Bool.or_eq_true] at e
  rcases e with (e | e) | e
  · exact eqV_run I 1 A (by omega) v u v' u' (flatE 0 a b e) rv ru
  · rw [Bool.and_eq_true, Bool.and_eq_true, decide_eq_true_eq] at e
    obtain ⟨⟨t1, t2⟩, e⟩ := e
    obtain ⟨d, d', d1, d2, s1, s2, ek⟩ := eqA_dp r a b e
    rw [← hK] at d1 d2
    cases a with
    | @tup qa xs vs ta va =>
      cases b with
      | @tup qb ys us tb ub =>
        cases (show v' = Value.ref qa from rv)
        cases (show u' = Value.ref qb from ru)
        by_cases z : qa = qb
        · subst z
          exact (SeqAt.EqAt.same _).eqP
        · obtain ⟨as, r1⟩ := Dp.reads I d _ _ d1 rv
          obtain ⟨bs, r2⟩ := Dp.reads I d' _ _ d2 ru
          exact SeqAt.eqP_refs z fun E Q q => SeqAt.compareEq_shaped r1 r2 s1 s2 (by omega) (by rw [← ek]; exact q)
      | _ => cases t2
    | _ => cases t1
  · cases e1 : dctU h x with
    | none => rw [e1] at e; cases e
    | some ks =>
      cases e2 : dctU h y with
      | none => rw [e1, e2] at e; cases e
      | some ls =>
        rw [e1, e2] at e
        dsimp only at e
        obtain ⟨qa, ka, rfl, ha, ra⟩ := dctU_of r a e1
        obtain ⟨qb, kb, rfl, hb, rb⟩ := dctU_of r b e2
        unfold sameKvs at e
        rw [Bool.and_eq_true, decide_eq_true_eq, List.all_eq_true] at e
        obtain ⟨zl, za⟩ := e
        refine eqV_run I 2 A (by omega) _ _ v' u' (.inr (.inr (.inr ⟨qa, qb, ka, kb, rfl, rfl, ha, hb, by rw [← ra.length, ← rb.length]; exact zl, fun p hp => ?_⟩))) rv ru
        obtain ⟨a, x, kk, xv, pa⟩ := ksR_all ra (P := fun a x => (match dGet ls a with
          | some v => eqF v x && (match v, x with
            | .str _, .str _ => true
            | .int _, .int _ => true
            | _, _ => false)
          | none => false) = true) za p hp
        rcases rb.get kk with ⟨g1, g2⟩ | ⟨y, w, g1, g2, g3⟩
        · rw [g1] at pa; cases pa
        · rw [g1] at pa
          dsimp only at pa
          rw [Bool.and_eq_true] at pa
          obtain ⟨p1, p2⟩ := pa
          refine ⟨w, g2, ?_⟩
          generalize p.2 = p2v at xv
          cases g3 with
          | str s1 =>
            cases xv with
            | str s2 =>
              have : s1 = s2 := eq_of_beq p1
              subst this
              exact .inl ⟨rfl, rfl⟩
            | _ => cases p2
          | int s1 =>
            cases xv with
            | int s2 =>
              have : s1 = s2 := eq_of_beq p1
              subst this
              exact .inl ⟨rfl, rfl⟩
            | _ => cases p2
          | _ => cases xv <;> cases p2
theorem items_eq {pins : List (Addr × Obj)} {σ : L2.St} {H : Hp} {s : Shared} {ι : Nat → Addr} {h : PA.Heap} (hK : X.K = C.K) (I : Inv X pins σ H s) (r : Rep C ι h H) {A : Around} (hu : A.units + 70 < cLine) : ∀ {xs ys : List AV} {vs us : List V} {its jts : List Value}, AvRs C ι h.length H xs vs → AvRs C ι h.length H ys us →
    sameL (sameV h) xs ys = true → Vals vs its → Vals us jts → ∀ k (a : k < its.length) (b : k < jts.length), SeqAt.EqP X.prog X.w A s its[k] jts[k] true
  | _, _, _, _, _, _, .nil, .nil, _, .nil, _, k, a, _ => absurd a (Nat.not_lt_zero k)
  | _, _, _, _, _, _, .cons a b, .cons c d, e, .cons r1 r2, .cons q1 q2, k, la, lb => by
    unfold sameL at e
    rw [Bool.and_eq_true] at e
    cases k with
    | zero => exact item_eq hK I r hu a c r1 q1 e.1
    | succ k => exact items_eq hK I r hu b d e.2 r2 q2 k (Nat.lt_of_succ_lt_succ la) (Nat.lt_of_succ_lt_succ lb)
  | _, _, _, _, _, _, .nil, .cons c d, e, _, _, _, _, _ => by cases e
  | _, _, _, _, _, _, .cons a b, .nil, e, _, _, _, _, _ => by cases e
theorem op_neV (g : Gd C X j) (hu : X.A.units + 80 < cLine) : OpA C X (compareOp .NotEq) oNeV := by
  intro pins s σ H x y v u Q I rx ry ⟨ι, h, a, b, W, r, xa, xb, p⟩
  unfold oNeV at p
  cases xa with
  | @loc l hl =>
    cases xb with
    | @loc m hm =>
      dsimp only at p
      cases e1 : h[l]? with
      | none => rw [e1] at p; exact p.elim
      | some o1 =>
        cases e2 : h[m]? with
        | none => rw [e1, e2] at p; cases o1 <;> exact p.elim
        | some o2 =>
          rw [e1, e2] at p
          cases o1 with
          | lst xs =>
            cases o2 with
            | lst ys =>
              dsimp only at p
              by_cases z : sameL (sameV h) xs ys = true
              · rw [if_pos z] at p
                obtain ⟨vs, hv, av⟩ := lst_at r e1
                obtain ⟨us, hw, aw⟩ := lst_at r e2
                cases (show v = Value.ref (ι l) from rx)
                cases (show u = Value.ref (ι m) from ry)
                obtain ⟨its, i1, i2, _⟩ := I.list (SqL.of hv)
                obtain ⟨jts, j1, j2, _⟩ := I.list (SqL.of hw)
                have len : its.length = jts.length := by rw [← i1.length, ← j1.length, ← av.length, ← aw.length]; exact sameL_len z
                show wpAny _ _ (richCompare .NotEq (.ref (ι l)) (.ref (ι m))) _ _ s
                refine SeqAt.pl_ne i2.isList j2.isList (by simpa using len) (by omega) (fun k a b => ?_) _ _ ⟨.bl false, H, I, rfl, p ι H _ Ext.refl r (.bl _)⟩
                have q := items_eq g.hK I r (A := X.A.in1) (by show X.A.units + 1 + 70 < cLine; omega) av aw z i1 j1 k (by simpa using a) (by simpa using b)
                simpa using q
              · rw [if_neg z] at p; exact p.elim
            | _ => exact p.elim
          | _ => cases o2 <;> exact p.elim
    | _ => exact p.elim
  | _ => cases xb <;> exact p.elim
end
end PL
set_option maxRecDepth 100000
set_option maxHeartbeats 2000000
/-! Lift29: o.m(x, ..) of a slotted class. -/
namespace PL
open PySem PySem.Spec PyProof.Rows L2 PA
section
variable {C : Cz} {X : Cx} {j k : Nat}
theorem re_methS {c : String} {m : Str} {F : FF} {o e : Expr} {es : List Expr} {mo : EE} {l : LL} {apos pos : Pos} {pl : Sem Bool} (g : Gd C X j) (M : MetS C k c m F) (ho : RE C X o mo) (hl : RL C X (e :: es) l) (hk : k ≤ j := by decide)
    (hst : starEach (e :: es) X.env = (false, eval e X.env) :: starEach es X.env := by rfl) (hpl : (backTo pos (starEach es X.env)).any (·.1) = false := by rfl)
    (ht : eval (.Call (.Attribute o m apos) (e :: es) [] pos) X.env = (do
      let ov ← eval o X.env
      standAt apos.atName
      let (f, first) ← holding [ov] (getMethod ov m pl)
      callWith pos f first (backTo pos (starEach (e :: es) X.env)) (backToKw pos (keywordEach [] X.env))) := by rfl) :
    RE C X (.Call (.Attribute o m apos) (e :: es) [] pos) (eMethS c F mo l) := fun W tk => by
  obtain ⟨f, fd, ps, names, fn, hc, hm, hb, us⟩ := M.ex
  unfold FnA at fn
  rw [← g.hP, ← g.hw, ← g.hK, ← g.hm, ← g.hb] at fn
  rw [← g.hK] at hc hm hb
  refine ⟨fun pins s σ H Q I q => ?_⟩
  obtain ⟨ι, h, ρ, r, en, p⟩ := q
  refine PySem.W.methodCall_KW (pl := pl) (thn ((ho W tk).run pins s σ H _ I ⟨ι, h, ρ, r, en, GPost.bnd (R := AvR C) p⟩) fun u s1 ⟨x, H1, I1, rx, ι1, h1, a, r1, e1, x1, p1⟩ => ?_) ht
  by_cases z : isIns c h1 a = true
  · rw [if_pos z] at p1
    obtain ⟨q, dx, vs, rfl, st⟩ := isIns_sl us r1 x1 z
    obtain rfl : u = Value.ref q := rx
    refine SlX.getmethsl_ok I1 st hc hm ?_
    refine PySem.W.callWith_K (first := [.ref q]) (h₀ := X.base) I.ok.mod.kin hm.kp (thn ((hl W tk).run pos pins s1 σ H1 _ I1 ⟨ι1, h1, ρ, r1, en.ext r e1, GPost.bnd (R := AvRs C) p1⟩) fun us s2 ⟨vs, H2, I2, r2', ι2, h2, as, r2, e2, x2, p2⟩ => ⟨I2.kIn, ?_⟩) hst hpl
    exact run_fnS (us := .ref q :: us) (vs := .ref q :: vs) (E := WE W) fn (g.room.mono hk) hb (passAt tk σ) I2 (.cons rfl r2') ⟨ι2, h2, a :: as, r2, .cons (r1.av e2 x1) x2, p2⟩
  · rw [if_neg z] at p1; exact p1.elim
/-! ### == of dicts of texts -/
theorem hits_ok {A : Around} {s : Shared} {ι : Nat → Addr} {n : Nat} {H : Hp} {ys : List (AV × AV)} {ls : List (Key × V)} (rb : KsR C ι n H ys ls) {vb : List (Key × Value)} (kb : KV ls vb) {xs : List (AV × AV)} {ks : List (Key × V)} (ra : KsR C ι n H xs ks) : ∀ {va : List (Key × Value)} {b : Bool}, KV ks va → hitsA ys xs = some b →
    PySem.W.KeqHitsP X.prog X.w A s vb va b := by
  have one : ∀ {a x : AV} {k : Key} {v : V} {xs : List (AV × AV)} {ks : List (Key × V)}, KR a k → AvR C ι n H x v → (∀ {va : List (Key × Value)} {b : Bool}, KV ks va → hitsA ys xs = some b → PySem.W.KeqHitsP X.prog X.w A s vb va b) →
      ∀ {va : List (Key × Value)} {b : Bool}, KV ((k, v) :: ks) va → hitsA ys ((a, x) :: xs) = some b → PySem.W.KeqHitsP X.prog X.w A s vb va b := by
    intro a x k v xs ks kk xv ih va b kv e
    unfold KV at kv
    cases kv with
    | @cons p q ps qs h t =>
      obtain ⟨q1, q2⟩ := q
      obtain ⟨h1, h2⟩ := h
      have h1' : k = q1 := h1
      subst h1'
      unfold hitsA at e
      rcases rb.get kk with ⟨g1, g2⟩ | ⟨y, w, g1, g2, g3⟩
      · rw [g1] at e
        cases e
        have := kb.val k
        rw [g2] at this
        refine .miss ?_
        cases z : valueAt vb k with
        | none => rfl
        | some u => rw [z] at this; exact this.elim
      · rw [g1] at e
        dsimp only at e
        have rr : RelO (some w) (valueAt vb k) := by rw [← g2]; exact kb.val k
        obtain ⟨u, hu, ru⟩ := rr.some_of
        cases xv with
        | str s1 =>
          cases g3 with
          | str s2 =>
            dsimp only at e
            cases z : hitsA ys xs with
            | none => rw [z] at e; cases e
            | some b2 =>
              rw [z] at e
              cases e
              obtain ⟨t1, rfl⟩ : ∃ t1, q2 = Value.str s1 t1 := h2
              obtain ⟨t2, rfl⟩ : ∃ t2, u = Value.str s2 t2 := ru
              exact .hit hu (SeqAt.EqAt.str_str s1 t1 s2 t2).eqP (ih t z)
          | _ => cases e
        | _ => cases g3 <;> cases e
  induction ra with
  | nil =>
    intro va b kv e
    unfold KV at kv
    cases kv
    cases e
    exact .nil
  | int xv _ ih => exact one (.int _) xv ih
  | str xv _ ih => exact one (.str _) xv ih
theorem op_eqDs (g : Gd C X j) : OpA C X (compareOp .Eq) oEqDs := by
  intro pins s σ H x y v u Q I rx ry ⟨ι, h, a, b, W, r, xa, xb, p⟩
  unfold oEqDs at p
  cases e1 : dctU h a with
  | none => rw [e1] at p; exact p.elim
  | some xs =>
    rw [e1] at p
    cases e2 : dctU h b with
    | none => rw [e2] at p; exact p.elim
    | some ys =>
      rw [e2] at p
      dsimp only at p
      cases e3 : hitsA ys xs with
      | none => rw [e3] at p; exact p.elim
      | some k =>
        rw [e3] at p
        dsimp only at p
        obtain ⟨qa, ks, rfl, hk, kr⟩ := dctU_of r xa e1
        obtain ⟨qb, ls, rfl, hl, lr⟩ := dctU_of r xb e2
        cases (show v = Value.ref qa from rx)
        cases (show u = Value.ref qb from ry)
        obtain ⟨_, ya, va, ra, da⟩ := (show ObjOk X.prog X.w H s.heap qa (.dK ks) from I.hok qa _ hk)
        obtain ⟨_, yb, vb, rb, db⟩ := (show ObjOk X.prog X.w H s.heap qb (.dK ls) from I.hok qb _ hl)
        show wpAny _ _ (richCompare .Eq (.ref qa) (.ref qb)) _ _ s
        refine PySem.W.rcP_dicts (knd := mixKind X.prog X.w) (r := k) ya yb da db g.room.units0 (fun _ => hits_ok lr rb kr ra e3) _ _ ?_
        have e : (va.length == vb.length && k) = (xs.length == ys.length && k) := by
          have l1 : ks.length = va.length := ra.length
          have l2 : ls.length = vb.length := rb.length
          rw [← l1, ← l2, ← kr.length, ← lr.length]
        rw [e]
        exact ⟨.bl (xs.length == ys.length && k), H, I, rfl, p ι H _ Ext.refl r (.bl _)⟩
end
end PL
/-! Sem: the defs that law reaches, as plain functions. Printed by gen.py. -/
namespace K06
open PySem (Str)
open PA
def kv_POINTS : List (Str × AV) := [("above", (.tup [.str "keeps", .str "wins"])), ("back", (.tup [.str "follows", .str "own"])), ("cut", (.tup [.str "empty", .str "values"])), ("spread", (.tup [.str "now", .str "one", .str "read"])), ("tie", (.tup [.str "all", .str "keeps", .str "same"]))]
def ks_POINTS : List Str := ["above", "back", "cut", "spread", "tie"]
/-- 0 _law_script, 1 _law_seed, 2 _law_state, 3 _law_cell -/
def l__law_mix_1 (ns : List Int) : SS := (sSet 2 (eBin oMod (eCall bInt (lCons (eBin oAdd (eBin oAdd (eBin oMul (eVar 2) (eC (.int 48271))) (eBin oMod (eCall bInt (lCons (eVar 3) lNil)) (eC (.int 2147483629)))) (eC (.int 1))) lNil)) (eC (.int 2147483647))))
def b__law_mix (ns : List Int) : SS := (sSeq (sSet 2 (eVar 1)) (sSeq (sFor (iScr ns (eVar 0)) (PA.gName 3) (l__law_mix_1 ns)) (sRet (eLst (lCons (eVar 2) (lCons (eCall (bListS ns) (lCons (eVar 0) lNil)) (lCons (eC (.int 0)) (lCons (eC (.int 14)) lNil))))))))
def f__law_mix (ns : List Int) : FF := runF 2 2 (b__law_mix ns)
/-- 0 _law_h, 1 _law_bound, 2 _law_cell -/
def b__law_next : SS := (sSeq (sSet 2 (eBin oIx (eBin oAdd (eBin oIx (eVar 0) (eC (.int 1))) (eLst (lCons (eC (.int 0)) lNil))) (eBin oMod (eCall bInt (lCons (eBin oIx (eVar 0) (eC (.int 2))) lNil)) (eCall bMax2 (lCons (eC (.int 1)) (lCons (eCall bLen (lCons (eBin oIx (eVar 0) (eC (.int 1))) lNil)) lNil)))))) (sSeq (sIf (tB (eBin oGe (eVar 2) (eBin oPow (eC (.int 10)) (eC (.int 18))))) (sSeq (sIx (eBin oIx (eVar 0) (eC (.int 1))) (eBin oMod (eCall bInt (lCons (eBin oIx (eVar 0) (eC (.int 2))) lNil)) (eCall bLen (lCons (eBin oIx (eVar 0) (eC (.int 1))) lNil))) (eBin oDiv (eVar 2) (eVar 1))) (sRet (eBin oMod (eCall bInt (lCons (eVar 2) lNil)) (eVar 1)))) sNil) (sSeq (sIx (eVar 0) (eC (.int 0)) (eBin oMod (eCall bInt (lCons (eBin oAdd (eBin oAdd (eBin oMul (eBin oIx (eVar 0) (eC (.int 0))) (eC (.int 48271))) (eBin oMul (eVar 2) (eC (.int 69621)))) (eC (.int 11))) lNil)) (eC (.int 2147483647)))) (sSeq (sIx (eVar 0) (eC (.int 2)) (eBin oAdd (eBin oIx (eVar 0) (eC (.int 2))) (eC (.int 1)))) (sRet (eBin oMod (eCall bInt (lCons (eBin oDiv (eBin oIx (eVar 0) (eC (.int 0))) (eC (.int 7))) lNil)) (eVar 1)))))))
def f__law_next : FF := runF 2 1 (b__law_next)
/-- 0 _law_found -/
def b__law_points : SS := (sSeq (sSet 0 (eDisp [("above", (eLst (lCons (eC (.str "keeps")) (lCons (eC (.str "wins")) lNil)))), ("back", (eLst (lCons (eC (.str "follows")) (lCons (eC (.str "own")) lNil)))), ("cut", (eLst (lCons (eC (.str "empty")) (lCons (eC (.str "values")) lNil))))])) (sSeq (sExpr (eDm mUpd (eVar 0) (lCons (eDisp [("spread", (eLst (lCons (eC (.str "now")) (lCons (eC (.str "one")) (lCons (eC (.str "read")) lNil))))), ("tie", (eLst (lCons (eC (.str "all")) (lCons (eC (.str "keeps")) (lCons (eC (.str "same")) lNil)))))]) lNil))) (sRet (eVar 0))))
def f__law_points : FF := runF 0 1 (b__law_points)
/-- 0 _law_h, 1 _law_good, 2 _law_rule_here, 3 _law_point -/
def l__law_rule_1 : SS := (sDPut (eVar 2) (eVar 3) (eBin oIx (eBin oDGet (eVar 1) (eVar 3)) (eCall f__law_next (lCons (eVar 0) (lCons (eCall bLen (lCons (eBin oDGet (eVar 1) (eVar 3)) lNil)) lNil)))))
def b__law_rule : SS := (sSeq (sSet 1 (eCall f__law_points lNil)) (sSeq (sSet 2 eNewD) (sSeq (sLock (pickE (eVar 1)) (sFor (iKeysL (eVar 1)) (PA.gName 3) l__law_rule_1)) (sRet (eVar 2)))))
def f__law_rule : FF := runF 1 3 (b__law_rule)
/-- 0 _law_h, 1 _law_rows, 2 _law_fields, 3 _law_levels, 4 _law_some, 5 _law_masters, 6 _law_row, 7 _law_t, 8 _law_word -/
def l__law_book_1 : SS := (sExpr (eLm mAppend (eVar 5) (lCons (eIf (tB (eBin oGt (eCall f__law_next (lCons (eVar 0) (lCons (eC (.int 4)) lNil))) (eC (.int 0)))) (eCall f__law_next (lCons (eVar 0) (lCons (eVar 6) lNil))) (eC .non)) lNil)))
def l__law_book_2 : EE := (eVar 8)
def l__law_book_3 : BB := (tB (eBin oGt (eCall f__law_next (lCons (eVar 0) (lCons (eC (.int 3)) lNil))) (eC (.int 0))))
def b__law_book : SS := (sSeq (sSet 5 (eLst (lCons (eC .non) lNil))) (sSeq (sFor (iRange (eC (.int 1)) (eBin oAdd (eC (.int 1)) (eCall f__law_next (lCons (eVar 0) (lCons (eVar 1) lNil))))) (PA.gName 6) l__law_book_1) (sSeq (sSet 7 (eLst (lCons (eCall bTuple (lCons (eVar 5) lNil)) (lCons (eBin oAdd (eC (.int 1)) (eCall f__law_next (lCons (eVar 0) (lCons (eVar 2) lNil)))) (lCons (eBin oAdd (eC (.int 2)) (eCall f__law_next (lCons (eVar 0) (lCons (eVar 3) lNil)))) (lCons (eCall f__law_rule (lCons (eVar 0) lNil)) (lCons (eTup lNil) lNil))))))) (sSeq (sIx (eVar 7) (eC (.int 4)) (eTupOf (lComp (iLoc (eVar 4)) (PA.gName 8) l__law_book_3 l__law_book_2 [8]))) (sRet (eVar 7))))))
def f__law_book : FF := runF 5 4 (b__law_book)
/-- 0 value -/
def b_is_integer : SS := (sRet (eAnd (eCall bIsi (lCons (eVar 0) (lCons (eC (.ty "int")) lNil))) (eNot (eCall bIsi (lCons (eVar 0) (lCons (eC (.ty "bool")) lNil))))))
def f_is_integer : FF := runF 1 0 (b_is_integer)
/-- 0 value, 1 least, 2 most -/
def b_is_between : SS := (sRet (eAnd (eCall f_is_integer (lCons (eVar 0) lNil)) (eChain oLe oLe (eVar 1) (eVar 0) (eVar 2))))
def f_is_between : FF := runF 3 0 (b_is_between)
/-- 0 value, 1 row, 2 master -/
def l_are_masters_1 : EE := (eOr (eBin oIsN (eVar 2) (eC .non)) (eCall f_is_between (lCons (eVar 2) (lCons (eC (.int 0)) (lCons (eBin oSub (eVar 1) (eC (.int 1))) lNil)))))
def b_are_masters : SS := (sSeq (sIf (tOr (tNot (tB (eCall bIsi (lCons (eVar 0) (lCons (eC (.ty "tuple")) lNil))))) (tNot (tB (eChain oLe oLe (eC (.int 1)) (eCall bLen (lCons (eVar 0) lNil)) (eC (.int 3)))))) (sRet (eC (.bl false))) sNil) (sRet (eAllOf (lComp (iEnumT (eVar 0)) (PA.gTup [1, 2]) tYes l_are_masters_1 [1, 2]))))
def f_are_masters : FF := runF 1 2 (b_are_masters)
/-- 0 rule, 1 point -/
def l_look_at_rule_1 : EE := (eBin oDIn (eVar 1) (eVar 0))
def l_look_at_rule_2 : SS := (sIf (tOr (tNot (tB (eCall bIsi (lCons (eBin oDGet (eVar 0) (eVar 1)) (lCons (eC (.ty "str")) lNil))))) (tB (eBin oNotIn (eBin oDGet (eVar 0) (eVar 1)) (eBin (oKGet kv_POINTS) (eC (.gl "?")) (eVar 1))))) (sRaiseN "InvalidRule" ["point"] (lCons (eVar 1) lNil)) sNil)
def b_look_at_rule : SS := (sSeq (sIf (tOr (tNot (tB (eCall bIsi (lCons (eVar 0) (lCons (eC (.ty "dict")) lNil))))) (tOr (tB (eBin oNe (eCall bLen (lCons (eVar 0) lNil)) (eLenK 5))) (tNot (tB (eAllOf (lComp (iKeysK ks_POINTS) (PA.gName 1) tYes l_look_at_rule_1 [1])))))) (sRaiseN "InvalidRule" ["point"] (lCons (eC (.str "")) lNil)) sNil) (sFor (iKeysK ks_POINTS) (PA.gName 1) l_look_at_rule_2))
def f_look_at_rule : FF := runF 1 1 (b_look_at_rule)
/-- 0 value, 1 word -/
def l_are_words_1 : EE := (eAnd (eCall bIsi (lCons (eVar 1) (lCons (eC (.ty "str")) lNil))) (eBin oIn (eVar 1) (eC (.tup [.str "cut", .str "drop", .str "loose", .str "reset", .str "tie"]))))
def b_are_words : SS := (sSeq (sIf (tOr (tNot (tB (eCall bIsi (lCons (eVar 0) (lCons (eC (.ty "tuple")) lNil))))) (tNot (tB (eAllOf (lComp (iTup (eVar 0)) (PA.gName 1) tYes l_are_words_1 [1]))))) (sRet (eC (.bl false))) sNil) (sRet (eBin oEq (eCall bList (lCons (eVar 0) lNil)) (eSortSet (eVar 0)))))
def f_are_words : FF := runF 1 1 (b_are_words)
/-- 0 self, 1 masters, 2 fields, 3 levels, 4 rule, 5 words, 6 point -/
def l_Book___init___1 : EE := (eVar 6)
def l_Book___init___2 : EE := (eBin oDGet (eVar 4) (eVar 6))
def b_Book___init__ : SS := (sSeq (sIf (tNot (tB (eCall f_are_masters (lCons (eVar 1) lNil)))) (sRaise0 "InvalidMasters") sNil) (sSeq (sIf (tOr (tNot (tB (eCall f_is_between (lCons (eVar 2) (lCons (eC (.int 1)) (lCons (eC (.int 2)) lNil)))))) (tNot (tB (eCall f_is_between (lCons (eVar 3) (lCons (eC (.int 2)) (lCons (eC (.int 3)) lNil))))))) (sRaise0 "InvalidSize") sNil) (sSeq (sExpr (eCall f_look_at_rule (lCons (eVar 4) lNil))) (sSeq (sIf (tNot (tB (eCall f_are_words (lCons (eVar 5) lNil)))) (sRaise0 "InvalidWords") sNil) (sSeq (sAttr "Book" (eVar 0) "tops" (eVar 1)) (sSeq (sAttr "Book" (eVar 0) "many_fields" (eVar 2)) (sSeq (sAttr "Book" (eVar 0) "many_values" (eVar 3)) (sSeq (sAttr "Book" (eVar 0) "points" (eDc (iKeysK ks_POINTS) (PA.gName 6) tYes l_Book___init___1 l_Book___init___2 [6])) (sAttr "Book" (eVar 0) "told_words" (eVar 5))))))))))
def f_Book___init__ : FF := runF 6 1 (b_Book___init__)
/-- 0 self -/
def b_Book_rule : SS := (sRet (eCall bDict (lCons (eAttr "Book" "points" (eVar 0)) lNil)))
def f_Book_rule : FF := runF 1 0 (b_Book_rule)
/-- 0 self -/
def b_Book_words : SS := (sRet (eAttr "Book" "told_words" (eVar 0)))
def f_Book_words : FF := runF 1 0 (b_Book_words)
/-- 0 self -/
def b_Book_levels : SS := (sRet (eAttr "Book" "many_values" (eVar 0)))
def f_Book_levels : FF := runF 1 0 (b_Book_levels)
/-- 0 self -/
def b_Book_fields : SS := (sRet (eAttr "Book" "many_fields" (eVar 0)))
def f_Book_fields : FF := runF 1 0 (b_Book_fields)
/-- 0 self -/
def b_Book_masters : SS := (sRet (eAttr "Book" "tops" (eVar 0)))
def f_Book_masters : FF := runF 1 0 (b_Book_masters)
/-- 0 self -/
def b_Book_frame : SS := (sRet (eTup (lCons (eAttr "Book" "tops" (eVar 0)) (lCons (eAttr "Book" "many_fields" (eVar 0)) (lCons (eAttr "Book" "many_values" (eVar 0)) (lCons (eAttr "Book" "told_words" (eVar 0)) lNil))))))
def f_Book_frame : FF := runF 1 0 (b_Book_frame)
/-- 0 self, 1 other -/
def b_Book___eq__ : SS := (sRet (eAnd (eCall (bIsC "Book") (lCons (eVar 1) (lCons (eC (.gl "Book")) lNil))) (eAnd (eBin oEqDs (eAttr "Book" "points" (eVar 0)) (eAttr "Book" "points" (eVar 1))) (eBin oEq (eMethS "Book" f_Book_frame (eVar 0) lNil) (eMethS "Book" f_Book_frame (eVar 1) lNil)))))
def f_Book___eq__ : FF := runF 2 0 (b_Book___eq__)
/-- 0 self, 1 point, 2 word, 3 rule -/
def b_Book_turned : SS := (sSeq (sIf (tOr (tNot (tB (eCall bIsi (lCons (eVar 1) (lCons (eC (.ty "str")) lNil))))) (tB (eBin (oKNotIn kv_POINTS) (eVar 1) (eC (.gl "?"))))) (sRaiseN "InvalidRule" ["point"] (lCons (eC (.str "")) lNil)) sNil) (sSeq (sSet 3 (eCall bDict (lCons (eAttr "Book" "points" (eVar 0)) lNil))) (sSeq (sDPut (eVar 3) (eVar 1) (eVar 2)) (sRet (eMake "Book" f_Book___init__ (lCons (eAttr "Book" "tops" (eVar 0)) (lCons (eAttr "Book" "many_fields" (eVar 0)) (lCons (eAttr "Book" "many_values" (eVar 0)) (lCons (eVar 3) (lCons (eAttr "Book" "told_words" (eVar 0)) lNil))))))))))
def f_Book_turned : FF := runF 3 1 (b_Book_turned)
/-- 0 _law_book_here, 1 _law_point, 2 _law_word, 3 _law_told_here, 4 e -/
def l__law_turned_1 : SS := (sExpr (eMethS "Book" f_Book_turned (eVar 0) (lCons (eVar 1) (lCons (eVar 2) lNil))))
def b__law_turned : SS := (sSeq (sSet 3 (eC .non)) (sSeq (sTryA l__law_turned_1 [⟨clF [("InvalidMasters", false), ("InvalidRule", true), ("InvalidSize", false), ("InvalidWords", false)], some 4, fun E => sSet 3 ((xFld "InvalidRule" "point") E)⟩]) (sRet (eVar 3))))
def f__law_turned : FF := runF 3 2 (b__law_turned)
/-- 0 _law_h, 1 _law_t, 2 _law_pick, 3 _law_odd, 4 _law_rule_here, 5 _law_point -/
def b__law_spoil : SS := (sSeq (sSet 2 (eCall f__law_next (lCons (eVar 0) (lCons (eC (.int 5)) lNil)))) (sIf (tB (eBin oEq (eVar 2) (eC (.int 0)))) (sSeq (sSet 3 (eLst (lCons (eTup lNil) (lCons (eC .non) (lCons (eLst (lCons (eC .non) lNil)) (lCons (eTup (lCons (eC (.int 0)) lNil)) (lCons (eTup (lCons (eC .non) (lCons (eC (.int 1)) lNil))) (lCons (eTup (lCons (eC .non) (lCons (eC (.bl true)) lNil))) (lCons (eTup (lCons (eC .non) (lCons (eNeg (eC (.int 1))) lNil))) (lCons (eBin oMul (eTup (lCons (eC .non) lNil)) (eC (.int 4))) (lCons (eTup (lCons (eC .non) (lCons (eC (.str "0")) lNil))) lNil))))))))))) (sIx (eVar 1) (eC (.int 0)) (eBin oIx (eBin oAdd (eVar 3) (eLst (lCons (eTup (lCons (eC .non) (lCons (eC (.int 0)) (lCons (eC (.int 2)) lNil)))) (lCons (eTup (lCons (eC .non) (lCons (eC (.int 0)) (lCons (eC (.int 1)) lNil)))) lNil)))) (eCall f__law_next (lCons (eVar 0) (lCons (eC (.int 11)) lNil)))))) (sIf (tB (eBin oEq (eVar 2) (eC (.int 1)))) (sIx (eVar 1) (eC (.int 1)) (eBin oIx (eLst (lCons (eC (.int 0)) (lCons (eC (.int 3)) (lCons (eC (.bl true)) (lCons (eC .non) (lCons (eC (.str "1")) (lCons (eC (.int 2)) lNil))))))) (eCall f__law_next (lCons (eVar 0) (lCons (eC (.int 6)) lNil))))) (sIf (tB (eBin oEq (eVar 2) (eC (.int 2)))) (sIx (eVar 1) (eC (.int 2)) (eBin oIx (eLst (lCons (eC (.int 1)) (lCons (eC (.int 4)) (lCons (eC (.bl true)) (lCons (eC .non) (lCons (eC (.str "2")) (lCons (eC (.int 3)) lNil))))))) (eCall f__law_next (lCons (eVar 0) (lCons (eC (.int 6)) lNil))))) (sIf (tB (eBin oEq (eVar 2) (eC (.int 3)))) (sSeq (sSet 4 (eIf (tB (eCall bIsi (lCons (eBin oIx (eVar 1) (eC (.int 3))) (lCons (eC (.ty "dict")) lNil)))) (eCall bDict (lCons (eBin oIx (eVar 1) (eC (.int 3))) lNil)) eNewD)) (sSeq (sSet 5 (eBin oIx (eLst (lCons (eC (.str "above")) (lCons (eC (.str "back")) (lCons (eC (.str "cut")) (lCons (eC (.str "spread")) (lCons (eC (.str "tie")) (lCons (eC (.str "more")) lNil))))))) (eCall f__law_next (lCons (eVar 0) (lCons (eC (.int 6)) lNil))))) (sSeq (sSet 3 (eCall f__law_next (lCons (eVar 0) (lCons (eC (.int 4)) lNil)))) (sSeq (sIf (tB (eBin oEq (eVar 3) (eC (.int 0)))) (sExpr (eDPop2 (eVar 4) (eVar 5) (eC .non))) (sDPut (eVar 4) (eVar 5) (eBin oIx (eLst (lCons (eC (.str "")) (lCons (eC (.str "keeps")) (lCons (eC .non) (lCons (eC (.str "own")) lNil))))) (eVar 3)))) (sIx (eVar 1) (eC (.int 3)) (eIf (tB (eBin oGt (eCall f__law_next (lCons (eVar 0) (lCons (eC (.int 4)) lNil))) (eC (.int 0)))) (eVar 4) (eBin oIx (eLst (lCons (eC .non) (lCons eNewD (lCons (eLst lNil) (lCons (eC (.str "rule")) lNil))))) (eVar 3)))))))) (sIx (eVar 1) (eC (.int 4)) (eBin oIx (eLst (lCons (eC .non) (lCons (eLst (lCons (eC (.str "cut")) lNil)) (lCons (eTup (lCons (eC (.str "tie")) (lCons (eC (.str "cut")) lNil))) (lCons (eTup (lCons (eC (.str "cut")) (lCons (eC (.str "cut")) lNil))) (lCons (eTup (lCons (eC (.str "change")) lNil)) (lCons (eTup (lCons (eC (.int 1)) lNil)) (lCons (eTup lNil) lNil)))))))) (eCall f__law_next (lCons (eVar 0) (lCons (eC (.int 7)) lNil))))))))))
def f__law_spoil : FF := runF 2 4 (b__law_spoil)
/-- 0 _law_t, 1 _law_told_here, 2 e -/
def l__law_told_1 : SS := (sExpr (eMake "Book" f_Book___init__ (lCons (eBin oIx (eVar 0) (eC (.int 0))) (lCons (eBin oIx (eVar 0) (eC (.int 1))) (lCons (eBin oIx (eVar 0) (eC (.int 2))) (lCons (eBin oIx (eVar 0) (eC (.int 3))) (lCons (eBin oIx (eVar 0) (eC (.int 4))) lNil)))))))
def b__law_told : SS := (sSeq (sSet 1 (eC .non)) (sSeq (sTryA l__law_told_1 [⟨clF [("InvalidMasters", true), ("InvalidRule", false), ("InvalidSize", false), ("InvalidWords", false)], some 2, fun E => sSet 1 ((xIf (xIsE (clF [("InvalidMasters", true)])) (fun _ => (eC (.str "masters"))) (fun _ => (eC (.str "class")))) E)⟩, ⟨clF [("InvalidMasters", false), ("InvalidRule", false), ("InvalidSize", true), ("InvalidWords", false)], none, fun E => sSet 1 ((fun _ => (eC (.str "size"))) E)⟩, ⟨clF [("InvalidMasters", false), ("InvalidRule", true), ("InvalidSize", false), ("InvalidWords", false)], some 2, fun E => sSet 1 ((xTup2 (fun _ => (eC (.str "rule"))) (xFld "InvalidRule" "point")) E)⟩, ⟨clF [("InvalidMasters", false), ("InvalidRule", false), ("InvalidSize", false), ("InvalidWords", true)], none, fun E => sSet 1 ((fun _ => (eC (.str "words"))) E)⟩]) (sRet (eVar 1))))
def f__law_told : FF := runF 1 2 (b__law_told)
/-- 0 _law_value, 1 _law_low, 2 _law_high -/
def b__law_int : SS := (sRet (eAnd (eCall bIsi (lCons (eVar 0) (lCons (eC (.ty "int")) lNil))) (eAnd (eNot (eCall bIsi (lCons (eVar 0) (lCons (eC (.ty "bool")) lNil)))) (eChain oLe oLe (eVar 1) (eVar 0) (eVar 2)))))
def f__law_int : FF := runF 3 0 (b__law_int)
/-- 0 _law_t, 1 _law_row, 2 _law_good, 3 _law_point, 4 _law_words, 5 _law_one -/
def l__law_due_1 : SS := (sIf (tAnd (tB (eBin oNotN (eBin oIx (eBin oIx (eVar 0) (eC (.int 0))) (eVar 1)) (eC .non))) (tNot (tB (eCall f__law_int (lCons (eBin oIx (eBin oIx (eVar 0) (eC (.int 0))) (eVar 1)) (lCons (eC (.int 0)) (lCons (eBin oSub (eVar 1) (eC (.int 1))) lNil))))))) (sRet (eC (.str "masters"))) sNil)
def l__law_due_2 : EE := (eBin oDIn (eVar 3) (eBin oIx (eVar 0) (eC (.int 3))))
def l__law_due_3 : SS := (sIf (tB (eBin oNotIn (eBin oDGet (eBin oIx (eVar 0) (eC (.int 3))) (eVar 3)) (eBin oDGet (eVar 2) (eVar 3)))) (sRet (eTup (lCons (eC (.str "rule")) (lCons (eVar 3) lNil)))) sNil)
def l__law_due_4 : EE := (eAnd (eCall bIsi (lCons (eVar 5) (lCons (eC (.ty "str")) lNil))) (eBin oIn (eVar 5) (eVar 4)))
def b__law_due : SS := (sSeq (sIf (tOr (tNot (tB (eCall bIsi (lCons (eBin oIx (eVar 0) (eC (.int 0))) (lCons (eC (.ty "tuple")) lNil))))) (tNot (tB (eChain oLe oLe (eC (.int 1)) (eCall bLen (lCons (eBin oIx (eVar 0) (eC (.int 0))) lNil)) (eC (.int 3)))))) (sRet (eC (.str "masters"))) sNil) (sSeq (sFor (iRange0 (eCall bLen (lCons (eBin oIx (eVar 0) (eC (.int 0))) lNil))) (PA.gName 1) l__law_due_1) (sSeq (sIf (tOr (tNot (tB (eCall f__law_int (lCons (eBin oIx (eVar 0) (eC (.int 1))) (lCons (eC (.int 1)) (lCons (eC (.int 2)) lNil)))))) (tNot (tB (eCall f__law_int (lCons (eBin oIx (eVar 0) (eC (.int 2))) (lCons (eC (.int 2)) (lCons (eC (.int 3)) lNil))))))) (sRet (eC (.str "size"))) sNil) (sSeq (sSet 2 (eCall f__law_points lNil)) (sSeq (sIf (tOr (tNot (tB (eCall bIsi (lCons (eBin oIx (eVar 0) (eC (.int 3))) (lCons (eC (.ty "dict")) lNil))))) (tOr (tB (eBin oNe (eCall bLen (lCons (eBin oIx (eVar 0) (eC (.int 3))) lNil)) (eC (.int 5)))) (tNot (tB (eAllOf (xLock (pickE (eVar 2)) (lComp (iKeysL (eVar 2)) (PA.gName 3) tYes l__law_due_2 [3]))))))) (sRet (eTup (lCons (eC (.str "rule")) (lCons (eC (.str "")) lNil)))) sNil) (sSeq (sLock (pickE (eVar 2)) (sFor (iKeysL (eVar 2)) (PA.gName 3) l__law_due_3)) (sSeq (sSet 4 (eLst (lCons (eC (.str "cut")) (lCons (eC (.str "drop")) (lCons (eC (.str "loose")) (lCons (eC (.str "reset")) (lCons (eC (.str "tie")) lNil))))))) (sSeq (sIf (tOr (tNot (tB (eCall bIsi (lCons (eBin oIx (eVar 0) (eC (.int 4))) (lCons (eC (.ty "tuple")) lNil))))) (tNot (tB (eAllOf (lComp (iTup (eBin oIx (eVar 0) (eC (.int 4)))) (PA.gName 5) tYes l__law_due_4 [5]))))) (sRet (eC (.str "words"))) sNil) (sRet (eIf (tB (eBin oEq (eCall bList (lCons (eBin oIx (eVar 0) (eC (.int 4))) lNil)) (eSortSet (eBin oIx (eVar 0) (eC (.int 4)))))) (eC .non) (eC (.str "words"))))))))))))
def f__law_due : FF := runF 1 5 (b__law_due)
/-- 0 _law_script, 1 _law_h, 2 _law_t, 3 _law_rule_here, 4 _law_book_here, 5 _law_good, 6 _law_point, 7 _law_word, 8 _law_turn, 9 _law_other, 10 _law_odd -/
def l_law_1 (ns : List Int) : SS := (sSeq (sSet 9 (eMethS "Book" f_Book_turned (eVar 4) (lCons (eVar 6) (lCons (eVar 7) lNil)))) (sIf (tOr (tB (eBin oNe (eBin oDGet (eProp "Book" f_Book_rule (eVar 9)) (eVar 6)) (eVar 7))) (tB (eBin oNe (eBin (oOwnEq "Book" f_Book___eq__) (eVar 9) (eVar 4)) (eBin oEq (eVar 7) (eBin oDGet (eBin oIx (eVar 2) (eC (.int 3))) (eVar 6)))))) (sRet (eC (.bl false))) sNil))
def l_law_2 (ns : List Int) : EE := (eCall f__law_turned (lCons (eVar 4) (lCons (eVar 6) (lCons (eVar 10) lNil))))
def l_law_3 (ns : List Int) : EE := (eCall f__law_turned (lCons (eVar 4) (lCons (eVar 10) (lCons (eC (.str "now")) lNil))))
def l_law_4 (ns : List Int) : SS := (sExpr (eCall f__law_spoil (lCons (eVar 1) (lCons (eVar 2) lNil))))
def b_law (ns : List Int) : SS := (sSeq (sSet 1 (eCall (f__law_mix ns) (lCons (eVar 0) (lCons (eC (.int 6)) lNil)))) (sSeq (sSet 2 (eCall f__law_book (lCons (eVar 1) (lCons (eC (.int 3)) (lCons (eC (.int 2)) (lCons (eC (.int 2)) (lCons (eLst (lCons (eC (.str "cut")) (lCons (eC (.str "drop")) (lCons (eC (.str "loose")) (lCons (eC (.str "reset")) (lCons (eC (.str "tie")) lNil)))))) lNil))))))) (sSeq (sSet 3 (eRevIt (eBin oIx (eVar 2) (eC (.int 3))))) (sSeq (sSet 4 (eMake "Book" f_Book___init__ (lCons (eBin oIx (eVar 2) (eC (.int 0))) (lCons (eBin oIx (eVar 2) (eC (.int 1))) (lCons (eBin oIx (eVar 2) (eC (.int 2))) (lCons (eVar 3) (lCons (eBin oIx (eVar 2) (eC (.int 4))) lNil))))))) (sSeq (sExpr (eDClear (eVar 3))) (sSeq (sExpr (eDClear (eProp "Book" f_Book_rule (eVar 4)))) (sSeq (sIf (tB (eBin oNeV (eLst (lCons (eProp "Book" f_Book_masters (eVar 4)) (lCons (eProp "Book" f_Book_fields (eVar 4)) (lCons (eProp "Book" f_Book_levels (eVar 4)) (lCons (eProp "Book" f_Book_rule (eVar 4)) (lCons (eProp "Book" f_Book_words (eVar 4)) lNil)))))) (eVar 2))) (sRet (eC (.bl false))) sNil) (sSeq (sIf (tOr (tB (eBin oNe (eCall bListD (lCons (eProp "Book" f_Book_rule (eVar 4)) lNil)) (eCall bSorted (lCons (eCall bListD (lCons (eBin oIx (eVar 2) (eC (.int 3))) lNil)) lNil)))) (tOr (tB (eBin (oOwnEqL "Book" f_Book___eq__) (eVar 4) (eVar 2))) (tNot (tB (eBin (oOwnEq "Book" f_Book___eq__) (eVar 4) (eMake "Book" f_Book___init__ (lCons (eBin oIx (eVar 2) (eC (.int 0))) (lCons (eBin oIx (eVar 2) (eC (.int 1))) (lCons (eBin oIx (eVar 2) (eC (.int 2))) (lCons (eBin oIx (eVar 2) (eC (.int 3))) (lCons (eBin oIx (eVar 2) (eC (.int 4))) lNil))))))))))) (sRet (eC (.bl false))) sNil) (sSeq (sSet 5 (eCall f__law_points lNil)) (sSeq (sSet 6 (eBin oIx (eCall bListD (lCons (eVar 5) lNil)) (eCall f__law_next (lCons (eVar 1) (lCons (eC (.int 5)) lNil))))) (sSeq (sFor (iLoc (eBin oDGet (eVar 5) (eVar 6))) (PA.gName 7) (l_law_1 ns)) (sSeq (sIf (tB (eBin oNe (eKeep (lComp (iTmp (lDisp (lCons (eC (.str "none")) (lCons (eC .non) (lCons (eC (.int 5)) lNil))))) (PA.gName 10) tYes (l_law_2 ns) [10])) (eBin oMulL (eLst (lCons (eVar 6) lNil)) (eC (.int 3))))) (sRet (eC (.bl false))) sNil) (sSeq (sIf (tB (eBin oNe (eKeep (lComp (iTmp (lDisp (lCons (eC (.str "none")) (lCons (eC .non) (lCons (eTup lNil) lNil))))) (PA.gName 10) tYes (l_law_3 ns) [10])) (eBin oMulL (eLst (lCons (eC (.str "")) lNil)) (eC (.int 3))))) (sRet (eC (.bl false))) sNil) (sSeq (sFor (iRange0 (eCall f__law_next (lCons (eVar 1) (lCons (eC (.int 3)) lNil)))) (PA.gName 8) (l_law_4 ns)) (sRet (eBin oEq (eCall f__law_told (lCons (eVar 2) lNil)) (eCall f__law_due (lCons (eVar 2) lNil))))))))))))))))))
def f_law (ns : List Int) : FF := runF 1 10 (b_law ns)
end K06
set_option maxRecDepth 100000
set_option maxHeartbeats 4000000
/-! Drv: each def does what Sem says. Printed by gen.py. -/
namespace K06
open PySem PySem.Spec PyProof.Rows L2 PA PL
def top (i : Nat) : Stmt := PySem.Challenge.pw_copyfollows_k06_books_refused.main.body.getD i (.Pass ⟨0, 0, 0, 0⟩)
abbrev st__law_mix : Stmt := top 17
abbrev st__law_next : Stmt := top 18
abbrev st__law_points : Stmt := top 19
abbrev st__law_rule : Stmt := top 20
abbrev st__law_book : Stmt := top 21
abbrev st_is_integer : Stmt := top 10
abbrev st_is_between : Stmt := top 11
abbrev st_are_masters : Stmt := top 12
abbrev st_look_at_rule : Stmt := top 14
abbrev st_are_words : Stmt := top 13
abbrev st_Book___init__ : Stmt := inClass (top 15) 1
abbrev st_Book_rule : Stmt := inClass (top 15) 5
abbrev st_Book_words : Stmt := inClass (top 15) 6
abbrev st_Book_levels : Stmt := inClass (top 15) 4
abbrev st_Book_fields : Stmt := inClass (top 15) 3
abbrev st_Book_masters : Stmt := inClass (top 15) 2
abbrev st_Book_frame : Stmt := inClass (top 15) 8
abbrev st_Book___eq__ : Stmt := inClass (top 15) 7
abbrev st_Book_turned : Stmt := inClass (top 15) 9
abbrev st__law_turned : Stmt := top 26
abbrev st__law_spoil : Stmt := top 24
abbrev st__law_told : Stmt := top 25
abbrev st__law_int : Stmt := top 22
abbrev st__law_due : Stmt := top 23
abbrev st_law : Stmt := top 27
abbrev st_InvalidRule___init__ : Stmt := inClass (top 4) 0
/-- what the top has written -/
structure Fx (C : Cz) : Prop where
  c_Book : GlA C "Book" (.gl "Book")
  d_POINTS : KdA C "POINTS" kv_POINTS
  e_InvalidMasters : ExcA0 C "InvalidMasters"
  e_InvalidSize : ExcA0 C "InvalidSize"
  e_InvalidWords : ExcA0 C "InvalidWords"
  g_MOST_ROWS : GlA C "MOST_ROWS" (.int 3)
  g_WORDS : GlA C "WORDS" (.tup [.str "cut", .str "drop", .str "loose", .str "reset", .str "tie"])
  i_Book : IsiA C "Book"
  k_POINTS : KdK C "POINTS" ks_POINTS
  l_Book : PySem.W.notFirst C.K (C.ad "Book") (.type "list") = true
  m_InvalidMasters__InvalidMasters : PySem.W.exmOne C.K (.ref (C.ad "InvalidMasters")) (.ref (C.ad "InvalidMasters")) = some true
  m_InvalidMasters__InvalidRule : PySem.W.exmOne C.K (.ref (C.ad "InvalidMasters")) (.ref (C.ad "InvalidRule")) = some false
  m_InvalidMasters__InvalidSize : PySem.W.exmOne C.K (.ref (C.ad "InvalidMasters")) (.ref (C.ad "InvalidSize")) = some false
  m_InvalidMasters__InvalidWords : PySem.W.exmOne C.K (.ref (C.ad "InvalidMasters")) (.ref (C.ad "InvalidWords")) = some false
  m_InvalidRule__InvalidMasters : PySem.W.exmOne C.K (.ref (C.ad "InvalidRule")) (.ref (C.ad "InvalidMasters")) = some false
  m_InvalidRule__InvalidRule : PySem.W.exmOne C.K (.ref (C.ad "InvalidRule")) (.ref (C.ad "InvalidRule")) = some true
  m_InvalidRule__InvalidSize : PySem.W.exmOne C.K (.ref (C.ad "InvalidRule")) (.ref (C.ad "InvalidSize")) = some false
  m_InvalidRule__InvalidWords : PySem.W.exmOne C.K (.ref (C.ad "InvalidRule")) (.ref (C.ad "InvalidWords")) = some false
  m_InvalidSize__InvalidMasters : PySem.W.exmOne C.K (.ref (C.ad "InvalidSize")) (.ref (C.ad "InvalidMasters")) = some false
  m_InvalidSize__InvalidRule : PySem.W.exmOne C.K (.ref (C.ad "InvalidSize")) (.ref (C.ad "InvalidRule")) = some false
  m_InvalidSize__InvalidSize : PySem.W.exmOne C.K (.ref (C.ad "InvalidSize")) (.ref (C.ad "InvalidSize")) = some true
  m_InvalidSize__InvalidWords : PySem.W.exmOne C.K (.ref (C.ad "InvalidSize")) (.ref (C.ad "InvalidWords")) = some false
  m_InvalidWords__InvalidMasters : PySem.W.exmOne C.K (.ref (C.ad "InvalidWords")) (.ref (C.ad "InvalidMasters")) = some false
  m_InvalidWords__InvalidRule : PySem.W.exmOne C.K (.ref (C.ad "InvalidWords")) (.ref (C.ad "InvalidRule")) = some false
  m_InvalidWords__InvalidSize : PySem.W.exmOne C.K (.ref (C.ad "InvalidWords")) (.ref (C.ad "InvalidSize")) = some false
  m_InvalidWords__InvalidWords : PySem.W.exmOne C.K (.ref (C.ad "InvalidWords")) (.ref (C.ad "InvalidWords")) = some true
  n_InvalidRule : ExcAN C "InvalidRule" ["point"]
  s_Book_many_fields : SltA C "Book" "many_fields"
  s_Book_many_values : SltA C "Book" "many_values"
  s_Book_points : SltA C "Book" "points"
  s_Book_told_words : SltA C "Book" "told_words"
  s_Book_tops : SltA C "Book" "tops"
  w_CopyError__InvalidMasters : XiA C "CopyError" (clF [("InvalidMasters", true)])
  x_InvalidMasters : C.mg "InvalidMasters" = some (.ref (C.ad "InvalidMasters"))
  x_InvalidRule : C.mg "InvalidRule" = some (.ref (C.ad "InvalidRule"))
  x_InvalidSize : C.mg "InvalidSize" = some (.ref (C.ad "InvalidSize"))
  x_InvalidWords : C.mg "InvalidWords" = some (.ref (C.ad "InvalidWords"))
  y_InvalidRule_point : XfA C "InvalidRule" "point"
  z_all : C.mg "all" = none
  z_bool : C.mg "bool" = none
  z_dict : C.mg "dict" = none
  z_enumerate : C.mg "enumerate" = none
  z_int : C.mg "int" = none
  z_isinstance : C.mg "isinstance" = none
  z_len : C.mg "len" = none
  z_list : C.mg "list" = none
  z_max : C.mg "max" = none
  z_range : C.mg "range" = none
  z_set : C.mg "set" = none
  z_sorted : C.mg "sorted" = none
  z_str : C.mg "str" = none
  z_tuple : C.mg "tuple" = none
  D__law_mix : ∃ f fd, L2.Fun C.K "_law_mix" "_law_mix" st__law_mix f fd ∧ Binds C.K fd ["_law_script", "_law_seed"] [] ∧ C.mg "_law_mix" = some (.ref f) ∧ PySem.W.keepIn C.K (.ref f) = true
  D__law_next : ∃ f fd, L2.Fun C.K "_law_next" "_law_next" st__law_next f fd ∧ Binds C.K fd ["_law_h", "_law_bound"] [] ∧ C.mg "_law_next" = some (.ref f) ∧ PySem.W.keepIn C.K (.ref f) = true
  D__law_points : ∃ f fd, L2.Fun C.K "_law_points" "_law_points" st__law_points f fd ∧ Binds C.K fd [] [] ∧ C.mg "_law_points" = some (.ref f) ∧ PySem.W.keepIn C.K (.ref f) = true
  D__law_rule : ∃ f fd, L2.Fun C.K "_law_rule" "_law_rule" st__law_rule f fd ∧ Binds C.K fd ["_law_h"] [] ∧ C.mg "_law_rule" = some (.ref f) ∧ PySem.W.keepIn C.K (.ref f) = true
  D__law_book : ∃ f fd, L2.Fun C.K "_law_book" "_law_book" st__law_book f fd ∧ Binds C.K fd ["_law_h", "_law_rows", "_law_fields", "_law_levels", "_law_some"] [] ∧ C.mg "_law_book" = some (.ref f) ∧ PySem.W.keepIn C.K (.ref f) = true
  D_is_integer : ∃ f fd, L2.Fun C.K "is_integer" "is_integer" st_is_integer f fd ∧ Binds C.K fd ["value"] [] ∧ C.mg "is_integer" = some (.ref f) ∧ PySem.W.keepIn C.K (.ref f) = true
  D_is_between : ∃ f fd, L2.Fun C.K "is_between" "is_between" st_is_between f fd ∧ Binds C.K fd ["value", "least", "most"] [] ∧ C.mg "is_between" = some (.ref f) ∧ PySem.W.keepIn C.K (.ref f) = true
  D_are_masters : ∃ f fd, L2.Fun C.K "are_masters" "are_masters" st_are_masters f fd ∧ Binds C.K fd ["value"] [] ∧ C.mg "are_masters" = some (.ref f) ∧ PySem.W.keepIn C.K (.ref f) = true
  D_look_at_rule : ∃ f fd, L2.Fun C.K "look_at_rule" "look_at_rule" st_look_at_rule f fd ∧ Binds C.K fd ["rule"] [] ∧ C.mg "look_at_rule" = some (.ref f) ∧ PySem.W.keepIn C.K (.ref f) = true
  D_are_words : ∃ f fd, L2.Fun C.K "are_words" "are_words" st_are_words f fd ∧ Binds C.K fd ["value"] [] ∧ C.mg "are_words" = some (.ref f) ∧ PySem.W.keepIn C.K (.ref f) = true
  D_Book___init__ : ∃ f fd, L2.Fun C.K "__init__" "Book.__init__" st_Book___init__ f fd ∧ Binds C.K fd ["self", "masters", "fields", "levels", "rule", "words"] [] ∧ Mk C.K (C.ad "Book") f ∧ C.mg "Book" = some (.ref (C.ad "Book"))
  D_Book_rule : ∃ f fd, L2.Fun C.K "rule" "Book.rule" st_Book_rule f fd ∧ Binds C.K fd ["self"] [] ∧ (∃ p, PropOf C.K (C.ad "Book") "rule" p f) ∧ SlX.SCls C.K (C.ad "Book") ∧ ∃ names, C.sl "Book" = some names
  D_Book_words : ∃ f fd, L2.Fun C.K "words" "Book.words" st_Book_words f fd ∧ Binds C.K fd ["self"] [] ∧ (∃ p, PropOf C.K (C.ad "Book") "words" p f) ∧ SlX.SCls C.K (C.ad "Book") ∧ ∃ names, C.sl "Book" = some names
  D_Book_levels : ∃ f fd, L2.Fun C.K "levels" "Book.levels" st_Book_levels f fd ∧ Binds C.K fd ["self"] [] ∧ (∃ p, PropOf C.K (C.ad "Book") "levels" p f) ∧ SlX.SCls C.K (C.ad "Book") ∧ ∃ names, C.sl "Book" = some names
  D_Book_fields : ∃ f fd, L2.Fun C.K "fields" "Book.fields" st_Book_fields f fd ∧ Binds C.K fd ["self"] [] ∧ (∃ p, PropOf C.K (C.ad "Book") "fields" p f) ∧ SlX.SCls C.K (C.ad "Book") ∧ ∃ names, C.sl "Book" = some names
  D_Book_masters : ∃ f fd, L2.Fun C.K "masters" "Book.masters" st_Book_masters f fd ∧ Binds C.K fd ["self"] [] ∧ (∃ p, PropOf C.K (C.ad "Book") "masters" p f) ∧ SlX.SCls C.K (C.ad "Book") ∧ ∃ names, C.sl "Book" = some names
  D_Book_frame : ∃ f fd, L2.Fun C.K "frame" "Book.frame" st_Book_frame f fd ∧ Binds C.K fd ["self"] [] ∧ Meth C.K (C.ad "Book") "frame" f ∧ SlX.SCls C.K (C.ad "Book") ∧ ∃ names, C.sl "Book" = some names
  D_Book___eq__ : ∃ f fd, L2.Fun C.K "__eq__" "Book.__eq__" st_Book___eq__ f fd ∧ Binds C.K fd ["self", "other"] [] ∧ PySem.W.findIn C.K (.ref (C.ad "Book")) "__eq__" = some (some (.ref f)) ∧ PySem.W.isFn C.K (.ref f) = true ∧ PySem.W.notFirst C.K (C.ad "Book") (.ref (C.ad "Book")) = true ∧ SlX.SCls C.K (C.ad "Book") ∧ ∃ names, C.sl "Book" = some names
  D_Book_turned : ∃ f fd, L2.Fun C.K "turned" "Book.turned" st_Book_turned f fd ∧ Binds C.K fd ["self", "point", "word"] [] ∧ Meth C.K (C.ad "Book") "turned" f ∧ SlX.SCls C.K (C.ad "Book") ∧ ∃ names, C.sl "Book" = some names
  D__law_turned : ∃ f fd, L2.Fun C.K "_law_turned" "_law_turned" st__law_turned f fd ∧ Binds C.K fd ["_law_book_here", "_law_point", "_law_word"] [] ∧ C.mg "_law_turned" = some (.ref f) ∧ PySem.W.keepIn C.K (.ref f) = true
  D__law_spoil : ∃ f fd, L2.Fun C.K "_law_spoil" "_law_spoil" st__law_spoil f fd ∧ Binds C.K fd ["_law_h", "_law_t"] [] ∧ C.mg "_law_spoil" = some (.ref f) ∧ PySem.W.keepIn C.K (.ref f) = true
  D__law_told : ∃ f fd, L2.Fun C.K "_law_told" "_law_told" st__law_told f fd ∧ Binds C.K fd ["_law_t"] [] ∧ C.mg "_law_told" = some (.ref f) ∧ PySem.W.keepIn C.K (.ref f) = true
  D__law_int : ∃ f fd, L2.Fun C.K "_law_int" "_law_int" st__law_int f fd ∧ Binds C.K fd ["_law_value", "_law_low", "_law_high"] [] ∧ C.mg "_law_int" = some (.ref f) ∧ PySem.W.keepIn C.K (.ref f) = true
  D__law_due : ∃ f fd, L2.Fun C.K "_law_due" "_law_due" st__law_due f fd ∧ Binds C.K fd ["_law_t"] [] ∧ C.mg "_law_due" = some (.ref f) ∧ PySem.W.keepIn C.K (.ref f) = true
  D_law : ∃ f fd, L2.Fun C.K "law" "law" st_law f fd ∧ Binds C.K fd ["_law_script"] [] ∧ C.mg "law" = some (.ref f) ∧ PySem.W.keepIn C.K (.ref f) = true
theorem sc_InvalidRule___init__ : FnScope ["self", "point"] ["self", "point"] (defScope st_InvalidRule___init__) := ⟨rfl, rfl, rfl, by decide +kernel, rfl, by decide +kernel, by decide +kernel⟩
section
variable {C : Cz}
abbrev nm__law_mix : List Str := ["_law_script", "_law_seed", "_law_state", "_law_cell"]
theorem sc__law_mix : FnScope nm__law_mix ["_law_script", "_law_seed"] (defScope st__law_mix) := ⟨rfl, rfl, rfl, by decide +kernel, rfl, by decide +kernel, by decide +kernel⟩
theorem ok__law_mix (T : Fx C) {f : Addr} {fd : FuncData} (F : L2.Fun C.K "_law_mix" "_law_mix" st__law_mix f fd) : FnA C 1 f fd ["_law_script", "_law_seed"] (f__law_mix C.scr) := by
  exact fn_okA (k := 0) F sc__law_mix fun cdv A outer s H E g => (rs_cons (rs_set 2 g.nd (re_var 1)) (rs_cons (rs_for g (L2.passes_of rfl) (ri_scr g (re_var 0)) (rg_name g.nd) (rs_one (rs_set 2 g.nd (re_bin op_modA (re_callTy g cr_int T.z_int (by decide +kernel) (rl_cons (re_bin (op_addA g.hK) (re_bin (op_addA g.hK) (re_bin (op_mulA g) (re_var 2) re_int) (re_bin op_modA (re_callTy g cr_int T.z_int (by decide +kernel) (rl_cons (re_var 3) rl_nil)) re_int)) re_int) rl_nil)) re_int)))) (rs_one (rs_ret (re_lst (rl_cons (re_var 2) (rl_cons (re_callTy g (cr_listS g) T.z_list (by decide +kernel) (rl_cons (re_var 0) rl_nil)) (rl_cons re_int (rl_cons re_int rl_nil)))))))))
theorem cx__law_mix (T : Fx C) : CalA C 1 "_law_mix" (f__law_mix C.scr) := by
  obtain ⟨f, fd, F, b, m, kp⟩ := T.D__law_mix
  exact ⟨⟨f, fd, _, ok__law_mix T F, m, kp, b⟩⟩
abbrev nm__law_next : List Str := ["_law_h", "_law_bound", "_law_cell"]
theorem sc__law_next : FnScope nm__law_next ["_law_h", "_law_bound"] (defScope st__law_next) := ⟨rfl, rfl, rfl, by decide +kernel, rfl, by decide +kernel, by decide +kernel⟩
theorem ok__law_next (T : Fx C) {f : Addr} {fd : FuncData} (F : L2.Fun C.K "_law_next" "_law_next" st__law_next f fd) : FnA C 1 f fd ["_law_h", "_law_bound"] (f__law_next) := by
  exact fn_okA (k := 0) F sc__law_next fun cdv A outer s H E g => (rs_cons (rs_set 2 g.nd (re_ix g.hK (re_bin (op_addA g.hK) (re_ix g.hK (re_var 0) re_int) (re_lst (rl_cons re_int rl_nil))) (re_bin op_modA (re_callTy g cr_int T.z_int (by decide +kernel) (rl_cons (re_ix g.hK (re_var 0) re_int) rl_nil)) (re_callB g (cr_max2 g) T.z_max (by decide +kernel) (rl_cons re_int (rl_cons (re_callB g (cr_len g) T.z_len (by decide +kernel) (rl_cons (re_ix g.hK (re_var 0) re_int) rl_nil)) rl_nil)))))) (rs_cons (rs_if (rt_cmp op_geA (re_var 2) (re_bin op_powA re_int re_int)) (rs_cons (rs_ix (re_bin op_divA (re_var 2) (re_var 1)) (re_ix g.hK (re_var 0) re_int) (re_bin op_modA (re_callTy g cr_int T.z_int (by decide +kernel) (rl_cons (re_ix g.hK (re_var 0) re_int) rl_nil)) (re_callB g (cr_len g) T.z_len (by decide +kernel) (rl_cons (re_ix g.hK (re_var 0) re_int) rl_nil)))) (rs_one (rs_ret (re_bin op_modA (re_callTy g cr_int T.z_int (by decide +kernel) (rl_cons (re_var 2) rl_nil)) (re_var 1))))) rs_nil) (rs_cons (rs_ix (re_bin op_modA (re_callTy g cr_int T.z_int (by decide +kernel) (rl_cons (re_bin (op_addA g.hK) (re_bin (op_addA g.hK) (re_bin (op_mulA g) (re_ix g.hK (re_var 0) re_int) re_int) (re_bin (op_mulA g) (re_var 2) re_int)) re_int) rl_nil)) re_int) (re_var 0) re_int) (rs_cons (rs_ix (re_bin (op_addA g.hK) (re_ix g.hK (re_var 0) re_int) re_int) (re_var 0) re_int) (rs_one (rs_ret (re_bin op_modA (re_callTy g cr_int T.z_int (by decide +kernel) (rl_cons (re_bin op_divA (re_ix g.hK (re_var 0) re_int) re_int) rl_nil)) (re_var 1))))))))
theorem cx__law_next (T : Fx C) : CalA C 1 "_law_next" (f__law_next) := by
  obtain ⟨f, fd, F, b, m, kp⟩ := T.D__law_next
  exact ⟨⟨f, fd, _, ok__law_next T F, m, kp, b⟩⟩
abbrev nm__law_points : List Str := ["_law_found"]
theorem sc__law_points : FnScope nm__law_points [] (defScope st__law_points) := ⟨rfl, rfl, rfl, by decide +kernel, rfl, by decide +kernel, by decide +kernel⟩
theorem ok__law_points (T : Fx C) {f : Addr} {fd : FuncData} (F : L2.Fun C.K "_law_points" "_law_points" st__law_points f fd) : FnA C 1 f fd [] (f__law_points) := by
  exact fn_okA (k := 0) F sc__law_points fun cdv A outer s H E g => (rs_cons (rs_set 0 g.nd (re_disp (RD.cons (re_lst (rl_cons re_str (rl_cons re_str rl_nil))) (RD.cons (re_lst (rl_cons re_str (rl_cons re_str rl_nil))) (RD.cons (re_lst (rl_cons re_str (rl_cons re_str rl_nil))) RD.nil))))) (rs_cons (rs_expr (re_upd (re_var 0) (rl_cons (re_disp (RD.cons (re_lst (rl_cons re_str (rl_cons re_str (rl_cons re_str rl_nil)))) (RD.cons (re_lst (rl_cons re_str (rl_cons re_str (rl_cons re_str rl_nil)))) RD.nil))) rl_nil))) (rs_one (rs_ret (re_var 0)))))
theorem cx__law_points (T : Fx C) : CalA C 1 "_law_points" (f__law_points) := by
  obtain ⟨f, fd, F, b, m, kp⟩ := T.D__law_points
  exact ⟨⟨f, fd, _, ok__law_points T F, m, kp, b⟩⟩
abbrev nm__law_rule : List Str := ["_law_h", "_law_good", "_law_rule_here", "_law_point"]
theorem sc__law_rule : FnScope nm__law_rule ["_law_h"] (defScope st__law_rule) := ⟨rfl, rfl, rfl, by decide +kernel, rfl, by decide +kernel, by decide +kernel⟩
theorem ok__law_rule (T : Fx C) {f : Addr} {fd : FuncData} (F : L2.Fun C.K "_law_rule" "_law_rule" st__law_rule f fd) : FnA C 2 f fd ["_law_h"] (f__law_rule) := by
  have C__law_points := cx__law_points T
  have C__law_next := cx__law_next T
  exact fn_okA (k := 1) F sc__law_rule fun cdv A outer s H E g => (rs_cons (rs_set 1 g.nd (re_call0 g C__law_points)) (rs_cons (rs_set 2 g.nd re_newD) (rs_cons (rs_lock (pickE (eVar 1)) (rs_for g (L2.passes_of rfl) (ri_keysL (re_var 1)) (rg_name g.nd) (rs_one (rs_dput g (re_ix g.hK (re_dget g (re_var 1) (re_var 3)) (re_call g C__law_next (rl_cons (re_var 0) (rl_cons (re_callB g (cr_len g) T.z_len (by decide +kernel) (rl_cons (re_dget g (re_var 1) (re_var 3)) rl_nil)) rl_nil)))) (re_var 2) (re_var 3))))) (rs_one (rs_ret (re_var 2))))))
theorem cx__law_rule (T : Fx C) : CalA C 2 "_law_rule" (f__law_rule) := by
  obtain ⟨f, fd, F, b, m, kp⟩ := T.D__law_rule
  exact ⟨⟨f, fd, _, ok__law_rule T F, m, kp, b⟩⟩
abbrev nm__law_book : List Str := ["_law_h", "_law_rows", "_law_fields", "_law_levels", "_law_some", "_law_masters", "_law_row", "_law_t", "_law_word"]
theorem sc__law_book : FnScope nm__law_book ["_law_h", "_law_rows", "_law_fields", "_law_levels", "_law_some"] (defScope st__law_book) := ⟨rfl, rfl, rfl, by decide +kernel, rfl, by decide +kernel, by decide +kernel⟩
theorem ok__law_book (T : Fx C) {f : Addr} {fd : FuncData} (F : L2.Fun C.K "_law_book" "_law_book" st__law_book f fd) : FnA C 3 f fd ["_law_h", "_law_rows", "_law_fields", "_law_levels", "_law_some"] (f__law_book) := by
  have C__law_next := cx__law_next T
  have C__law_rule := cx__law_rule T
  exact fn_okA (k := 2) F sc__law_book fun cdv A outer s H E g => (rs_cons (rs_set 5 g.nd (re_lst (rl_cons re_non rl_nil))) (rs_cons (rs_for g (L2.passes_of rfl) (ri_range g T.z_range re_int (re_bin (op_addA g.hK) re_int (re_call g C__law_next (rl_cons (re_var 0) (rl_cons (re_var 1) rl_nil))))) (rg_name g.nd) (rs_one (rs_expr (re_lm PySem.F.slot_list_append PySem.F.type_list_append mm_append (re_var 5) (rl_cons (re_if (rt_cmp op_gtA (re_call g C__law_next (rl_cons (re_var 0) (rl_cons re_int rl_nil))) re_int) (re_call g C__law_next (rl_cons (re_var 0) (rl_cons (re_var 6) rl_nil))) re_non) rl_nil))))) (rs_cons (rs_set 7 g.nd (re_lst (rl_cons (re_callTy g (cr_tuple g) T.z_tuple (by decide +kernel) (rl_cons (re_var 5) rl_nil)) (rl_cons (re_bin (op_addA g.hK) re_int (re_call g C__law_next (rl_cons (re_var 0) (rl_cons (re_var 2) rl_nil)))) (rl_cons (re_bin (op_addA g.hK) re_int (re_call g C__law_next (rl_cons (re_var 0) (rl_cons (re_var 3) rl_nil)))) (rl_cons (re_call g C__law_rule (rl_cons (re_var 0) rl_nil)) (rl_cons (re_tup rl_nil) rl_nil))))))) (rs_cons (rs_ix (re_tupOf g T.z_tuple (rm_lc (own := [("_law_word", 8)]) g (ri_loc g (re_var 4)) (blkOk_by (N := nm__law_book) (sc := defScope st__law_book) (own := [("_law_word", 8)]) (by decide +kernel)) (fun _ _ _ _ _ => (rg_name g.nd)) (fun _ _ _ _ _ g' => (rts_one (rt_cmp op_gtA (re_call g' C__law_next (rl_cons (re_var 0) (rl_cons re_int rl_nil))) re_int))) (fun _ _ _ _ _ g' => (re_var 8)))) (re_var 7) re_int) (rs_one (rs_ret (re_var 7)))))))
theorem cx__law_book (T : Fx C) : CalA C 3 "_law_book" (f__law_book) := by
  obtain ⟨f, fd, F, b, m, kp⟩ := T.D__law_book
  exact ⟨⟨f, fd, _, ok__law_book T F, m, kp, b⟩⟩
abbrev nm_is_integer : List Str := ["value"]
theorem sc_is_integer : FnScope nm_is_integer ["value"] (defScope st_is_integer) := ⟨rfl, rfl, rfl, by decide +kernel, rfl, by decide +kernel, by decide +kernel⟩
theorem ok_is_integer (T : Fx C) {f : Addr} {fd : FuncData} (F : L2.Fun C.K "is_integer" "is_integer" st_is_integer f fd) : FnA C 1 f fd ["value"] (f_is_integer) := by
  exact fn_okA (k := 0) F sc_is_integer fun cdv A outer s H E g => (rs_one (rs_ret (re_and (re_callB g (cr_isi g) T.z_isinstance (by decide +kernel) (rl_cons (re_var 0) (rl_cons (re_bty g T.z_int (by decide +kernel)) rl_nil))) (re_one (re_not (re_callB g (cr_isi g) T.z_isinstance (by decide +kernel) (rl_cons (re_var 0) (rl_cons (re_bty g T.z_bool (by decide +kernel)) rl_nil))))))))
theorem cx_is_integer (T : Fx C) : CalA C 1 "is_integer" (f_is_integer) := by
  obtain ⟨f, fd, F, b, m, kp⟩ := T.D_is_integer
  exact ⟨⟨f, fd, _, ok_is_integer T F, m, kp, b⟩⟩
abbrev nm_is_between : List Str := ["value", "least", "most"]
theorem sc_is_between : FnScope nm_is_between ["value", "least", "most"] (defScope st_is_between) := ⟨rfl, rfl, rfl, by decide +kernel, rfl, by decide +kernel, by decide +kernel⟩
theorem ok_is_between (T : Fx C) {f : Addr} {fd : FuncData} (F : L2.Fun C.K "is_between" "is_between" st_is_between f fd) : FnA C 2 f fd ["value", "least", "most"] (f_is_between) := by
  have C_is_integer := cx_is_integer T
  exact fn_okA (k := 1) F sc_is_between fun cdv A outer s H E g => (rs_one (rs_ret (re_and (re_call g C_is_integer (rl_cons (re_var 0) rl_nil)) (re_one (re_chain op_leA op_leA (re_var 1) (re_var 0) (re_var 2))))))
theorem cx_is_between (T : Fx C) : CalA C 2 "is_between" (f_is_between) := by
  obtain ⟨f, fd, F, b, m, kp⟩ := T.D_is_between
  exact ⟨⟨f, fd, _, ok_is_between T F, m, kp, b⟩⟩
abbrev nm_are_masters : List Str := ["value", "row", "master"]
theorem sc_are_masters : FnScope nm_are_masters ["value"] (defScope st_are_masters) := ⟨rfl, rfl, rfl, by decide +kernel, rfl, by decide +kernel, by decide +kernel⟩
theorem ok_are_masters (T : Fx C) {f : Addr} {fd : FuncData} (F : L2.Fun C.K "are_masters" "are_masters" st_are_masters f fd) : FnA C 3 f fd ["value"] (f_are_masters) := by
  have C_is_between := cx_is_between T
  exact fn_okA (k := 2) F sc_are_masters fun cdv A outer s H E g => (rs_cons (rs_if (rw_pt (rw_or (rt_not (rt_val (re_callB g (cr_isi g) T.z_isinstance (by decide +kernel) (rl_cons (re_var 0) (rl_cons (re_bty g T.z_tuple (by decide +kernel)) rl_nil))))) (rw_or1 (rt_not (rt_chain op_leA op_leA re_int (re_callB g (cr_len g) T.z_len (by decide +kernel) (rl_cons (re_var 0) rl_nil)) (re_gl g T.g_MOST_ROWS)))))) (rs_one (rs_ret re_bl)) rs_nil) (rs_one (rs_ret (re_allOf g T.z_all (rm_lc (own := [("row", 1), ("master", 2)]) g (ri_enumT g T.z_enumerate (re_var 0)) (blkOk_by (N := nm_are_masters) (sc := defScope st_are_masters) (own := [("row", 1), ("master", 2)]) (by decide +kernel)) (fun _ _ _ _ _ => (rg_tup g.hK g.calm (rgs_cons (rg_name g.nd) (rgs_cons (rg_name g.nd) rgs_nil)))) (fun _ _ _ _ _ g' => rts_nil) (fun _ _ _ _ _ g' => (re_or (re_cmp op_isNA (re_var 2) re_non) (re_one (re_call g' C_is_between (rl_cons (re_var 2) (rl_cons re_int (rl_cons (re_bin op_subA (re_var 1) re_int) rl_nil))))))))))))
theorem cx_are_masters (T : Fx C) : CalA C 3 "are_masters" (f_are_masters) := by
  obtain ⟨f, fd, F, b, m, kp⟩ := T.D_are_masters
  exact ⟨⟨f, fd, _, ok_are_masters T F, m, kp, b⟩⟩
abbrev nm_look_at_rule : List Str := ["rule", "point"]
theorem sc_look_at_rule : FnScope nm_look_at_rule ["rule"] (defScope st_look_at_rule) := ⟨rfl, rfl, rfl, by decide +kernel, rfl, by decide +kernel, by decide +kernel⟩
theorem ok_look_at_rule (T : Fx C) {f : Addr} {fd : FuncData} (F : L2.Fun C.K "look_at_rule" "look_at_rule" st_look_at_rule f fd) : FnA C 3 f fd ["rule"] (f_look_at_rule) := by
  exact fn_okA (k := 2) F sc_look_at_rule fun cdv A outer s H E g => (rs_cons (rs_if (rw_pt (rw_or (rt_not (rt_val (re_callB g (cr_isi g) T.z_isinstance (by decide +kernel) (rl_cons (re_var 0) (rl_cons (re_bty g T.z_dict (by decide +kernel)) rl_nil))))) (rw_or (rt_cmp (op_neA g.hK g.room.units) (re_callB g (cr_len g) T.z_len (by decide +kernel) (rl_cons (re_var 0) rl_nil)) (re_lenK g T.k_POINTS (by decide +kernel) (by decide +kernel) (by decide) T.z_len)) (rw_or1 (rt_not (rt_val (re_allOf g T.z_all (rm_lc (own := [("point", 1)]) g (ri_keysK g T.k_POINTS) (blkOk_by (N := nm_look_at_rule) (sc := defScope st_look_at_rule) (own := [("point", 1)]) (by decide +kernel)) (fun _ _ _ _ _ => (rg_name g.nd)) (fun _ _ _ _ _ g' => rts_nil) (fun _ _ _ _ _ g' => (re_din g' (re_var 1) (re_var 0))))))))))) (rs_one (rs_raiseN g T.n_InvalidRule (rl_cons re_str rl_nil))) rs_nil) (rs_one (rs_for g (L2.passes_of rfl) (ri_keysK g T.k_POINTS) (rg_name g.nd) (rs_one (rs_if (rw_pt (rw_or (rt_not (rt_val (re_callB g (cr_isi g) T.z_isinstance (by decide +kernel) (rl_cons (re_dget g (re_var 0) (re_var 1)) (rl_cons (re_bty g T.z_str (by decide +kernel)) rl_nil))))) (rw_or1 (rt_cmp (op_notInA g.hK) (re_dget g (re_var 0) (re_var 1)) (re_kget g T.d_POINTS (re_var 1)))))) (rs_one (rs_raiseN g T.n_InvalidRule (rl_cons (re_var 1) rl_nil))) rs_nil)))))
theorem cx_look_at_rule (T : Fx C) : CalA C 3 "look_at_rule" (f_look_at_rule) := by
  obtain ⟨f, fd, F, b, m, kp⟩ := T.D_look_at_rule
  exact ⟨⟨f, fd, _, ok_look_at_rule T F, m, kp, b⟩⟩
abbrev nm_are_words : List Str := ["value", "word"]
theorem sc_are_words : FnScope nm_are_words ["value"] (defScope st_are_words) := ⟨rfl, rfl, rfl, by decide +kernel, rfl, by decide +kernel, by decide +kernel⟩
theorem ok_are_words (T : Fx C) {f : Addr} {fd : FuncData} (F : L2.Fun C.K "are_words" "are_words" st_are_words f fd) : FnA C 1 f fd ["value"] (f_are_words) := by
  exact fn_okA (k := 0) F sc_are_words fun cdv A outer s H E g => (rs_cons (rs_if (rw_pt (rw_or (rt_not (rt_val (re_callB g (cr_isi g) T.z_isinstance (by decide +kernel) (rl_cons (re_var 0) (rl_cons (re_bty g T.z_tuple (by decide +kernel)) rl_nil))))) (rw_or1 (rt_not (rt_val (re_allOf g T.z_all (rm_lc (own := [("word", 1)]) g (ri_tup g (re_var 0)) (blkOk_by (N := nm_are_words) (sc := defScope st_are_words) (own := [("word", 1)]) (by decide +kernel)) (fun _ _ _ _ _ => (rg_name g.nd)) (fun _ _ _ _ _ g' => rts_nil) (fun _ _ _ _ _ g' => (re_and (re_callB g' (cr_isi g') T.z_isinstance (by decide +kernel) (rl_cons (re_var 1) (rl_cons (re_bty g' T.z_str (by decide +kernel)) rl_nil))) (re_one (re_cmp (op_inA g'.hK) (re_var 1) (re_gl g' T.g_WORDS)))))))))))) (rs_one (rs_ret re_bl)) rs_nil) (rs_one (rs_ret (re_cmp (op_eqA g.hK g.room.units) (re_callTy g (cr_list g) T.z_list (by decide +kernel) (rl_cons (re_var 0) rl_nil)) (re_sortSet g T.z_sorted T.z_set (re_var 0))))))
theorem cx_are_words (T : Fx C) : CalA C 1 "are_words" (f_are_words) := by
  obtain ⟨f, fd, F, b, m, kp⟩ := T.D_are_words
  exact ⟨⟨f, fd, _, ok_are_words T F, m, kp, b⟩⟩
abbrev nm_Book___init__ : List Str := ["self", "masters", "fields", "levels", "rule", "words", "point"]
theorem sc_Book___init__ : FnScope nm_Book___init__ ["self", "masters", "fields", "levels", "rule", "words"] (defScope st_Book___init__) := ⟨rfl, rfl, rfl, by decide +kernel, rfl, by decide +kernel, by decide +kernel⟩
theorem ok_Book___init__ (T : Fx C) {f : Addr} {fd : FuncData} (F : L2.Fun C.K "__init__" "Book.__init__" st_Book___init__ f fd) : FnA C 4 f fd ["self", "masters", "fields", "levels", "rule", "words"] (f_Book___init__) := by
  have C_are_masters := cx_are_masters T
  have C_is_between := cx_is_between T
  have C_look_at_rule := cx_look_at_rule T
  have C_are_words := cx_are_words T
  exact fn_okA (k := 3) F sc_Book___init__ fun cdv A outer s H E g => (rs_cons (rs_if (rt_not (rt_val (re_call g C_are_masters (rl_cons (re_var 1) rl_nil)))) (rs_one (rs_raise0 g T.e_InvalidMasters)) rs_nil) (rs_cons (rs_if (rw_pt (rw_or (rt_not (rt_val (re_call g C_is_between (rl_cons (re_var 2) (rl_cons re_int (rl_cons re_int rl_nil)))))) (rw_or1 (rt_not (rt_val (re_call g C_is_between (rl_cons (re_var 3) (rl_cons re_int (rl_cons re_int rl_nil))))))))) (rs_one (rs_raise0 g T.e_InvalidSize)) rs_nil) (rs_cons (rs_expr (re_call g C_look_at_rule (rl_cons (re_var 4) rl_nil))) (rs_cons (rs_if (rt_not (rt_val (re_call g C_are_words (rl_cons (re_var 5) rl_nil)))) (rs_one (rs_raise0 g T.e_InvalidWords)) rs_nil) (rs_cons (rs_sl g.hK T.s_Book_tops (re_var 0) (re_var 1)) (rs_cons (rs_sl g.hK T.s_Book_many_fields (re_var 0) (re_var 2)) (rs_cons (rs_sl g.hK T.s_Book_many_values (re_var 0) (re_var 3)) (rs_cons (rs_sl g.hK T.s_Book_points (re_var 0) (re_dc (own := [("point", 6)]) g (ri_keysK g T.k_POINTS) (blkOk_by (N := nm_Book___init__) (sc := defScope st_Book___init__) (own := [("point", 6)]) (by decide +kernel)) (fun _ _ _ _ _ => (rg_name g.nd)) (fun _ _ _ _ _ g' => rts_nil) (fun _ _ _ _ _ g' => (re_var 6)) (fun _ _ _ _ _ g' => (re_dget g' (re_var 4) (re_var 6))))) (rs_one (rs_sl g.hK T.s_Book_told_words (re_var 0) (re_var 5)))))))))))
theorem mx_Book___init__ (T : Fx C) : MakA C 4 "Book" "Book" f_Book___init__ := by
  obtain ⟨f, fd, F, b, m, kp⟩ := T.D_Book___init__
  exact ⟨⟨f, fd, _, ok_Book___init__ T F, m, kp, b⟩⟩
abbrev nm_Book_rule : List Str := ["self"]
theorem sc_Book_rule : FnScope nm_Book_rule ["self"] (defScope st_Book_rule) := ⟨rfl, rfl, rfl, by decide +kernel, rfl, by decide +kernel, by decide +kernel⟩
theorem ok_Book_rule (T : Fx C) {f : Addr} {fd : FuncData} (F : L2.Fun C.K "rule" "Book.rule" st_Book_rule f fd) : FnA C 1 f fd ["self"] (f_Book_rule) := by
  exact fn_okA (k := 0) F sc_Book_rule fun cdv A outer s H E g => (rs_one (rs_ret (re_callTy g cr_dict T.z_dict (by decide +kernel) (rl_cons (re_sl g.hK T.s_Book_points (re_var 0)) rl_nil))))
theorem px_Book_rule (T : Fx C) : PrpS C 1 "Book" "rule" f_Book_rule := by
  obtain ⟨f, fd, F, b, ⟨p, m⟩, cl, names, us⟩ := T.D_Book_rule
  exact ⟨⟨p, f, fd, _, names, ok_Book_rule T F, cl, m, b, us⟩⟩
abbrev nm_Book_words : List Str := ["self"]
theorem sc_Book_words : FnScope nm_Book_words ["self"] (defScope st_Book_words) := ⟨rfl, rfl, rfl, by decide +kernel, rfl, by decide +kernel, by decide +kernel⟩
theorem ok_Book_words (T : Fx C) {f : Addr} {fd : FuncData} (F : L2.Fun C.K "words" "Book.words" st_Book_words f fd) : FnA C 1 f fd ["self"] (f_Book_words) := by
  exact fn_okA (k := 0) F sc_Book_words fun cdv A outer s H E g => (rs_one (rs_ret (re_sl g.hK T.s_Book_told_words (re_var 0))))
theorem px_Book_words (T : Fx C) : PrpS C 1 "Book" "words" f_Book_words := by
  obtain ⟨f, fd, F, b, ⟨p, m⟩, cl, names, us⟩ := T.D_Book_words
  exact ⟨⟨p, f, fd, _, names, ok_Book_words T F, cl, m, b, us⟩⟩
abbrev nm_Book_levels : List Str := ["self"]
theorem sc_Book_levels : FnScope nm_Book_levels ["self"] (defScope st_Book_levels) := ⟨rfl, rfl, rfl, by decide +kernel, rfl, by decide +kernel, by decide +kernel⟩
theorem ok_Book_levels (T : Fx C) {f : Addr} {fd : FuncData} (F : L2.Fun C.K "levels" "Book.levels" st_Book_levels f fd) : FnA C 1 f fd ["self"] (f_Book_levels) := by
  exact fn_okA (k := 0) F sc_Book_levels fun cdv A outer s H E g => (rs_one (rs_ret (re_sl g.hK T.s_Book_many_values (re_var 0))))
theorem px_Book_levels (T : Fx C) : PrpS C 1 "Book" "levels" f_Book_levels := by
  obtain ⟨f, fd, F, b, ⟨p, m⟩, cl, names, us⟩ := T.D_Book_levels
  exact ⟨⟨p, f, fd, _, names, ok_Book_levels T F, cl, m, b, us⟩⟩
abbrev nm_Book_fields : List Str := ["self"]
theorem sc_Book_fields : FnScope nm_Book_fields ["self"] (defScope st_Book_fields) := ⟨rfl, rfl, rfl, by decide +kernel, rfl, by decide +kernel, by decide +kernel⟩
theorem ok_Book_fields (T : Fx C) {f : Addr} {fd : FuncData} (F : L2.Fun C.K "fields" "Book.fields" st_Book_fields f fd) : FnA C 1 f fd ["self"] (f_Book_fields) := by
  exact fn_okA (k := 0) F sc_Book_fields fun cdv A outer s H E g => (rs_one (rs_ret (re_sl g.hK T.s_Book_many_fields (re_var 0))))
theorem px_Book_fields (T : Fx C) : PrpS C 1 "Book" "fields" f_Book_fields := by
  obtain ⟨f, fd, F, b, ⟨p, m⟩, cl, names, us⟩ := T.D_Book_fields
  exact ⟨⟨p, f, fd, _, names, ok_Book_fields T F, cl, m, b, us⟩⟩
abbrev nm_Book_masters : List Str := ["self"]
theorem sc_Book_masters : FnScope nm_Book_masters ["self"] (defScope st_Book_masters) := ⟨rfl, rfl, rfl, by decide +kernel, rfl, by decide +kernel, by decide +kernel⟩
theorem ok_Book_masters (T : Fx C) {f : Addr} {fd : FuncData} (F : L2.Fun C.K "masters" "Book.masters" st_Book_masters f fd) : FnA C 1 f fd ["self"] (f_Book_masters) := by
  exact fn_okA (k := 0) F sc_Book_masters fun cdv A outer s H E g => (rs_one (rs_ret (re_sl g.hK T.s_Book_tops (re_var 0))))
theorem px_Book_masters (T : Fx C) : PrpS C 1 "Book" "masters" f_Book_masters := by
  obtain ⟨f, fd, F, b, ⟨p, m⟩, cl, names, us⟩ := T.D_Book_masters
  exact ⟨⟨p, f, fd, _, names, ok_Book_masters T F, cl, m, b, us⟩⟩
abbrev nm_Book_frame : List Str := ["self"]
theorem sc_Book_frame : FnScope nm_Book_frame ["self"] (defScope st_Book_frame) := ⟨rfl, rfl, rfl, by decide +kernel, rfl, by decide +kernel, by decide +kernel⟩
theorem ok_Book_frame (T : Fx C) {f : Addr} {fd : FuncData} (F : L2.Fun C.K "frame" "Book.frame" st_Book_frame f fd) : FnA C 1 f fd ["self"] (f_Book_frame) := by
  exact fn_okA (k := 0) F sc_Book_frame fun cdv A outer s H E g => (rs_one (rs_ret (re_tup (rl_cons (re_sl g.hK T.s_Book_tops (re_var 0)) (rl_cons (re_sl g.hK T.s_Book_many_fields (re_var 0)) (rl_cons (re_sl g.hK T.s_Book_many_values (re_var 0)) (rl_cons (re_sl g.hK T.s_Book_told_words (re_var 0)) rl_nil)))))))
theorem nx_Book_frame (T : Fx C) : MetS C 1 "Book" "frame" f_Book_frame := by
  obtain ⟨f, fd, F, b, m, cl, names, us⟩ := T.D_Book_frame
  exact ⟨⟨f, fd, _, names, ok_Book_frame T F, cl, m, b, us⟩⟩
abbrev nm_Book___eq__ : List Str := ["self", "other"]
theorem sc_Book___eq__ : FnScope nm_Book___eq__ ["self", "other"] (defScope st_Book___eq__) := ⟨rfl, rfl, rfl, by decide +kernel, rfl, by decide +kernel, by decide +kernel⟩
theorem ok_Book___eq__ (T : Fx C) {f : Addr} {fd : FuncData} (F : L2.Fun C.K "__eq__" "Book.__eq__" st_Book___eq__ f fd) : FnA C 2 f fd ["self", "other"] (f_Book___eq__) := by
  have N_Book_frame := nx_Book_frame T
  exact fn_okA (k := 1) F sc_Book___eq__ fun cdv A outer s H E g => (rs_one (rs_ret (re_and (re_callB g (cr_isC g T.i_Book) T.z_isinstance (by decide +kernel) (rl_cons (re_var 1) (rl_cons (re_gl g T.c_Book) rl_nil))) (re_and (re_cmp (op_eqDs g) (re_sl g.hK T.s_Book_points (re_var 0)) (re_sl g.hK T.s_Book_points (re_var 1))) (re_one (re_cmp (op_eqA g.hK g.room.units) (re_methS0 g N_Book_frame (re_var 0)) (re_methS0 g N_Book_frame (re_var 1))))))))
theorem qx_Book___eq__ (T : Fx C) : EqS C 2 "Book" f_Book___eq__ := by
  obtain ⟨f, fd, F, b, fi, ifn, nf, cl, names, us⟩ := T.D_Book___eq__
  exact ⟨⟨f, fd, _, names, ok_Book___eq__ T F, cl, fi, ifn, b, us, nf⟩⟩
abbrev nm_Book_turned : List Str := ["self", "point", "word", "rule"]
theorem sc_Book_turned : FnScope nm_Book_turned ["self", "point", "word"] (defScope st_Book_turned) := ⟨rfl, rfl, rfl, by decide +kernel, rfl, by decide +kernel, by decide +kernel⟩
theorem ok_Book_turned (T : Fx C) {f : Addr} {fd : FuncData} (F : L2.Fun C.K "turned" "Book.turned" st_Book_turned f fd) : FnA C 6 f fd ["self", "point", "word"] (f_Book_turned) := by
  have M_Book___init__ := mx_Book___init__ T
  exact fn_okA (k := 5) F sc_Book_turned fun cdv A outer s H E g => (rs_cons (rs_if (rw_pt (rw_or (rt_not (rt_val (re_callB g (cr_isi g) T.z_isinstance (by decide +kernel) (rl_cons (re_var 1) (rl_cons (re_bty g T.z_str (by decide +kernel)) rl_nil))))) (rw_or1 (rt_knotin g T.d_POINTS (re_var 1))))) (rs_one (rs_raiseN g T.n_InvalidRule (rl_cons re_str rl_nil))) rs_nil) (rs_cons (rs_set 3 g.nd (re_callTy g cr_dict T.z_dict (by decide +kernel) (rl_cons (re_sl g.hK T.s_Book_points (re_var 0)) rl_nil))) (rs_cons (rs_dput g (re_var 2) (re_var 3) (re_var 1)) (rs_one (rs_ret (re_make g M_Book___init__ (rl_cons (re_sl g.hK T.s_Book_tops (re_var 0)) (rl_cons (re_sl g.hK T.s_Book_many_fields (re_var 0)) (rl_cons (re_sl g.hK T.s_Book_many_values (re_var 0)) (rl_cons (re_var 3) (rl_cons (re_sl g.hK T.s_Book_told_words (re_var 0)) rl_nil)))))))))))
theorem nx_Book_turned (T : Fx C) : MetS C 6 "Book" "turned" f_Book_turned := by
  obtain ⟨f, fd, F, b, m, cl, names, us⟩ := T.D_Book_turned
  exact ⟨⟨f, fd, _, names, ok_Book_turned T F, cl, m, b, us⟩⟩
abbrev nm__law_turned : List Str := ["_law_book_here", "_law_point", "_law_word", "_law_told_here", "e"]
theorem sc__law_turned : FnScope nm__law_turned ["_law_book_here", "_law_point", "_law_word"] (defScope st__law_turned) := ⟨rfl, rfl, rfl, by decide +kernel, rfl, by decide +kernel, by decide +kernel⟩
theorem ok__law_turned (T : Fx C) {f : Addr} {fd : FuncData} (F : L2.Fun C.K "_law_turned" "_law_turned" st__law_turned f fd) : FnA C 7 f fd ["_law_book_here", "_law_point", "_law_word"] (f__law_turned) := by
  have N_Book_turned := nx_Book_turned T
  exact fn_okA (k := 6) F sc__law_turned fun cdv A outer s H E g => (rs_cons (rs_set 3 g.nd re_non) (rs_cons (rs_try g rfl rfl (fun pn xe g => (rs_one (rs_expr (re_methS g N_Book_turned (re_var 0) (rl_cons (re_var 1) (rl_cons (re_var 2) rl_nil)))))) (.cons (.one T.x_InvalidRule rfl (by decide)) (hf_of (List.forall_mem_cons.mpr ⟨T.m_InvalidMasters__InvalidRule, (List.forall_mem_cons.mpr ⟨T.m_InvalidRule__InvalidRule, (List.forall_mem_cons.mpr ⟨T.m_InvalidSize__InvalidRule, (List.forall_mem_cons.mpr ⟨T.m_InvalidWords__InvalidRule, (fun _ z => nomatch z)⟩)⟩)⟩)⟩)) (.some rfl rfl) (fun a o cls d pn hz hf => rxs_set 3 (by exact g.nd) (rx_fld (i := 4) T.y_InvalidRule_point g.hK hz hf (fun σ h => h 4 rfl))) RC.nil)) (rs_one (rs_ret (re_var 3)))))
theorem cx__law_turned (T : Fx C) : CalA C 7 "_law_turned" (f__law_turned) := by
  obtain ⟨f, fd, F, b, m, kp⟩ := T.D__law_turned
  exact ⟨⟨f, fd, _, ok__law_turned T F, m, kp, b⟩⟩
abbrev nm__law_spoil : List Str := ["_law_h", "_law_t", "_law_pick", "_law_odd", "_law_rule_here", "_law_point"]
theorem sc__law_spoil : FnScope nm__law_spoil ["_law_h", "_law_t"] (defScope st__law_spoil) := ⟨rfl, rfl, rfl, by decide +kernel, rfl, by decide +kernel, by decide +kernel⟩
theorem ok__law_spoil (T : Fx C) {f : Addr} {fd : FuncData} (F : L2.Fun C.K "_law_spoil" "_law_spoil" st__law_spoil f fd) : FnA C 2 f fd ["_law_h", "_law_t"] (f__law_spoil) := by
  have C__law_next := cx__law_next T
  exact fn_okA (k := 1) F sc__law_spoil fun cdv A outer s H E g => (rs_cons (rs_set 2 g.nd (re_call g C__law_next (rl_cons (re_var 0) (rl_cons re_int rl_nil)))) (rs_one (rs_if (rt_cmp (op_eqA g.hK g.room.units) (re_var 2) re_int) (rs_cons (rs_set 3 g.nd (re_lst (rl_cons (re_tup rl_nil) (rl_cons re_non (rl_cons (re_lst (rl_cons re_non rl_nil)) (rl_cons (re_tup (rl_cons re_int rl_nil)) (rl_cons (re_tup (rl_cons re_non (rl_cons re_int rl_nil))) (rl_cons (re_tup (rl_cons re_non (rl_cons re_bl rl_nil))) (rl_cons (re_tup (rl_cons re_non (rl_cons (re_neg re_int) rl_nil))) (rl_cons (re_bin (op_mulA g) (re_tup (rl_cons re_non rl_nil)) re_int) (rl_cons (re_tup (rl_cons re_non (rl_cons re_str rl_nil))) rl_nil))))))))))) (rs_one (rs_ix (re_ix g.hK (re_bin (op_addA g.hK) (re_var 3) (re_lst (rl_cons (re_tup (rl_cons re_non (rl_cons re_int (rl_cons re_int rl_nil)))) (rl_cons (re_tup (rl_cons re_non (rl_cons re_int (rl_cons re_int rl_nil)))) rl_nil)))) (re_call g C__law_next (rl_cons (re_var 0) (rl_cons re_int rl_nil)))) (re_var 1) re_int))) (rs_one (rs_if (rt_cmp (op_eqA g.hK g.room.units) (re_var 2) re_int) (rs_one (rs_ix (re_ix g.hK (re_lst (rl_cons re_int (rl_cons re_int (rl_cons re_bl (rl_cons re_non (rl_cons re_str (rl_cons re_int rl_nil))))))) (re_call g C__law_next (rl_cons (re_var 0) (rl_cons re_int rl_nil)))) (re_var 1) re_int)) (rs_one (rs_if (rt_cmp (op_eqA g.hK g.room.units) (re_var 2) re_int) (rs_one (rs_ix (re_ix g.hK (re_lst (rl_cons re_int (rl_cons re_int (rl_cons re_bl (rl_cons re_non (rl_cons re_str (rl_cons re_int rl_nil))))))) (re_call g C__law_next (rl_cons (re_var 0) (rl_cons re_int rl_nil)))) (re_var 1) re_int)) (rs_one (rs_if (rt_cmp (op_eqA g.hK g.room.units) (re_var 2) re_int) (rs_cons (rs_set 4 g.nd (re_if (rt_val (re_callB g (cr_isi g) T.z_isinstance (by decide +kernel) (rl_cons (re_ix g.hK (re_var 1) re_int) (rl_cons (re_bty g T.z_dict (by decide +kernel)) rl_nil)))) (re_callTy g cr_dict T.z_dict (by decide +kernel) (rl_cons (re_ix g.hK (re_var 1) re_int) rl_nil)) re_newD)) (rs_cons (rs_set 5 g.nd (re_ix g.hK (re_lst (rl_cons re_str (rl_cons re_str (rl_cons re_str (rl_cons re_str (rl_cons re_str (rl_cons re_str rl_nil))))))) (re_call g C__law_next (rl_cons (re_var 0) (rl_cons re_int rl_nil))))) (rs_cons (rs_set 3 g.nd (re_call g C__law_next (rl_cons (re_var 0) (rl_cons re_int rl_nil)))) (rs_cons (rs_if (rt_cmp (op_eqA g.hK g.room.units) (re_var 3) re_int) (rs_one (rs_expr (re_dpop2 (re_var 4) (re_var 5) re_non))) (rs_one (rs_dput g (re_ix g.hK (re_lst (rl_cons re_str (rl_cons re_str (rl_cons re_non (rl_cons re_str rl_nil))))) (re_var 3)) (re_var 4) (re_var 5)))) (rs_one (rs_ix (re_if (rt_cmp op_gtA (re_call g C__law_next (rl_cons (re_var 0) (rl_cons re_int rl_nil))) re_int) (re_var 4) (re_ix g.hK (re_lst (rl_cons re_non (rl_cons re_newD (rl_cons (re_lst rl_nil) (rl_cons re_str rl_nil))))) (re_var 3))) (re_var 1) re_int)))))) (rs_one (rs_ix (re_ix g.hK (re_lst (rl_cons re_non (rl_cons (re_lst (rl_cons re_str rl_nil)) (rl_cons (re_tup (rl_cons re_str (rl_cons re_str rl_nil))) (rl_cons (re_tup (rl_cons re_str (rl_cons re_str rl_nil))) (rl_cons (re_tup (rl_cons re_str rl_nil)) (rl_cons (re_tup (rl_cons re_int rl_nil)) (rl_cons (re_tup rl_nil) rl_nil)))))))) (re_call g C__law_next (rl_cons (re_var 0) (rl_cons re_int rl_nil)))) (re_var 1) re_int)))))))))))
theorem cx__law_spoil (T : Fx C) : CalA C 2 "_law_spoil" (f__law_spoil) := by
  obtain ⟨f, fd, F, b, m, kp⟩ := T.D__law_spoil
  exact ⟨⟨f, fd, _, ok__law_spoil T F, m, kp, b⟩⟩
abbrev nm__law_told : List Str := ["_law_t", "_law_told_here", "e"]
theorem sc__law_told : FnScope nm__law_told ["_law_t"] (defScope st__law_told) := ⟨rfl, rfl, rfl, by decide +kernel, rfl, by decide +kernel, by decide +kernel⟩
theorem ok__law_told (T : Fx C) {f : Addr} {fd : FuncData} (F : L2.Fun C.K "_law_told" "_law_told" st__law_told f fd) : FnA C 6 f fd ["_law_t"] (f__law_told) := by
  have M_Book___init__ := mx_Book___init__ T
  exact fn_okA (k := 5) F sc__law_told fun cdv A outer s H E g => (rs_cons (rs_set 1 g.nd re_non) (rs_cons (rs_try g rfl rfl (fun pn xe g => (rs_one (rs_expr (re_make g M_Book___init__ (rl_cons (re_ix g.hK (re_var 0) re_int) (rl_cons (re_ix g.hK (re_var 0) re_int) (rl_cons (re_ix g.hK (re_var 0) re_int) (rl_cons (re_ix g.hK (re_var 0) re_int) (rl_cons (re_ix g.hK (re_var 0) re_int) rl_nil))))))))) (.cons (.one T.x_InvalidMasters rfl (by decide)) (hf_of (List.forall_mem_cons.mpr ⟨T.m_InvalidMasters__InvalidMasters, (List.forall_mem_cons.mpr ⟨T.m_InvalidRule__InvalidMasters, (List.forall_mem_cons.mpr ⟨T.m_InvalidSize__InvalidMasters, (List.forall_mem_cons.mpr ⟨T.m_InvalidWords__InvalidMasters, (fun _ z => nomatch z)⟩)⟩)⟩)⟩)) (.some rfl rfl) (fun a o cls d pn hz hf => rxs_set 1 (by exact g.nd) (rx_if (rx_isE (i := 2) T.w_CopyError__InvalidMasters g T.z_isinstance hz hf (fun σ h => h 2 rfl)) (rx_re re_str) (rx_re re_str))) (.cons (.one T.x_InvalidSize rfl (by decide)) (hf_of (List.forall_mem_cons.mpr ⟨T.m_InvalidMasters__InvalidSize, (List.forall_mem_cons.mpr ⟨T.m_InvalidRule__InvalidSize, (List.forall_mem_cons.mpr ⟨T.m_InvalidSize__InvalidSize, (List.forall_mem_cons.mpr ⟨T.m_InvalidWords__InvalidSize, (fun _ z => nomatch z)⟩)⟩)⟩)⟩)) .none (fun a o cls d pn hz hf => rxs_set 1 (by exact g.nd) (rx_re re_str)) (.cons (.one T.x_InvalidRule rfl (by decide)) (hf_of (List.forall_mem_cons.mpr ⟨T.m_InvalidMasters__InvalidRule, (List.forall_mem_cons.mpr ⟨T.m_InvalidRule__InvalidRule, (List.forall_mem_cons.mpr ⟨T.m_InvalidSize__InvalidRule, (List.forall_mem_cons.mpr ⟨T.m_InvalidWords__InvalidRule, (fun _ z => nomatch z)⟩)⟩)⟩)⟩)) (.some rfl rfl) (fun a o cls d pn hz hf => rxs_set 1 (by exact g.nd) (rx_tup2 (rx_re re_str) (rx_fld (i := 2) T.y_InvalidRule_point g.hK hz hf (fun σ h => h 2 rfl)))) (.cons (.one T.x_InvalidWords rfl (by decide)) (hf_of (List.forall_mem_cons.mpr ⟨T.m_InvalidMasters__InvalidWords, (List.forall_mem_cons.mpr ⟨T.m_InvalidRule__InvalidWords, (List.forall_mem_cons.mpr ⟨T.m_InvalidSize__InvalidWords, (List.forall_mem_cons.mpr ⟨T.m_InvalidWords__InvalidWords, (fun _ z => nomatch z)⟩)⟩)⟩)⟩)) .none (fun a o cls d pn hz hf => rxs_set 1 (by exact g.nd) (rx_re re_str)) RC.nil))))) (rs_one (rs_ret (re_var 1)))))
theorem cx__law_told (T : Fx C) : CalA C 6 "_law_told" (f__law_told) := by
  obtain ⟨f, fd, F, b, m, kp⟩ := T.D__law_told
  exact ⟨⟨f, fd, _, ok__law_told T F, m, kp, b⟩⟩
abbrev nm__law_int : List Str := ["_law_value", "_law_low", "_law_high"]
theorem sc__law_int : FnScope nm__law_int ["_law_value", "_law_low", "_law_high"] (defScope st__law_int) := ⟨rfl, rfl, rfl, by decide +kernel, rfl, by decide +kernel, by decide +kernel⟩
theorem ok__law_int (T : Fx C) {f : Addr} {fd : FuncData} (F : L2.Fun C.K "_law_int" "_law_int" st__law_int f fd) : FnA C 1 f fd ["_law_value", "_law_low", "_law_high"] (f__law_int) := by
  exact fn_okA (k := 0) F sc__law_int fun cdv A outer s H E g => (rs_one (rs_ret (re_and (re_callB g (cr_isi g) T.z_isinstance (by decide +kernel) (rl_cons (re_var 0) (rl_cons (re_bty g T.z_int (by decide +kernel)) rl_nil))) (re_and (re_not (re_callB g (cr_isi g) T.z_isinstance (by decide +kernel) (rl_cons (re_var 0) (rl_cons (re_bty g T.z_bool (by decide +kernel)) rl_nil)))) (re_one (re_chain op_leA op_leA (re_var 1) (re_var 0) (re_var 2)))))))
theorem cx__law_int (T : Fx C) : CalA C 1 "_law_int" (f__law_int) := by
  obtain ⟨f, fd, F, b, m, kp⟩ := T.D__law_int
  exact ⟨⟨f, fd, _, ok__law_int T F, m, kp, b⟩⟩
abbrev nm__law_due : List Str := ["_law_t", "_law_row", "_law_good", "_law_point", "_law_words", "_law_one"]
theorem sc__law_due : FnScope nm__law_due ["_law_t"] (defScope st__law_due) := ⟨rfl, rfl, rfl, by decide +kernel, rfl, by decide +kernel, by decide +kernel⟩
theorem ok__law_due (T : Fx C) {f : Addr} {fd : FuncData} (F : L2.Fun C.K "_law_due" "_law_due" st__law_due f fd) : FnA C 2 f fd ["_law_t"] (f__law_due) := by
  have C__law_int := cx__law_int T
  have C__law_points := cx__law_points T
  exact fn_okA (k := 1) F sc__law_due fun cdv A outer s H E g => (rs_cons (rs_if (rw_pt (rw_or (rt_not (rt_val (re_callB g (cr_isi g) T.z_isinstance (by decide +kernel) (rl_cons (re_ix g.hK (re_var 0) re_int) (rl_cons (re_bty g T.z_tuple (by decide +kernel)) rl_nil))))) (rw_or1 (rt_not (rt_chain op_leA op_leA re_int (re_callB g (cr_len g) T.z_len (by decide +kernel) (rl_cons (re_ix g.hK (re_var 0) re_int) rl_nil)) re_int))))) (rs_one (rs_ret re_str)) rs_nil) (rs_cons (rs_for g (L2.passes_of rfl) (ri_range0 g T.z_range (re_callB g (cr_len g) T.z_len (by decide +kernel) (rl_cons (re_ix g.hK (re_var 0) re_int) rl_nil))) (rg_name g.nd) (rs_one (rs_if (rw_pt (rw_and (rt_cmp op_notNA (re_ix g.hK (re_ix g.hK (re_var 0) re_int) (re_var 1)) re_non) (rw_and1 (rt_not (rt_val (re_call g C__law_int (rl_cons (re_ix g.hK (re_ix g.hK (re_var 0) re_int) (re_var 1)) (rl_cons re_int (rl_cons (re_bin op_subA (re_var 1) re_int) rl_nil))))))))) (rs_one (rs_ret re_str)) rs_nil))) (rs_cons (rs_if (rw_pt (rw_or (rt_not (rt_val (re_call g C__law_int (rl_cons (re_ix g.hK (re_var 0) re_int) (rl_cons re_int (rl_cons re_int rl_nil)))))) (rw_or1 (rt_not (rt_val (re_call g C__law_int (rl_cons (re_ix g.hK (re_var 0) re_int) (rl_cons re_int (rl_cons re_int rl_nil))))))))) (rs_one (rs_ret re_str)) rs_nil) (rs_cons (rs_set 2 g.nd (re_call0 g C__law_points)) (rs_cons (rs_if (rw_pt (rw_or (rt_not (rt_val (re_callB g (cr_isi g) T.z_isinstance (by decide +kernel) (rl_cons (re_ix g.hK (re_var 0) re_int) (rl_cons (re_bty g T.z_dict (by decide +kernel)) rl_nil))))) (rw_or (rt_cmp (op_neA g.hK g.room.units) (re_callB g (cr_len g) T.z_len (by decide +kernel) (rl_cons (re_ix g.hK (re_var 0) re_int) rl_nil)) re_int) (rw_or1 (rt_not (rt_val (re_allOf g T.z_all (rm_lock (pickE (eVar 2)) (rm_lc (own := [("_law_point", 3)]) g (ri_keysL (re_var 2)) (blkOk_by (N := nm__law_due) (sc := defScope st__law_due) (own := [("_law_point", 3)]) (by decide +kernel)) (fun _ _ _ _ _ => (rg_name g.nd)) (fun _ _ _ _ _ g' => rts_nil) (fun _ _ _ _ _ g' => (re_din g' (re_var 3) (re_ix g'.hK (re_var 0) re_int)))))))))))) (rs_one (rs_ret (re_tup (rl_cons re_str (rl_cons re_str rl_nil))))) rs_nil) (rs_cons (rs_lock (pickE (eVar 2)) (rs_for g (L2.passes_of rfl) (ri_keysL (re_var 2)) (rg_name g.nd) (rs_one (rs_if (rt_cmp (op_notInA g.hK) (re_dget g (re_ix g.hK (re_var 0) re_int) (re_var 3)) (re_dget g (re_var 2) (re_var 3))) (rs_one (rs_ret (re_tup (rl_cons re_str (rl_cons (re_var 3) rl_nil))))) rs_nil)))) (rs_cons (rs_set 4 g.nd (re_lst (rl_cons re_str (rl_cons re_str (rl_cons re_str (rl_cons re_str (rl_cons re_str rl_nil))))))) (rs_cons (rs_if (rw_pt (rw_or (rt_not (rt_val (re_callB g (cr_isi g) T.z_isinstance (by decide +kernel) (rl_cons (re_ix g.hK (re_var 0) re_int) (rl_cons (re_bty g T.z_tuple (by decide +kernel)) rl_nil))))) (rw_or1 (rt_not (rt_val (re_allOf g T.z_all (rm_lc (own := [("_law_one", 5)]) g (ri_tup g (re_ix g.hK (re_var 0) re_int)) (blkOk_by (N := nm__law_due) (sc := defScope st__law_due) (own := [("_law_one", 5)]) (by decide +kernel)) (fun _ _ _ _ _ => (rg_name g.nd)) (fun _ _ _ _ _ g' => rts_nil) (fun _ _ _ _ _ g' => (re_and (re_callB g' (cr_isi g') T.z_isinstance (by decide +kernel) (rl_cons (re_var 5) (rl_cons (re_bty g' T.z_str (by decide +kernel)) rl_nil))) (re_one (re_cmp (op_inA g'.hK) (re_var 5) (re_var 4)))))))))))) (rs_one (rs_ret re_str)) rs_nil) (rs_one (rs_ret (re_if (rt_cmp (op_eqA g.hK g.room.units) (re_callTy g (cr_list g) T.z_list (by decide +kernel) (rl_cons (re_ix g.hK (re_var 0) re_int) rl_nil)) (re_sortSet g T.z_sorted T.z_set (re_ix g.hK (re_var 0) re_int))) re_non re_str)))))))))))
theorem cx__law_due (T : Fx C) : CalA C 2 "_law_due" (f__law_due) := by
  obtain ⟨f, fd, F, b, m, kp⟩ := T.D__law_due
  exact ⟨⟨f, fd, _, ok__law_due T F, m, kp, b⟩⟩
abbrev nm_law : List Str := ["_law_script", "_law_h", "_law_t", "_law_rule_here", "_law_book_here", "_law_good", "_law_point", "_law_word", "_law_turn", "_law_other", "_law_odd"]
theorem sc_law : FnScope nm_law ["_law_script"] (defScope st_law) := ⟨rfl, rfl, rfl, by decide +kernel, rfl, by decide +kernel, by decide +kernel⟩
theorem ok_law (T : Fx C) {f : Addr} {fd : FuncData} (F : L2.Fun C.K "law" "law" st_law f fd) : FnA C 8 f fd ["_law_script"] (f_law C.scr) := by
  have C__law_mix := cx__law_mix T
  have C__law_book := cx__law_book T
  have M_Book___init__ := mx_Book___init__ T
  have P_Book_rule := px_Book_rule T
  have P_Book_words := px_Book_words T
  have P_Book_levels := px_Book_levels T
  have P_Book_fields := px_Book_fields T
  have P_Book_masters := px_Book_masters T
  have Q_Book___eq__ := qx_Book___eq__ T
  have C__law_points := cx__law_points T
  have C__law_next := cx__law_next T
  have N_Book_turned := nx_Book_turned T
  have C__law_turned := cx__law_turned T
  have C__law_spoil := cx__law_spoil T
  have C__law_told := cx__law_told T
  have C__law_due := cx__law_due T
  exact fn_okA (k := 7) F sc_law fun cdv A outer s H E g => (rs_cons (rs_set 1 g.nd (re_call g C__law_mix (rl_cons (re_var 0) (rl_cons re_int rl_nil)))) (rs_cons (rs_set 2 g.nd (re_call g C__law_book (rl_cons (re_var 1) (rl_cons re_int (rl_cons re_int (rl_cons re_int (rl_cons (re_lst (rl_cons re_str (rl_cons re_str (rl_cons re_str (rl_cons re_str (rl_cons re_str rl_nil)))))) rl_nil))))))) (rs_cons (rs_set 3 g.nd (re_revIt g T.z_dict T.z_list (re_ix g.hK (re_var 2) re_int))) (rs_cons (rs_set 4 g.nd (re_make g M_Book___init__ (rl_cons (re_ix g.hK (re_var 2) re_int) (rl_cons (re_ix g.hK (re_var 2) re_int) (rl_cons (re_ix g.hK (re_var 2) re_int) (rl_cons (re_var 3) (rl_cons (re_ix g.hK (re_var 2) re_int) rl_nil))))))) (rs_cons (rs_expr (re_dclear (re_var 3))) (rs_cons (rs_expr (re_dclear (re_propS g P_Book_rule (re_var 4)))) (rs_cons (rs_if (rt_cmp (op_neV g (by have := g.room.un; omega)) (re_lst (rl_cons (re_propS g P_Book_masters (re_var 4)) (rl_cons (re_propS g P_Book_fields (re_var 4)) (rl_cons (re_propS g P_Book_levels (re_var 4)) (rl_cons (re_propS g P_Book_rule (re_var 4)) (rl_cons (re_propS g P_Book_words (re_var 4)) rl_nil)))))) (re_var 2)) (rs_one (rs_ret re_bl)) rs_nil) (rs_cons (rs_if (rw_pt (rw_or (rt_cmp (op_neA g.hK g.room.units) (re_callTy g (cr_listD g) T.z_list (by decide +kernel) (rl_cons (re_propS g P_Book_rule (re_var 4)) rl_nil)) (re_callB g (cr_sorted g) T.z_sorted (by decide +kernel) (rl_cons (re_callTy g (cr_listD g) T.z_list (by decide +kernel) (rl_cons (re_ix g.hK (re_var 2) re_int) rl_nil)) rl_nil))) (rw_or (rt_cmp (op_ownEqL g Q_Book___eq__ T.l_Book) (re_var 4) (re_var 2)) (rw_or1 (rt_not (rt_cmp (op_ownEq g Q_Book___eq__) (re_var 4) (re_make g M_Book___init__ (rl_cons (re_ix g.hK (re_var 2) re_int) (rl_cons (re_ix g.hK (re_var 2) re_int) (rl_cons (re_ix g.hK (re_var 2) re_int) (rl_cons (re_ix g.hK (re_var 2) re_int) (rl_cons (re_ix g.hK (re_var 2) re_int) rl_nil)))))))))))) (rs_one (rs_ret re_bl)) rs_nil) (rs_cons (rs_set 5 g.nd (re_call0 g C__law_points)) (rs_cons (rs_set 6 g.nd (re_ix g.hK (re_callTy g (cr_listD g) T.z_list (by decide +kernel) (rl_cons (re_var 5) rl_nil)) (re_call g C__law_next (rl_cons (re_var 1) (rl_cons re_int rl_nil))))) (rs_cons (rs_for g (L2.passes_of rfl) (ri_loc g (re_dget g (re_var 5) (re_var 6))) (rg_name g.nd) (rs_cons (rs_set 9 g.nd (re_methS g N_Book_turned (re_var 4) (rl_cons (re_var 6) (rl_cons (re_var 7) rl_nil)))) (rs_one (rs_if (rw_pt (rw_or (rt_cmp (op_neA g.hK g.room.units) (re_dget g (re_propS g P_Book_rule (re_var 9)) (re_var 6)) (re_var 7)) (rw_or1 (rt_cmp (op_neA g.hK g.room.units) (re_cmp (op_ownEq g Q_Book___eq__) (re_var 9) (re_var 4)) (re_cmp (op_eqA g.hK g.room.units) (re_var 7) (re_dget g (re_ix g.hK (re_var 2) re_int) (re_var 6))))))) (rs_one (rs_ret re_bl)) rs_nil)))) (rs_cons (rs_if (rt_cmp (op_neA g.hK g.room.units) (re_keep (rm_lc (own := [("_law_odd", 10)]) g (ri_tmp g (rm_lst (rl_cons re_str (rl_cons re_non (rl_cons re_int rl_nil))))) (blkOk_by (N := nm_law) (sc := defScope st_law) (own := [("_law_odd", 10)]) (by decide +kernel)) (fun _ _ _ _ _ => (rg_name g.nd)) (fun _ _ _ _ _ g' => rts_nil) (fun _ _ _ _ _ g' => (re_call g' C__law_turned (rl_cons (re_var 4) (rl_cons (re_var 6) (rl_cons (re_var 10) rl_nil))))))) (re_bin op_mulL (re_lst (rl_cons (re_var 6) rl_nil)) re_int)) (rs_one (rs_ret re_bl)) rs_nil) (rs_cons (rs_if (rt_cmp (op_neA g.hK g.room.units) (re_keep (rm_lc (own := [("_law_odd", 10)]) g (ri_tmp g (rm_lst (rl_cons re_str (rl_cons re_non (rl_cons (re_tup rl_nil) rl_nil))))) (blkOk_by (N := nm_law) (sc := defScope st_law) (own := [("_law_odd", 10)]) (by decide +kernel)) (fun _ _ _ _ _ => (rg_name g.nd)) (fun _ _ _ _ _ g' => rts_nil) (fun _ _ _ _ _ g' => (re_call g' C__law_turned (rl_cons (re_var 4) (rl_cons (re_var 10) (rl_cons re_str rl_nil))))))) (re_bin op_mulL (re_lst (rl_cons re_str rl_nil)) re_int)) (rs_one (rs_ret re_bl)) rs_nil) (rs_cons (rs_for g (L2.passes_of rfl) (ri_range0 g T.z_range (re_call g C__law_next (rl_cons (re_var 1) (rl_cons re_int rl_nil)))) (rg_name g.nd) (rs_one (rs_expr (re_call g C__law_spoil (rl_cons (re_var 1) (rl_cons (re_var 2) rl_nil)))))) (rs_one (rs_ret (re_cmp (op_eqA g.hK g.room.units) (re_call g C__law_told (rl_cons (re_var 2) rl_nil)) (re_call g C__law_due (rl_cons (re_var 2) rl_nil)))))))))))))))))))
theorem cx_law (T : Fx C) : CalA C 8 "law" (f_law C.scr) := by
  obtain ⟨f, fd, F, b, m, kp⟩ := T.D_law
  exact ⟨⟨f, fd, _, ok_law T F, m, kp, b⟩⟩
end
end K06
set_option maxRecDepth 100000
set_option maxHeartbeats 4000000
/-! Join: the facts that the top has written, the promise of the law. Printed by gen.py. -/
namespace K06
open PySem PySem.Spec PyProof.Rows L2 PA PL
abbrev nms_Book : List Str := ["many_fields", "many_values", "points", "told_words", "tops"]
theorem fx_mk {C : Cz} {h : PySem.Heap} (X : C.K.In h) (G : h.Ns mainGlobals C.mg) (sl_Book : C.sl "Book" = some nms_Book) (sl_CopyError : C.sl "CopyError" = none) (sl_InvalidMasters : C.sl "InvalidMasters" = none) (sl_InvalidRule : C.sl "InvalidRule" = none) (sl_InvalidSize : C.sl "InvalidSize" = none) (sl_InvalidWords : C.sl "InvalidWords" = none)
    {d_POINTS n_POINTS : Nat}
    {tk_POINTS_0 tk_POINTS_1 tk_POINTS_2 tk_POINTS_3 tk_POINTS_4 : Tok}
    {q_POINTS_0 n_POINTS_0 : Nat} {od_POINTS_0 : Option Addr} {sl_POINTS_0 : Array (Option Value)}
    {t_POINTS_0_0 t_POINTS_0_1 : Tok}
    {q_POINTS_1 n_POINTS_1 : Nat} {od_POINTS_1 : Option Addr} {sl_POINTS_1 : Array (Option Value)}
    {t_POINTS_1_0 t_POINTS_1_1 : Tok}
    {q_POINTS_2 n_POINTS_2 : Nat} {od_POINTS_2 : Option Addr} {sl_POINTS_2 : Array (Option Value)}
    {t_POINTS_2_0 t_POINTS_2_1 : Tok}
    {q_POINTS_3 n_POINTS_3 : Nat} {od_POINTS_3 : Option Addr} {sl_POINTS_3 : Array (Option Value)}
    {t_POINTS_3_0 t_POINTS_3_1 t_POINTS_3_2 : Tok}
    {q_POINTS_4 n_POINTS_4 : Nat} {od_POINTS_4 : Option Addr} {sl_POINTS_4 : Array (Option Value)}
    {t_POINTS_4_0 t_POINTS_4_1 t_POINTS_4_2 : Tok}
    {tg_MOST_ROWS : Tok}
    {q_WORDS n_WORDS : Nat} {od_WORDS : Option Addr} {sl_WORDS : Array (Option Value)}
    {t_WORDS_0 t_WORDS_1 t_WORDS_2 t_WORDS_3 t_WORDS_4 : Tok}
    {nm_InvalidRule qn_InvalidRule : Str} {N_InvalidRule : Addr} {bs_InvalidRule : List Value} {sn_InvalidRule : List Str} {sub_InvalidRule : List Value} {ab_InvalidRule : Bool} {col_InvalidRule : Option Bool} {dd_InvalidRule : Option Addr} {k0_InvalidRule k1_InvalidRule k2_InvalidRule k3_InvalidRule k5_InvalidRule : Option Value}
    {w_InvalidRule___init__ : Addr} {od_InvalidRule___init__ an_InvalidRule___init__ : Option Addr} {sl_InvalidRule___init__ : Array (Option Value)} {oc_InvalidRule___init__ kV_InvalidRule___init__ dc_InvalidRule___init__ pm_InvalidRule___init__ cd_InvalidRule___init__ ct_InvalidRule___init__ : Value}
    {p_Book_many_fields : Addr}
    {p_Book_many_values : Addr}
    {p_Book_points : Addr}
    {p_Book_told_words : Addr}
    {p_Book_tops : Addr}
    {w__law_mix : Addr} {od__law_mix an__law_mix : Option Addr} {sl__law_mix : Array (Option Value)} {oc__law_mix kV__law_mix dc__law_mix pm__law_mix cd__law_mix ct__law_mix : Value}
    {w__law_next : Addr} {od__law_next an__law_next : Option Addr} {sl__law_next : Array (Option Value)} {oc__law_next kV__law_next dc__law_next pm__law_next cd__law_next ct__law_next : Value}
    {w__law_points : Addr} {od__law_points an__law_points : Option Addr} {sl__law_points : Array (Option Value)} {oc__law_points kV__law_points dc__law_points pm__law_points cd__law_points ct__law_points : Value}
    {w__law_rule : Addr} {od__law_rule an__law_rule : Option Addr} {sl__law_rule : Array (Option Value)} {oc__law_rule kV__law_rule dc__law_rule pm__law_rule cd__law_rule ct__law_rule : Value}
    {w__law_book : Addr} {od__law_book an__law_book : Option Addr} {sl__law_book : Array (Option Value)} {oc__law_book kV__law_book dc__law_book pm__law_book cd__law_book ct__law_book : Value}
    {w_is_integer : Addr} {od_is_integer an_is_integer : Option Addr} {sl_is_integer : Array (Option Value)} {oc_is_integer kV_is_integer dc_is_integer pm_is_integer cd_is_integer ct_is_integer : Value}
    {w_is_between : Addr} {od_is_between an_is_between : Option Addr} {sl_is_between : Array (Option Value)} {oc_is_between kV_is_between dc_is_between pm_is_between cd_is_between ct_is_between : Value}
    {w_are_masters : Addr} {od_are_masters an_are_masters : Option Addr} {sl_are_masters : Array (Option Value)} {oc_are_masters kV_are_masters dc_are_masters pm_are_masters cd_are_masters ct_are_masters : Value}
    {w_look_at_rule : Addr} {od_look_at_rule an_look_at_rule : Option Addr} {sl_look_at_rule : Array (Option Value)} {oc_look_at_rule kV_look_at_rule dc_look_at_rule pm_look_at_rule cd_look_at_rule ct_look_at_rule : Value}
    {w_are_words : Addr} {od_are_words an_are_words : Option Addr} {sl_are_words : Array (Option Value)} {oc_are_words kV_are_words dc_are_words pm_are_words cd_are_words ct_are_words : Value}
    {w_Book___init__ : Addr} {od_Book___init__ an_Book___init__ : Option Addr} {sl_Book___init__ : Array (Option Value)} {oc_Book___init__ kV_Book___init__ dc_Book___init__ pm_Book___init__ cd_Book___init__ ct_Book___init__ : Value}
    {w_Book_rule : Addr} {od_Book_rule an_Book_rule : Option Addr} {sl_Book_rule : Array (Option Value)} {oc_Book_rule kV_Book_rule dc_Book_rule pm_Book_rule cd_Book_rule ct_Book_rule : Value}
    {p_Book_rule : Addr} {rs_Book_rule : List Value}
    {w_Book_words : Addr} {od_Book_words an_Book_words : Option Addr} {sl_Book_words : Array (Option Value)} {oc_Book_words kV_Book_words dc_Book_words pm_Book_words cd_Book_words ct_Book_words : Value}
    {p_Book_words : Addr} {rs_Book_words : List Value}
    {w_Book_levels : Addr} {od_Book_levels an_Book_levels : Option Addr} {sl_Book_levels : Array (Option Value)} {oc_Book_levels kV_Book_levels dc_Book_levels pm_Book_levels cd_Book_levels ct_Book_levels : Value}
    {p_Book_levels : Addr} {rs_Book_levels : List Value}
    {w_Book_fields : Addr} {od_Book_fields an_Book_fields : Option Addr} {sl_Book_fields : Array (Option Value)} {oc_Book_fields kV_Book_fields dc_Book_fields pm_Book_fields cd_Book_fields ct_Book_fields : Value}
    {p_Book_fields : Addr} {rs_Book_fields : List Value}
    {w_Book_masters : Addr} {od_Book_masters an_Book_masters : Option Addr} {sl_Book_masters : Array (Option Value)} {oc_Book_masters kV_Book_masters dc_Book_masters pm_Book_masters cd_Book_masters ct_Book_masters : Value}
    {p_Book_masters : Addr} {rs_Book_masters : List Value}
    {w_Book_frame : Addr} {od_Book_frame an_Book_frame : Option Addr} {sl_Book_frame : Array (Option Value)} {oc_Book_frame kV_Book_frame dc_Book_frame pm_Book_frame cd_Book_frame ct_Book_frame : Value}
    {w_Book___eq__ : Addr} {od_Book___eq__ an_Book___eq__ : Option Addr} {sl_Book___eq__ : Array (Option Value)} {oc_Book___eq__ kV_Book___eq__ dc_Book___eq__ pm_Book___eq__ cd_Book___eq__ ct_Book___eq__ : Value}
    {w_Book_turned : Addr} {od_Book_turned an_Book_turned : Option Addr} {sl_Book_turned : Array (Option Value)} {oc_Book_turned kV_Book_turned dc_Book_turned pm_Book_turned cd_Book_turned ct_Book_turned : Value}
    {w__law_turned : Addr} {od__law_turned an__law_turned : Option Addr} {sl__law_turned : Array (Option Value)} {oc__law_turned kV__law_turned dc__law_turned pm__law_turned cd__law_turned ct__law_turned : Value}
    {w__law_spoil : Addr} {od__law_spoil an__law_spoil : Option Addr} {sl__law_spoil : Array (Option Value)} {oc__law_spoil kV__law_spoil dc__law_spoil pm__law_spoil cd__law_spoil ct__law_spoil : Value}
    {w__law_told : Addr} {od__law_told an__law_told : Option Addr} {sl__law_told : Array (Option Value)} {oc__law_told kV__law_told dc__law_told pm__law_told cd__law_told ct__law_told : Value}
    {w__law_int : Addr} {od__law_int an__law_int : Option Addr} {sl__law_int : Array (Option Value)} {oc__law_int kV__law_int dc__law_int pm__law_int cd__law_int ct__law_int : Value}
    {w__law_due : Addr} {od__law_due an__law_due : Option Addr} {sl__law_due : Array (Option Value)} {oc__law_due kV__law_due dc__law_due pm__law_due cd__law_due ct__law_due : Value}
    {w_law : Addr} {od_law an_law : Option Addr} {sl_law : Array (Option Value)} {oc_law kV_law dc_law pm_law cd_law ct_law : Value}
    (gc_Book : PySem.W.nsIn C.K mainGlobals "Book" = some (some (.ref (C.ad "Book"))))
    (gc_CopyError : PySem.W.nsIn C.K mainGlobals "CopyError" = some (some (.ref (C.ad "CopyError"))))
    (gc_InvalidMasters : PySem.W.nsIn C.K mainGlobals "InvalidMasters" = some (some (.ref (C.ad "InvalidMasters"))))
    (gc_InvalidRule : PySem.W.nsIn C.K mainGlobals "InvalidRule" = some (some (.ref (C.ad "InvalidRule"))))
    (gc_InvalidSize : PySem.W.nsIn C.K mainGlobals "InvalidSize" = some (some (.ref (C.ad "InvalidSize"))))
    (gc_InvalidWords : PySem.W.nsIn C.K mainGlobals "InvalidWords" = some (some (.ref (C.ad "InvalidWords"))))
    (pg_Book : PySem.W.plainGet C.K (C.ad "Book") Str.empty = true)
    (po_Book : PySem.W.plainOver C.K (C.ad "Book") = true)
    (sa_Book : PySem.W.findIn C.K (.ref (C.ad "Book")) "__setattr__" = some (some (.builtin "object.__setattr__")))
    (ic_Book : PySem.W.isClsIn C.K (C.ad "Book") = true)
    (ns_POINTS : PySem.W.nsIn C.K mainGlobals "POINTS" = some (some (.ref d_POINTS)))
    (hd_POINTS : C.K.lookup d_POINTS = some ⟨.type "dict", none, .dict #[⟨PyData.keyHash C.w.params "above", .str "above" tk_POINTS_0, .ref q_POINTS_0⟩, ⟨PyData.keyHash C.w.params "back", .str "back" tk_POINTS_1, .ref q_POINTS_1⟩, ⟨PyData.keyHash C.w.params "cut", .str "cut" tk_POINTS_2, .ref q_POINTS_2⟩, ⟨PyData.keyHash C.w.params "spread", .str "spread" tk_POINTS_3, .ref q_POINTS_3⟩, ⟨PyData.keyHash C.w.params "tie", .str "tie" tk_POINTS_4, .ref q_POINTS_4⟩] n_POINTS, #[]⟩)
    (hk_POINTS_0 : C.K.lookup q_POINTS_0 = some ⟨.type "tuple", od_POINTS_0, .seq #[.str "keeps" t_POINTS_0_0, .str "wins" t_POINTS_0_1] n_POINTS_0, sl_POINTS_0⟩)
    (hk_POINTS_1 : C.K.lookup q_POINTS_1 = some ⟨.type "tuple", od_POINTS_1, .seq #[.str "follows" t_POINTS_1_0, .str "own" t_POINTS_1_1] n_POINTS_1, sl_POINTS_1⟩)
    (hk_POINTS_2 : C.K.lookup q_POINTS_2 = some ⟨.type "tuple", od_POINTS_2, .seq #[.str "empty" t_POINTS_2_0, .str "values" t_POINTS_2_1] n_POINTS_2, sl_POINTS_2⟩)
    (hk_POINTS_3 : C.K.lookup q_POINTS_3 = some ⟨.type "tuple", od_POINTS_3, .seq #[.str "now" t_POINTS_3_0, .str "one" t_POINTS_3_1, .str "read" t_POINTS_3_2] n_POINTS_3, sl_POINTS_3⟩)
    (hk_POINTS_4 : C.K.lookup q_POINTS_4 = some ⟨.type "tuple", od_POINTS_4, .seq #[.str "all" t_POINTS_4_0, .str "keeps" t_POINTS_4_1, .str "same" t_POINTS_4_2] n_POINTS_4, sl_POINTS_4⟩)
    (lo_POINTS : (d_POINTS == sysModules) = false)
    (xi_InvalidMasters : PySem.W.excIn C.K (C.ad "InvalidMasters") [.type "ValueError", .type "Exception", .type "BaseException", .type "object"] "ValueError.__new__" = true)
    (ek_InvalidMasters : PySem.W.keepIn C.K (.ref (C.ad "InvalidMasters")) = true)
    (eb_InvalidMasters : PySem.W.subIn C.K (.ref (C.ad "InvalidMasters")) (.type "BaseException") = some true)
    (et_InvalidMasters : PySem.W.typeIn C.K (.ref (C.ad "InvalidMasters")) = some (.type "type"))
    (xi_InvalidSize : PySem.W.excIn C.K (C.ad "InvalidSize") [.type "ValueError", .type "Exception", .type "BaseException", .type "object"] "ValueError.__new__" = true)
    (ek_InvalidSize : PySem.W.keepIn C.K (.ref (C.ad "InvalidSize")) = true)
    (eb_InvalidSize : PySem.W.subIn C.K (.ref (C.ad "InvalidSize")) (.type "BaseException") = some true)
    (et_InvalidSize : PySem.W.typeIn C.K (.ref (C.ad "InvalidSize")) = some (.type "type"))
    (xi_InvalidWords : PySem.W.excIn C.K (C.ad "InvalidWords") [.type "ValueError", .type "Exception", .type "BaseException", .type "object"] "ValueError.__new__" = true)
    (ek_InvalidWords : PySem.W.keepIn C.K (.ref (C.ad "InvalidWords")) = true)
    (eb_InvalidWords : PySem.W.subIn C.K (.ref (C.ad "InvalidWords")) (.type "BaseException") = some true)
    (et_InvalidWords : PySem.W.typeIn C.K (.ref (C.ad "InvalidWords")) = some (.type "type"))
    (hg_MOST_ROWS : PySem.W.nsIn C.K mainGlobals "MOST_ROWS" = some (some (.int 3 tg_MOST_ROWS)))
    (hg_WORDS : PySem.W.nsIn C.K mainGlobals "WORDS" = some (some (.ref q_WORDS)))
    (hk_WORDS : C.K.lookup q_WORDS = some ⟨.type "tuple", od_WORDS, .seq #[.str "cut" t_WORDS_0, .str "drop" t_WORDS_1, .str "loose" t_WORDS_2, .str "reset" t_WORDS_3, .str "tie" t_WORDS_4] n_WORDS, sl_WORDS⟩)
    (ca_Book : PySem.W.findIn C.K (.ref (C.ad "Book")) "__class__" = some (some (.builtin "object.__class__")))
    (cn_Book : PySem.W.specialIn C.K (.builtin "object.__class__") "__get__" = some (some (.builtin "getset_descriptor.__get__")))
    (ct_Book : PySem.W.takesIn C.K (.builtin "object.__class__") = some true)
    (cm_Book : PySem.W.mroIn C.K (C.ad "Book") (.type "object") = some true)
    (no_Book_NoneType : PySem.W.kitOne C.K (.type "NoneType") (.ref (C.ad "Book")) = some false)
    (no_Book_bool : PySem.W.kitOne C.K (.type "bool") (.ref (C.ad "Book")) = some false)
    (no_Book_int : PySem.W.kitOne C.K (.type "int") (.ref (C.ad "Book")) = some false)
    (no_Book_str : PySem.W.kitOne C.K (.type "str") (.ref (C.ad "Book")) = some false)
    (no_Book_tuple : PySem.W.kitOne C.K (.type "tuple") (.ref (C.ad "Book")) = some false)
    (no_Book_list : PySem.W.kitOne C.K (.type "list") (.ref (C.ad "Book")) = some false)
    (no_Book_dict : PySem.W.kitOne C.K (.type "dict") (.ref (C.ad "Book")) = some false)
    (nl_Book : PySem.W.notFirst C.K (C.ad "Book") (.type "list") = true)
    (m_InvalidMasters__InvalidMasters : PySem.W.exmOne C.K (.ref (C.ad "InvalidMasters")) (.ref (C.ad "InvalidMasters")) = some true)
    (m_InvalidMasters__InvalidRule : PySem.W.exmOne C.K (.ref (C.ad "InvalidMasters")) (.ref (C.ad "InvalidRule")) = some false)
    (m_InvalidMasters__InvalidSize : PySem.W.exmOne C.K (.ref (C.ad "InvalidMasters")) (.ref (C.ad "InvalidSize")) = some false)
    (m_InvalidMasters__InvalidWords : PySem.W.exmOne C.K (.ref (C.ad "InvalidMasters")) (.ref (C.ad "InvalidWords")) = some false)
    (m_InvalidRule__InvalidMasters : PySem.W.exmOne C.K (.ref (C.ad "InvalidRule")) (.ref (C.ad "InvalidMasters")) = some false)
    (m_InvalidRule__InvalidRule : PySem.W.exmOne C.K (.ref (C.ad "InvalidRule")) (.ref (C.ad "InvalidRule")) = some true)
    (m_InvalidRule__InvalidSize : PySem.W.exmOne C.K (.ref (C.ad "InvalidRule")) (.ref (C.ad "InvalidSize")) = some false)
    (m_InvalidRule__InvalidWords : PySem.W.exmOne C.K (.ref (C.ad "InvalidRule")) (.ref (C.ad "InvalidWords")) = some false)
    (m_InvalidSize__InvalidMasters : PySem.W.exmOne C.K (.ref (C.ad "InvalidSize")) (.ref (C.ad "InvalidMasters")) = some false)
    (m_InvalidSize__InvalidRule : PySem.W.exmOne C.K (.ref (C.ad "InvalidSize")) (.ref (C.ad "InvalidRule")) = some false)
    (m_InvalidSize__InvalidSize : PySem.W.exmOne C.K (.ref (C.ad "InvalidSize")) (.ref (C.ad "InvalidSize")) = some true)
    (m_InvalidSize__InvalidWords : PySem.W.exmOne C.K (.ref (C.ad "InvalidSize")) (.ref (C.ad "InvalidWords")) = some false)
    (m_InvalidWords__InvalidMasters : PySem.W.exmOne C.K (.ref (C.ad "InvalidWords")) (.ref (C.ad "InvalidMasters")) = some false)
    (m_InvalidWords__InvalidRule : PySem.W.exmOne C.K (.ref (C.ad "InvalidWords")) (.ref (C.ad "InvalidRule")) = some false)
    (m_InvalidWords__InvalidSize : PySem.W.exmOne C.K (.ref (C.ad "InvalidWords")) (.ref (C.ad "InvalidSize")) = some false)
    (m_InvalidWords__InvalidWords : PySem.W.exmOne C.K (.ref (C.ad "InvalidWords")) (.ref (C.ad "InvalidWords")) = some true)
    (xl_InvalidRule : C.K.lookup (C.ad "InvalidRule") = some (PySem.excClassObj nm_InvalidRule qn_InvalidRule (C.ad "InvalidRule") N_InvalidRule bs_InvalidRule [.ref (C.ad "CopyError"), .type "ValueError", .type "Exception", .type "BaseException", .type "object"] true sn_InvalidRule sub_InvalidRule ab_InvalidRule col_InvalidRule dd_InvalidRule k0_InvalidRule k1_InvalidRule k2_InvalidRule k3_InvalidRule k5_InvalidRule "ValueError.__new__"))
    (xs_InvalidRule : PySem.W.findIn C.K (.ref (C.ad "InvalidRule")) "__setattr__" = some (some (.builtin "object.__setattr__")))
    (ek_InvalidRule : PySem.W.keepIn C.K (.ref (C.ad "InvalidRule")) = true)
    (eb_InvalidRule : PySem.W.subIn C.K (.ref (C.ad "InvalidRule")) (.type "BaseException") = some true)
    (et_InvalidRule : PySem.W.typeIn C.K (.ref (C.ad "InvalidRule")) = some (.type "type"))
    (a_InvalidRule___init__ : PySem.W.findIn C.K (.ref (C.ad "InvalidRule")) "__init__" = some (some (.ref w_InvalidRule___init__)))
    (ty_InvalidRule___init__ : PySem.W.typeIn C.K (.ref w_InvalidRule___init__) = some (.type "function"))
    (l_InvalidRule___init__ : C.K.lookup w_InvalidRule___init__ = some ⟨oc_InvalidRule___init__, od_InvalidRule___init__, .func (PySem.W.fnOf "__init__" "InvalidRule.__init__" (defArgs st_InvalidRule___init__) (defBody st_InvalidRule___init__) (defScope st_InvalidRule___init__) .none kV_InvalidRule___init__ dc_InvalidRule___init__ pm_InvalidRule___init__ an_InvalidRule___init__ cd_InvalidRule___init__ ct_InvalidRule___init__), sl_InvalidRule___init__⟩)
    (c_InvalidRule___init__ : PySem.W.codeIn C.K cd_InvalidRule___init__ "InvalidRule.__init__" = true)
    (k_InvalidRule___init__ : PySem.W.keepIn C.K (.ref w_InvalidRule___init__) = true)
    (no_f_InvalidRule_point : PySem.W.findIn C.K (.ref (C.ad "InvalidRule")) "point" = some none)
    (at_Book_many_fields : PySem.W.findIn C.K (.ref (C.ad "Book")) "many_fields" = some (some (.ref p_Book_many_fields)))
    (ge_Book_many_fields : PySem.W.specialIn C.K (.ref p_Book_many_fields) "__get__" = some (some (.builtin "member_descriptor.__get__")))
    (tk_Book_many_fields : PySem.W.takesIn C.K (.ref p_Book_many_fields) = some true)
    (ty_Book_many_fields : PySem.W.typeIn C.K (.ref p_Book_many_fields) = some (.type "member_descriptor"))
    (ix_Book_many_fields : PySem.W.slotIn C.K p_Book_many_fields (C.ad "Book") = some 0)
    (at_Book_many_values : PySem.W.findIn C.K (.ref (C.ad "Book")) "many_values" = some (some (.ref p_Book_many_values)))
    (ge_Book_many_values : PySem.W.specialIn C.K (.ref p_Book_many_values) "__get__" = some (some (.builtin "member_descriptor.__get__")))
    (tk_Book_many_values : PySem.W.takesIn C.K (.ref p_Book_many_values) = some true)
    (ty_Book_many_values : PySem.W.typeIn C.K (.ref p_Book_many_values) = some (.type "member_descriptor"))
    (ix_Book_many_values : PySem.W.slotIn C.K p_Book_many_values (C.ad "Book") = some 1)
    (at_Book_points : PySem.W.findIn C.K (.ref (C.ad "Book")) "points" = some (some (.ref p_Book_points)))
    (ge_Book_points : PySem.W.specialIn C.K (.ref p_Book_points) "__get__" = some (some (.builtin "member_descriptor.__get__")))
    (tk_Book_points : PySem.W.takesIn C.K (.ref p_Book_points) = some true)
    (ty_Book_points : PySem.W.typeIn C.K (.ref p_Book_points) = some (.type "member_descriptor"))
    (ix_Book_points : PySem.W.slotIn C.K p_Book_points (C.ad "Book") = some 2)
    (at_Book_told_words : PySem.W.findIn C.K (.ref (C.ad "Book")) "told_words" = some (some (.ref p_Book_told_words)))
    (ge_Book_told_words : PySem.W.specialIn C.K (.ref p_Book_told_words) "__get__" = some (some (.builtin "member_descriptor.__get__")))
    (tk_Book_told_words : PySem.W.takesIn C.K (.ref p_Book_told_words) = some true)
    (ty_Book_told_words : PySem.W.typeIn C.K (.ref p_Book_told_words) = some (.type "member_descriptor"))
    (ix_Book_told_words : PySem.W.slotIn C.K p_Book_told_words (C.ad "Book") = some 3)
    (at_Book_tops : PySem.W.findIn C.K (.ref (C.ad "Book")) "tops" = some (some (.ref p_Book_tops)))
    (ge_Book_tops : PySem.W.specialIn C.K (.ref p_Book_tops) "__get__" = some (some (.builtin "member_descriptor.__get__")))
    (tk_Book_tops : PySem.W.takesIn C.K (.ref p_Book_tops) = some true)
    (ty_Book_tops : PySem.W.typeIn C.K (.ref p_Book_tops) = some (.type "member_descriptor"))
    (ix_Book_tops : PySem.W.slotIn C.K p_Book_tops (C.ad "Book") = some 4)
    (ya_InvalidMasters : PySem.W.findIn C.K (.ref (C.ad "InvalidMasters")) "__getattribute__" = some (some (.builtin "BaseException.__getattribute__")))
    (yb_InvalidMasters : PySem.W.findIn C.K (.ref (C.ad "InvalidMasters")) "__getattr__" = some none)
    (yc_InvalidMasters : PySem.W.subIn C.K (.ref (C.ad "InvalidMasters")) (.type "BaseException") = some true)
    (yd_InvalidMasters : PySem.W.hasDictIn C.K (C.ad "InvalidMasters") = true)
    (ca_InvalidMasters : PySem.W.findIn C.K (.ref (C.ad "InvalidMasters")) "__class__" = some (some (.builtin "object.__class__")))
    (cn_InvalidMasters : PySem.W.specialIn C.K (.builtin "object.__class__") "__get__" = some (some (.builtin "getset_descriptor.__get__")))
    (ct_InvalidMasters : PySem.W.takesIn C.K (.builtin "object.__class__") = some true)
    (cm_InvalidMasters : PySem.W.mroIn C.K (C.ad "InvalidMasters") (.type "object") = some true)
    (no_x_InvalidMasters_CopyError : PySem.W.kitOne C.K (.ref (C.ad "InvalidMasters")) (.ref (C.ad "CopyError")) = some true)
    (ya_InvalidRule : PySem.W.findIn C.K (.ref (C.ad "InvalidRule")) "__getattribute__" = some (some (.builtin "BaseException.__getattribute__")))
    (yb_InvalidRule : PySem.W.findIn C.K (.ref (C.ad "InvalidRule")) "__getattr__" = some none)
    (yc_InvalidRule : PySem.W.subIn C.K (.ref (C.ad "InvalidRule")) (.type "BaseException") = some true)
    (yd_InvalidRule : PySem.W.hasDictIn C.K (C.ad "InvalidRule") = true)
    (yn_InvalidRule_point : PySem.W.findIn C.K (.ref (C.ad "InvalidRule")) "point" = some none)
    (hz_all : PySem.W.nsIn C.K mainGlobals "all" = some none)
    (hz_bool : PySem.W.nsIn C.K mainGlobals "bool" = some none)
    (hz_dict : PySem.W.nsIn C.K mainGlobals "dict" = some none)
    (hz_enumerate : PySem.W.nsIn C.K mainGlobals "enumerate" = some none)
    (hz_int : PySem.W.nsIn C.K mainGlobals "int" = some none)
    (hz_isinstance : PySem.W.nsIn C.K mainGlobals "isinstance" = some none)
    (hz_len : PySem.W.nsIn C.K mainGlobals "len" = some none)
    (hz_list : PySem.W.nsIn C.K mainGlobals "list" = some none)
    (hz_max : PySem.W.nsIn C.K mainGlobals "max" = some none)
    (hz_range : PySem.W.nsIn C.K mainGlobals "range" = some none)
    (hz_set : PySem.W.nsIn C.K mainGlobals "set" = some none)
    (hz_sorted : PySem.W.nsIn C.K mainGlobals "sorted" = some none)
    (hz_str : PySem.W.nsIn C.K mainGlobals "str" = some none)
    (hz_tuple : PySem.W.nsIn C.K mainGlobals "tuple" = some none)
    (a__law_mix : PySem.W.nsIn C.K mainGlobals "_law_mix" = some (some (.ref w__law_mix)))
    (l__law_mix : C.K.lookup w__law_mix = some ⟨oc__law_mix, od__law_mix, .func (PySem.W.fnOf "_law_mix" "_law_mix" (defArgs st__law_mix) (defBody st__law_mix) (defScope st__law_mix) .none kV__law_mix dc__law_mix pm__law_mix an__law_mix cd__law_mix ct__law_mix), sl__law_mix⟩)
    (c__law_mix : PySem.W.codeIn C.K cd__law_mix "_law_mix" = true)
    (k__law_mix : PySem.W.keepIn C.K (.ref w__law_mix) = true)
    (a__law_next : PySem.W.nsIn C.K mainGlobals "_law_next" = some (some (.ref w__law_next)))
    (l__law_next : C.K.lookup w__law_next = some ⟨oc__law_next, od__law_next, .func (PySem.W.fnOf "_law_next" "_law_next" (defArgs st__law_next) (defBody st__law_next) (defScope st__law_next) .none kV__law_next dc__law_next pm__law_next an__law_next cd__law_next ct__law_next), sl__law_next⟩)
    (c__law_next : PySem.W.codeIn C.K cd__law_next "_law_next" = true)
    (k__law_next : PySem.W.keepIn C.K (.ref w__law_next) = true)
    (a__law_points : PySem.W.nsIn C.K mainGlobals "_law_points" = some (some (.ref w__law_points)))
    (l__law_points : C.K.lookup w__law_points = some ⟨oc__law_points, od__law_points, .func (PySem.W.fnOf "_law_points" "_law_points" (defArgs st__law_points) (defBody st__law_points) (defScope st__law_points) .none kV__law_points dc__law_points pm__law_points an__law_points cd__law_points ct__law_points), sl__law_points⟩)
    (c__law_points : PySem.W.codeIn C.K cd__law_points "_law_points" = true)
    (k__law_points : PySem.W.keepIn C.K (.ref w__law_points) = true)
    (a__law_rule : PySem.W.nsIn C.K mainGlobals "_law_rule" = some (some (.ref w__law_rule)))
    (l__law_rule : C.K.lookup w__law_rule = some ⟨oc__law_rule, od__law_rule, .func (PySem.W.fnOf "_law_rule" "_law_rule" (defArgs st__law_rule) (defBody st__law_rule) (defScope st__law_rule) .none kV__law_rule dc__law_rule pm__law_rule an__law_rule cd__law_rule ct__law_rule), sl__law_rule⟩)
    (c__law_rule : PySem.W.codeIn C.K cd__law_rule "_law_rule" = true)
    (k__law_rule : PySem.W.keepIn C.K (.ref w__law_rule) = true)
    (a__law_book : PySem.W.nsIn C.K mainGlobals "_law_book" = some (some (.ref w__law_book)))
    (l__law_book : C.K.lookup w__law_book = some ⟨oc__law_book, od__law_book, .func (PySem.W.fnOf "_law_book" "_law_book" (defArgs st__law_book) (defBody st__law_book) (defScope st__law_book) .none kV__law_book dc__law_book pm__law_book an__law_book cd__law_book ct__law_book), sl__law_book⟩)
    (c__law_book : PySem.W.codeIn C.K cd__law_book "_law_book" = true)
    (k__law_book : PySem.W.keepIn C.K (.ref w__law_book) = true)
    (a_is_integer : PySem.W.nsIn C.K mainGlobals "is_integer" = some (some (.ref w_is_integer)))
    (l_is_integer : C.K.lookup w_is_integer = some ⟨oc_is_integer, od_is_integer, .func (PySem.W.fnOf "is_integer" "is_integer" (defArgs st_is_integer) (defBody st_is_integer) (defScope st_is_integer) .none kV_is_integer dc_is_integer pm_is_integer an_is_integer cd_is_integer ct_is_integer), sl_is_integer⟩)
    (c_is_integer : PySem.W.codeIn C.K cd_is_integer "is_integer" = true)
    (k_is_integer : PySem.W.keepIn C.K (.ref w_is_integer) = true)
    (a_is_between : PySem.W.nsIn C.K mainGlobals "is_between" = some (some (.ref w_is_between)))
    (l_is_between : C.K.lookup w_is_between = some ⟨oc_is_between, od_is_between, .func (PySem.W.fnOf "is_between" "is_between" (defArgs st_is_between) (defBody st_is_between) (defScope st_is_between) .none kV_is_between dc_is_between pm_is_between an_is_between cd_is_between ct_is_between), sl_is_between⟩)
    (c_is_between : PySem.W.codeIn C.K cd_is_between "is_between" = true)
    (k_is_between : PySem.W.keepIn C.K (.ref w_is_between) = true)
    (a_are_masters : PySem.W.nsIn C.K mainGlobals "are_masters" = some (some (.ref w_are_masters)))
    (l_are_masters : C.K.lookup w_are_masters = some ⟨oc_are_masters, od_are_masters, .func (PySem.W.fnOf "are_masters" "are_masters" (defArgs st_are_masters) (defBody st_are_masters) (defScope st_are_masters) .none kV_are_masters dc_are_masters pm_are_masters an_are_masters cd_are_masters ct_are_masters), sl_are_masters⟩)
    (c_are_masters : PySem.W.codeIn C.K cd_are_masters "are_masters" = true)
    (k_are_masters : PySem.W.keepIn C.K (.ref w_are_masters) = true)
    (a_look_at_rule : PySem.W.nsIn C.K mainGlobals "look_at_rule" = some (some (.ref w_look_at_rule)))
    (l_look_at_rule : C.K.lookup w_look_at_rule = some ⟨oc_look_at_rule, od_look_at_rule, .func (PySem.W.fnOf "look_at_rule" "look_at_rule" (defArgs st_look_at_rule) (defBody st_look_at_rule) (defScope st_look_at_rule) .none kV_look_at_rule dc_look_at_rule pm_look_at_rule an_look_at_rule cd_look_at_rule ct_look_at_rule), sl_look_at_rule⟩)
    (c_look_at_rule : PySem.W.codeIn C.K cd_look_at_rule "look_at_rule" = true)
    (k_look_at_rule : PySem.W.keepIn C.K (.ref w_look_at_rule) = true)
    (a_are_words : PySem.W.nsIn C.K mainGlobals "are_words" = some (some (.ref w_are_words)))
    (l_are_words : C.K.lookup w_are_words = some ⟨oc_are_words, od_are_words, .func (PySem.W.fnOf "are_words" "are_words" (defArgs st_are_words) (defBody st_are_words) (defScope st_are_words) .none kV_are_words dc_are_words pm_are_words an_are_words cd_are_words ct_are_words), sl_are_words⟩)
    (c_are_words : PySem.W.codeIn C.K cd_are_words "are_words" = true)
    (k_are_words : PySem.W.keepIn C.K (.ref w_are_words) = true)
    (a_Book___init__ : PySem.W.findIn C.K (.ref (C.ad "Book")) "__init__" = some (some (.ref w_Book___init__)))
    (i_Book___init__ : PySem.W.isFn C.K (.ref w_Book___init__) = true)
    (l_Book___init__ : C.K.lookup w_Book___init__ = some ⟨oc_Book___init__, od_Book___init__, .func (PySem.W.fnOf "__init__" "Book.__init__" (defArgs st_Book___init__) (defBody st_Book___init__) (defScope st_Book___init__) .none kV_Book___init__ dc_Book___init__ pm_Book___init__ an_Book___init__ cd_Book___init__ ct_Book___init__), sl_Book___init__⟩)
    (c_Book___init__ : PySem.W.codeIn C.K cd_Book___init__ "Book.__init__" = true)
    (k_Book___init__ : PySem.W.keepIn C.K (.ref w_Book___init__) = true)
    (mk_Book : PySem.W.makesIn C.K (C.ad "Book") = true)
    (kc_Book : PySem.W.keepIn C.K (.ref (C.ad "Book")) = true)
    (a_Book_rule : PySem.W.findIn C.K (.ref (C.ad "Book")) "rule" = some (some (.ref p_Book_rule)))
    (g_Book_rule : PySem.W.specialIn C.K (.ref p_Book_rule) "__get__" = some (some (.builtin "property.__get__")))
    (t_Book_rule : PySem.W.takesIn C.K (.ref p_Book_rule) = some true)
    (r_Book_rule : PySem.W.recIn C.K p_Book_rule "property" = some (.ref w_Book_rule :: rs_Book_rule))
    (l_Book_rule : C.K.lookup w_Book_rule = some ⟨oc_Book_rule, od_Book_rule, .func (PySem.W.fnOf "rule" "Book.rule" (defArgs st_Book_rule) (defBody st_Book_rule) (defScope st_Book_rule) .none kV_Book_rule dc_Book_rule pm_Book_rule an_Book_rule cd_Book_rule ct_Book_rule), sl_Book_rule⟩)
    (c_Book_rule : PySem.W.codeIn C.K cd_Book_rule "Book.rule" = true)
    (k_Book_rule : PySem.W.keepIn C.K (.ref w_Book_rule) = true)
    (a_Book_words : PySem.W.findIn C.K (.ref (C.ad "Book")) "words" = some (some (.ref p_Book_words)))
    (g_Book_words : PySem.W.specialIn C.K (.ref p_Book_words) "__get__" = some (some (.builtin "property.__get__")))
    (t_Book_words : PySem.W.takesIn C.K (.ref p_Book_words) = some true)
    (r_Book_words : PySem.W.recIn C.K p_Book_words "property" = some (.ref w_Book_words :: rs_Book_words))
    (l_Book_words : C.K.lookup w_Book_words = some ⟨oc_Book_words, od_Book_words, .func (PySem.W.fnOf "words" "Book.words" (defArgs st_Book_words) (defBody st_Book_words) (defScope st_Book_words) .none kV_Book_words dc_Book_words pm_Book_words an_Book_words cd_Book_words ct_Book_words), sl_Book_words⟩)
    (c_Book_words : PySem.W.codeIn C.K cd_Book_words "Book.words" = true)
    (k_Book_words : PySem.W.keepIn C.K (.ref w_Book_words) = true)
    (a_Book_levels : PySem.W.findIn C.K (.ref (C.ad "Book")) "levels" = some (some (.ref p_Book_levels)))
    (g_Book_levels : PySem.W.specialIn C.K (.ref p_Book_levels) "__get__" = some (some (.builtin "property.__get__")))
    (t_Book_levels : PySem.W.takesIn C.K (.ref p_Book_levels) = some true)
    (r_Book_levels : PySem.W.recIn C.K p_Book_levels "property" = some (.ref w_Book_levels :: rs_Book_levels))
    (l_Book_levels : C.K.lookup w_Book_levels = some ⟨oc_Book_levels, od_Book_levels, .func (PySem.W.fnOf "levels" "Book.levels" (defArgs st_Book_levels) (defBody st_Book_levels) (defScope st_Book_levels) .none kV_Book_levels dc_Book_levels pm_Book_levels an_Book_levels cd_Book_levels ct_Book_levels), sl_Book_levels⟩)
    (c_Book_levels : PySem.W.codeIn C.K cd_Book_levels "Book.levels" = true)
    (k_Book_levels : PySem.W.keepIn C.K (.ref w_Book_levels) = true)
    (a_Book_fields : PySem.W.findIn C.K (.ref (C.ad "Book")) "fields" = some (some (.ref p_Book_fields)))
    (g_Book_fields : PySem.W.specialIn C.K (.ref p_Book_fields) "__get__" = some (some (.builtin "property.__get__")))
    (t_Book_fields : PySem.W.takesIn C.K (.ref p_Book_fields) = some true)
    (r_Book_fields : PySem.W.recIn C.K p_Book_fields "property" = some (.ref w_Book_fields :: rs_Book_fields))
    (l_Book_fields : C.K.lookup w_Book_fields = some ⟨oc_Book_fields, od_Book_fields, .func (PySem.W.fnOf "fields" "Book.fields" (defArgs st_Book_fields) (defBody st_Book_fields) (defScope st_Book_fields) .none kV_Book_fields dc_Book_fields pm_Book_fields an_Book_fields cd_Book_fields ct_Book_fields), sl_Book_fields⟩)
    (c_Book_fields : PySem.W.codeIn C.K cd_Book_fields "Book.fields" = true)
    (k_Book_fields : PySem.W.keepIn C.K (.ref w_Book_fields) = true)
    (a_Book_masters : PySem.W.findIn C.K (.ref (C.ad "Book")) "masters" = some (some (.ref p_Book_masters)))
    (g_Book_masters : PySem.W.specialIn C.K (.ref p_Book_masters) "__get__" = some (some (.builtin "property.__get__")))
    (t_Book_masters : PySem.W.takesIn C.K (.ref p_Book_masters) = some true)
    (r_Book_masters : PySem.W.recIn C.K p_Book_masters "property" = some (.ref w_Book_masters :: rs_Book_masters))
    (l_Book_masters : C.K.lookup w_Book_masters = some ⟨oc_Book_masters, od_Book_masters, .func (PySem.W.fnOf "masters" "Book.masters" (defArgs st_Book_masters) (defBody st_Book_masters) (defScope st_Book_masters) .none kV_Book_masters dc_Book_masters pm_Book_masters an_Book_masters cd_Book_masters ct_Book_masters), sl_Book_masters⟩)
    (c_Book_masters : PySem.W.codeIn C.K cd_Book_masters "Book.masters" = true)
    (k_Book_masters : PySem.W.keepIn C.K (.ref w_Book_masters) = true)
    (a_Book_frame : PySem.W.findIn C.K (.ref (C.ad "Book")) "frame" = some (some (.ref w_Book_frame)))
    (i_Book_frame : PySem.W.isFn C.K (.ref w_Book_frame) = true)
    (l_Book_frame : C.K.lookup w_Book_frame = some ⟨oc_Book_frame, od_Book_frame, .func (PySem.W.fnOf "frame" "Book.frame" (defArgs st_Book_frame) (defBody st_Book_frame) (defScope st_Book_frame) .none kV_Book_frame dc_Book_frame pm_Book_frame an_Book_frame cd_Book_frame ct_Book_frame), sl_Book_frame⟩)
    (c_Book_frame : PySem.W.codeIn C.K cd_Book_frame "Book.frame" = true)
    (k_Book_frame : PySem.W.keepIn C.K (.ref w_Book_frame) = true)
    (a_Book___eq__ : PySem.W.findIn C.K (.ref (C.ad "Book")) "__eq__" = some (some (.ref w_Book___eq__)))
    (i_Book___eq__ : PySem.W.isFn C.K (.ref w_Book___eq__) = true)
    (l_Book___eq__ : C.K.lookup w_Book___eq__ = some ⟨oc_Book___eq__, od_Book___eq__, .func (PySem.W.fnOf "__eq__" "Book.__eq__" (defArgs st_Book___eq__) (defBody st_Book___eq__) (defScope st_Book___eq__) .none kV_Book___eq__ dc_Book___eq__ pm_Book___eq__ an_Book___eq__ cd_Book___eq__ ct_Book___eq__), sl_Book___eq__⟩)
    (c_Book___eq__ : PySem.W.codeIn C.K cd_Book___eq__ "Book.__eq__" = true)
    (k_Book___eq__ : PySem.W.keepIn C.K (.ref w_Book___eq__) = true)
    (nw_Book___eq__ : PySem.W.notFirst C.K (C.ad "Book") (.ref (C.ad "Book")) = true)
    (a_Book_turned : PySem.W.findIn C.K (.ref (C.ad "Book")) "turned" = some (some (.ref w_Book_turned)))
    (i_Book_turned : PySem.W.isFn C.K (.ref w_Book_turned) = true)
    (l_Book_turned : C.K.lookup w_Book_turned = some ⟨oc_Book_turned, od_Book_turned, .func (PySem.W.fnOf "turned" "Book.turned" (defArgs st_Book_turned) (defBody st_Book_turned) (defScope st_Book_turned) .none kV_Book_turned dc_Book_turned pm_Book_turned an_Book_turned cd_Book_turned ct_Book_turned), sl_Book_turned⟩)
    (c_Book_turned : PySem.W.codeIn C.K cd_Book_turned "Book.turned" = true)
    (k_Book_turned : PySem.W.keepIn C.K (.ref w_Book_turned) = true)
    (a__law_turned : PySem.W.nsIn C.K mainGlobals "_law_turned" = some (some (.ref w__law_turned)))
    (l__law_turned : C.K.lookup w__law_turned = some ⟨oc__law_turned, od__law_turned, .func (PySem.W.fnOf "_law_turned" "_law_turned" (defArgs st__law_turned) (defBody st__law_turned) (defScope st__law_turned) .none kV__law_turned dc__law_turned pm__law_turned an__law_turned cd__law_turned ct__law_turned), sl__law_turned⟩)
    (c__law_turned : PySem.W.codeIn C.K cd__law_turned "_law_turned" = true)
    (k__law_turned : PySem.W.keepIn C.K (.ref w__law_turned) = true)
    (a__law_spoil : PySem.W.nsIn C.K mainGlobals "_law_spoil" = some (some (.ref w__law_spoil)))
    (l__law_spoil : C.K.lookup w__law_spoil = some ⟨oc__law_spoil, od__law_spoil, .func (PySem.W.fnOf "_law_spoil" "_law_spoil" (defArgs st__law_spoil) (defBody st__law_spoil) (defScope st__law_spoil) .none kV__law_spoil dc__law_spoil pm__law_spoil an__law_spoil cd__law_spoil ct__law_spoil), sl__law_spoil⟩)
    (c__law_spoil : PySem.W.codeIn C.K cd__law_spoil "_law_spoil" = true)
    (k__law_spoil : PySem.W.keepIn C.K (.ref w__law_spoil) = true)
    (a__law_told : PySem.W.nsIn C.K mainGlobals "_law_told" = some (some (.ref w__law_told)))
    (l__law_told : C.K.lookup w__law_told = some ⟨oc__law_told, od__law_told, .func (PySem.W.fnOf "_law_told" "_law_told" (defArgs st__law_told) (defBody st__law_told) (defScope st__law_told) .none kV__law_told dc__law_told pm__law_told an__law_told cd__law_told ct__law_told), sl__law_told⟩)
    (c__law_told : PySem.W.codeIn C.K cd__law_told "_law_told" = true)
    (k__law_told : PySem.W.keepIn C.K (.ref w__law_told) = true)
    (a__law_int : PySem.W.nsIn C.K mainGlobals "_law_int" = some (some (.ref w__law_int)))
    (l__law_int : C.K.lookup w__law_int = some ⟨oc__law_int, od__law_int, .func (PySem.W.fnOf "_law_int" "_law_int" (defArgs st__law_int) (defBody st__law_int) (defScope st__law_int) .none kV__law_int dc__law_int pm__law_int an__law_int cd__law_int ct__law_int), sl__law_int⟩)
    (c__law_int : PySem.W.codeIn C.K cd__law_int "_law_int" = true)
    (k__law_int : PySem.W.keepIn C.K (.ref w__law_int) = true)
    (a__law_due : PySem.W.nsIn C.K mainGlobals "_law_due" = some (some (.ref w__law_due)))
    (l__law_due : C.K.lookup w__law_due = some ⟨oc__law_due, od__law_due, .func (PySem.W.fnOf "_law_due" "_law_due" (defArgs st__law_due) (defBody st__law_due) (defScope st__law_due) .none kV__law_due dc__law_due pm__law_due an__law_due cd__law_due ct__law_due), sl__law_due⟩)
    (c__law_due : PySem.W.codeIn C.K cd__law_due "_law_due" = true)
    (k__law_due : PySem.W.keepIn C.K (.ref w__law_due) = true)
    (a_law : PySem.W.nsIn C.K mainGlobals "law" = some (some (.ref w_law)))
    (l_law : C.K.lookup w_law = some ⟨oc_law, od_law, .func (PySem.W.fnOf "law" "law" (defArgs st_law) (defBody st_law) (defScope st_law) .none kV_law dc_law pm_law an_law cd_law ct_law), sl_law⟩)
    (c_law : PySem.W.codeIn C.K cd_law "law" = true)
    (k_law : PySem.W.keepIn C.K (.ref w_law) = true) : Fx C where
  c_Book := ⟨⟨.ref (C.ad "Book"), .ref (C.ad "Book"), PySem.W.mg_of X G gc_Book, rfl, fun ι n H => .gl "Book"⟩⟩
  d_POINTS := ⟨⟨d_POINTS, _, _, PySem.W.mg_of X G ns_POINTS, ⟨hd_POINTS, ⟨⟨_, tk_POINTS_0, rfl, rfl⟩, ⟨⟨_, tk_POINTS_1, rfl, rfl⟩, ⟨⟨_, tk_POINTS_2, rfl, rfl⟩, ⟨⟨_, tk_POINTS_3, rfl, rfl⟩, ⟨⟨_, tk_POINTS_4, rfl, rfl⟩, True.intro⟩⟩⟩⟩⟩, lo_POINTS⟩, kd_look hd_POINTS (.cons (v := .ref q_POINTS_0) rfl (fun ι n H => .tup (vs := [V.str "keeps", V.str "wins"]) (.inr ⟨_, _, _, hk_POINTS_0, rfl, rfl, by simp [sizeLine_eq], (.cons ⟨t_POINTS_0_0, rfl⟩ (.cons ⟨t_POINTS_0_1, rfl⟩ .nil))⟩) (.cons (.str _) (.cons (.str _) .nil))) (.cons (v := .ref q_POINTS_1) rfl (fun ι n H => .tup (vs := [V.str "follows", V.str "own"]) (.inr ⟨_, _, _, hk_POINTS_1, rfl, rfl, by simp [sizeLine_eq], (.cons ⟨t_POINTS_1_0, rfl⟩ (.cons ⟨t_POINTS_1_1, rfl⟩ .nil))⟩) (.cons (.str _) (.cons (.str _) .nil))) (.cons (v := .ref q_POINTS_2) rfl (fun ι n H => .tup (vs := [V.str "empty", V.str "values"]) (.inr ⟨_, _, _, hk_POINTS_2, rfl, rfl, by simp [sizeLine_eq], (.cons ⟨t_POINTS_2_0, rfl⟩ (.cons ⟨t_POINTS_2_1, rfl⟩ .nil))⟩) (.cons (.str _) (.cons (.str _) .nil))) (.cons (v := .ref q_POINTS_3) rfl (fun ι n H => .tup (vs := [V.str "now", V.str "one", V.str "read"]) (.inr ⟨_, _, _, hk_POINTS_3, rfl, rfl, by simp [sizeLine_eq], (.cons ⟨t_POINTS_3_0, rfl⟩ (.cons ⟨t_POINTS_3_1, rfl⟩ (.cons ⟨t_POINTS_3_2, rfl⟩ .nil)))⟩) (.cons (.str _) (.cons (.str _) (.cons (.str _) .nil)))) (.cons (v := .ref q_POINTS_4) rfl (fun ι n H => .tup (vs := [V.str "all", V.str "keeps", V.str "same"]) (.inr ⟨_, _, _, hk_POINTS_4, rfl, rfl, by simp [sizeLine_eq], (.cons ⟨t_POINTS_4_0, rfl⟩ (.cons ⟨t_POINTS_4_1, rfl⟩ (.cons ⟨t_POINTS_4_2, rfl⟩ .nil)))⟩) (.cons (.str _) (.cons (.str _) (.cons (.str _) .nil)))) .nil)))))⟩⟩
  e_InvalidMasters := ⟨⟨_, _, _, _, PySem.F.excBase_ValueError, xi_InvalidMasters⟩, PySem.W.mg_of X G gc_InvalidMasters, ek_InvalidMasters, eb_InvalidMasters, et_InvalidMasters⟩
  e_InvalidSize := ⟨⟨_, _, _, _, PySem.F.excBase_ValueError, xi_InvalidSize⟩, PySem.W.mg_of X G gc_InvalidSize, ek_InvalidSize, eb_InvalidSize, et_InvalidSize⟩
  e_InvalidWords := ⟨⟨_, _, _, _, PySem.F.excBase_ValueError, xi_InvalidWords⟩, PySem.W.mg_of X G gc_InvalidWords, ek_InvalidWords, eb_InvalidWords, et_InvalidWords⟩
  g_MOST_ROWS := ⟨⟨.int 3, _, PySem.W.mg_of X G hg_MOST_ROWS, ⟨_, rfl⟩, fun ι n H => .int _⟩⟩
  g_WORDS := ⟨⟨.ref q_WORDS, .ref q_WORDS, PySem.W.mg_of X G hg_WORDS, rfl, (fun ι n H => .tup (vs := [V.str "cut", V.str "drop", V.str "loose", V.str "reset", V.str "tie"]) (.inr ⟨_, _, _, hk_WORDS, rfl, rfl, by simp [sizeLine_eq], (.cons ⟨t_WORDS_0, rfl⟩ (.cons ⟨t_WORDS_1, rfl⟩ (.cons ⟨t_WORDS_2, rfl⟩ (.cons ⟨t_WORDS_3, rfl⟩ (.cons ⟨t_WORDS_4, rfl⟩ .nil)))))⟩) (.cons (.str _) (.cons (.str _) (.cons (.str _) (.cons (.str _) (.cons (.str _) .nil))))))⟩⟩
  i_Book := ⟨⟨_, sl_Book⟩, ⟨pg_Book, ic_Book, po_Book, sa_Book⟩, ⟨ca_Book, cn_Book, ct_Book, cm_Book⟩, fun t ht => by
      simp only [List.mem_cons, List.not_mem_nil, or_false] at ht
      rcases ht with rfl | rfl | rfl | rfl | rfl | rfl | rfl
      · exact no_Book_NoneType
      · exact no_Book_bool
      · exact no_Book_int
      · exact no_Book_str
      · exact no_Book_tuple
      · exact no_Book_list
      · exact no_Book_dict⟩
  k_POINTS := ⟨⟨d_POINTS, _, _, PySem.W.mg_of X G ns_POINTS, ⟨hd_POINTS, ⟨⟨_, tk_POINTS_0, rfl, rfl⟩, ⟨⟨_, tk_POINTS_1, rfl, rfl⟩, ⟨⟨_, tk_POINTS_2, rfl, rfl⟩, ⟨⟨_, tk_POINTS_3, rfl, rfl⟩, ⟨⟨_, tk_POINTS_4, rfl, rfl⟩, True.intro⟩⟩⟩⟩⟩, lo_POINTS⟩, rfl⟩⟩
  l_Book := nl_Book
  m_InvalidMasters__InvalidMasters := m_InvalidMasters__InvalidMasters
  m_InvalidMasters__InvalidRule := m_InvalidMasters__InvalidRule
  m_InvalidMasters__InvalidSize := m_InvalidMasters__InvalidSize
  m_InvalidMasters__InvalidWords := m_InvalidMasters__InvalidWords
  m_InvalidRule__InvalidMasters := m_InvalidRule__InvalidMasters
  m_InvalidRule__InvalidRule := m_InvalidRule__InvalidRule
  m_InvalidRule__InvalidSize := m_InvalidRule__InvalidSize
  m_InvalidRule__InvalidWords := m_InvalidRule__InvalidWords
  m_InvalidSize__InvalidMasters := m_InvalidSize__InvalidMasters
  m_InvalidSize__InvalidRule := m_InvalidSize__InvalidRule
  m_InvalidSize__InvalidSize := m_InvalidSize__InvalidSize
  m_InvalidSize__InvalidWords := m_InvalidSize__InvalidWords
  m_InvalidWords__InvalidMasters := m_InvalidWords__InvalidMasters
  m_InvalidWords__InvalidRule := m_InvalidWords__InvalidRule
  m_InvalidWords__InvalidSize := m_InvalidWords__InvalidSize
  m_InvalidWords__InvalidWords := m_InvalidWords__InvalidWords
  n_InvalidRule := ⟨PySem.W.mg_of X G gc_InvalidRule, ⟨⟨_, _, _, _, _, _, _, _, _, _, _, _, _, _, _, xl_InvalidRule, rfl⟩, xs_InvalidRule, eb_InvalidRule, et_InvalidRule, ek_InvalidRule⟩, _, _, _, a_InvalidRule___init__, ty_InvalidRule___init__, fn_init1 (fun_mk (st := st_InvalidRule___init__) l_InvalidRule___init__ c_InvalidRule___init__ k_InvalidRule___init__) sc_InvalidRule___init__ ⟨⟨_, _, _, _, _, _, _, _, _, _, _, _, _, _, _, xl_InvalidRule, rfl⟩, xs_InvalidRule, eb_InvalidRule, et_InvalidRule, ek_InvalidRule⟩ no_f_InvalidRule_point rfl, ((fun_mk (st := st_InvalidRule___init__) l_InvalidRule___init__ c_InvalidRule___init__ k_InvalidRule___init__).binds (ps := ["self", "point"]) fun _ _ _ _ _ _ us hl => match us, hl with | [_, _], _ => rfl)⟩
  s_Book_many_fields := ⟨⟨nms_Book, 0, p_Book_many_fields, sl_Book, by decide +kernel, rfl, ⟨pg_Book, ic_Book, po_Book, sa_Book⟩, ⟨at_Book_many_fields, ge_Book_many_fields, tk_Book_many_fields, ty_Book_many_fields, ix_Book_many_fields, by decide⟩⟩⟩
  s_Book_many_values := ⟨⟨nms_Book, 1, p_Book_many_values, sl_Book, by decide +kernel, rfl, ⟨pg_Book, ic_Book, po_Book, sa_Book⟩, ⟨at_Book_many_values, ge_Book_many_values, tk_Book_many_values, ty_Book_many_values, ix_Book_many_values, by decide⟩⟩⟩
  s_Book_points := ⟨⟨nms_Book, 2, p_Book_points, sl_Book, by decide +kernel, rfl, ⟨pg_Book, ic_Book, po_Book, sa_Book⟩, ⟨at_Book_points, ge_Book_points, tk_Book_points, ty_Book_points, ix_Book_points, by decide⟩⟩⟩
  s_Book_told_words := ⟨⟨nms_Book, 3, p_Book_told_words, sl_Book, by decide +kernel, rfl, ⟨pg_Book, ic_Book, po_Book, sa_Book⟩, ⟨at_Book_told_words, ge_Book_told_words, tk_Book_told_words, ty_Book_told_words, ix_Book_told_words, by decide⟩⟩⟩
  s_Book_tops := ⟨⟨nms_Book, 4, p_Book_tops, sl_Book, by decide +kernel, rfl, ⟨pg_Book, ic_Book, po_Book, sa_Book⟩, ⟨at_Book_tops, ge_Book_tops, tk_Book_tops, ty_Book_tops, ix_Book_tops, by decide⟩⟩⟩
  w_CopyError__InvalidMasters := xi_of (PySem.W.mg_of X G gc_CopyError) (List.forall_mem_cons.mpr ⟨⟨⟨ya_InvalidMasters, yb_InvalidMasters, yc_InvalidMasters, yd_InvalidMasters, ca_InvalidMasters, cn_InvalidMasters, ct_InvalidMasters, cm_InvalidMasters⟩, no_x_InvalidMasters_CopyError⟩, fun _ z => nomatch z⟩)
  x_InvalidMasters := PySem.W.mg_of X G gc_InvalidMasters
  x_InvalidRule := PySem.W.mg_of X G gc_InvalidRule
  x_InvalidSize := PySem.W.mg_of X G gc_InvalidSize
  x_InvalidWords := PySem.W.mg_of X G gc_InvalidWords
  y_InvalidRule_point := ⟨⟨ya_InvalidRule, yb_InvalidRule, yc_InvalidRule, yd_InvalidRule⟩, yn_InvalidRule_point⟩
  z_all := PySem.W.mg_none_of X G hz_all
  z_bool := PySem.W.mg_none_of X G hz_bool
  z_dict := PySem.W.mg_none_of X G hz_dict
  z_enumerate := PySem.W.mg_none_of X G hz_enumerate
  z_int := PySem.W.mg_none_of X G hz_int
  z_isinstance := PySem.W.mg_none_of X G hz_isinstance
  z_len := PySem.W.mg_none_of X G hz_len
  z_list := PySem.W.mg_none_of X G hz_list
  z_max := PySem.W.mg_none_of X G hz_max
  z_range := PySem.W.mg_none_of X G hz_range
  z_set := PySem.W.mg_none_of X G hz_set
  z_sorted := PySem.W.mg_none_of X G hz_sorted
  z_str := PySem.W.mg_none_of X G hz_str
  z_tuple := PySem.W.mg_none_of X G hz_tuple
  D__law_mix := ⟨_, _, fun_mk (st := st__law_mix) l__law_mix c__law_mix k__law_mix, ((fun_mk (st := st__law_mix) l__law_mix c__law_mix k__law_mix).binds (ps := ["_law_script", "_law_seed"]) fun _ _ _ _ _ _ us hl => match us, hl with | [_, _], _ => rfl), PySem.W.mg_of X G a__law_mix, k__law_mix⟩
  D__law_next := ⟨_, _, fun_mk (st := st__law_next) l__law_next c__law_next k__law_next, ((fun_mk (st := st__law_next) l__law_next c__law_next k__law_next).binds (ps := ["_law_h", "_law_bound"]) fun _ _ _ _ _ _ us hl => match us, hl with | [_, _], _ => rfl), PySem.W.mg_of X G a__law_next, k__law_next⟩
  D__law_points := ⟨_, _, fun_mk (st := st__law_points) l__law_points c__law_points k__law_points, ((fun_mk (st := st__law_points) l__law_points c__law_points k__law_points).binds (ps := []) fun _ _ _ _ _ _ us hl => match us, hl with | [], _ => rfl), PySem.W.mg_of X G a__law_points, k__law_points⟩
  D__law_rule := ⟨_, _, fun_mk (st := st__law_rule) l__law_rule c__law_rule k__law_rule, ((fun_mk (st := st__law_rule) l__law_rule c__law_rule k__law_rule).binds (ps := ["_law_h"]) fun _ _ _ _ _ _ us hl => match us, hl with | [_], _ => rfl), PySem.W.mg_of X G a__law_rule, k__law_rule⟩
  D__law_book := ⟨_, _, fun_mk (st := st__law_book) l__law_book c__law_book k__law_book, ((fun_mk (st := st__law_book) l__law_book c__law_book k__law_book).binds (ps := ["_law_h", "_law_rows", "_law_fields", "_law_levels", "_law_some"]) fun _ _ _ _ _ _ us hl => match us, hl with | [_, _, _, _, _], _ => rfl), PySem.W.mg_of X G a__law_book, k__law_book⟩
  D_is_integer := ⟨_, _, fun_mk (st := st_is_integer) l_is_integer c_is_integer k_is_integer, ((fun_mk (st := st_is_integer) l_is_integer c_is_integer k_is_integer).binds (ps := ["value"]) fun _ _ _ _ _ _ us hl => match us, hl with | [_], _ => rfl), PySem.W.mg_of X G a_is_integer, k_is_integer⟩
  D_is_between := ⟨_, _, fun_mk (st := st_is_between) l_is_between c_is_between k_is_between, ((fun_mk (st := st_is_between) l_is_between c_is_between k_is_between).binds (ps := ["value", "least", "most"]) fun _ _ _ _ _ _ us hl => match us, hl with | [_, _, _], _ => rfl), PySem.W.mg_of X G a_is_between, k_is_between⟩
  D_are_masters := ⟨_, _, fun_mk (st := st_are_masters) l_are_masters c_are_masters k_are_masters, ((fun_mk (st := st_are_masters) l_are_masters c_are_masters k_are_masters).binds (ps := ["value"]) fun _ _ _ _ _ _ us hl => match us, hl with | [_], _ => rfl), PySem.W.mg_of X G a_are_masters, k_are_masters⟩
  D_look_at_rule := ⟨_, _, fun_mk (st := st_look_at_rule) l_look_at_rule c_look_at_rule k_look_at_rule, ((fun_mk (st := st_look_at_rule) l_look_at_rule c_look_at_rule k_look_at_rule).binds (ps := ["rule"]) fun _ _ _ _ _ _ us hl => match us, hl with | [_], _ => rfl), PySem.W.mg_of X G a_look_at_rule, k_look_at_rule⟩
  D_are_words := ⟨_, _, fun_mk (st := st_are_words) l_are_words c_are_words k_are_words, ((fun_mk (st := st_are_words) l_are_words c_are_words k_are_words).binds (ps := ["value"]) fun _ _ _ _ _ _ us hl => match us, hl with | [_], _ => rfl), PySem.W.mg_of X G a_are_words, k_are_words⟩
  D_Book___init__ := ⟨_, _, fun_mk (st := st_Book___init__) l_Book___init__ c_Book___init__ k_Book___init__, ((fun_mk (st := st_Book___init__) l_Book___init__ c_Book___init__ k_Book___init__).binds (ps := ["self", "masters", "fields", "levels", "rule", "words"]) fun _ _ _ _ _ _ us hl => match us, hl with | [_, _, _, _, _, _], _ => rfl), ⟨mk_Book, a_Book___init__, i_Book___init__, kc_Book⟩, PySem.W.mg_of X G gc_Book⟩
  D_Book_rule := ⟨_, _, fun_mk (st := st_Book_rule) l_Book_rule c_Book_rule k_Book_rule, ((fun_mk (st := st_Book_rule) l_Book_rule c_Book_rule k_Book_rule).binds (ps := ["self"]) fun _ _ _ _ _ _ us hl => match us, hl with | [_], _ => rfl), ⟨p_Book_rule, ⟨a_Book_rule, g_Book_rule, t_Book_rule, rs_Book_rule, r_Book_rule⟩⟩, ⟨pg_Book, ic_Book, po_Book, sa_Book⟩, _, sl_Book⟩
  D_Book_words := ⟨_, _, fun_mk (st := st_Book_words) l_Book_words c_Book_words k_Book_words, ((fun_mk (st := st_Book_words) l_Book_words c_Book_words k_Book_words).binds (ps := ["self"]) fun _ _ _ _ _ _ us hl => match us, hl with | [_], _ => rfl), ⟨p_Book_words, ⟨a_Book_words, g_Book_words, t_Book_words, rs_Book_words, r_Book_words⟩⟩, ⟨pg_Book, ic_Book, po_Book, sa_Book⟩, _, sl_Book⟩
  D_Book_levels := ⟨_, _, fun_mk (st := st_Book_levels) l_Book_levels c_Book_levels k_Book_levels, ((fun_mk (st := st_Book_levels) l_Book_levels c_Book_levels k_Book_levels).binds (ps := ["self"]) fun _ _ _ _ _ _ us hl => match us, hl with | [_], _ => rfl), ⟨p_Book_levels, ⟨a_Book_levels, g_Book_levels, t_Book_levels, rs_Book_levels, r_Book_levels⟩⟩, ⟨pg_Book, ic_Book, po_Book, sa_Book⟩, _, sl_Book⟩
  D_Book_fields := ⟨_, _, fun_mk (st := st_Book_fields) l_Book_fields c_Book_fields k_Book_fields, ((fun_mk (st := st_Book_fields) l_Book_fields c_Book_fields k_Book_fields).binds (ps := ["self"]) fun _ _ _ _ _ _ us hl => match us, hl with | [_], _ => rfl), ⟨p_Book_fields, ⟨a_Book_fields, g_Book_fields, t_Book_fields, rs_Book_fields, r_Book_fields⟩⟩, ⟨pg_Book, ic_Book, po_Book, sa_Book⟩, _, sl_Book⟩
  D_Book_masters := ⟨_, _, fun_mk (st := st_Book_masters) l_Book_masters c_Book_masters k_Book_masters, ((fun_mk (st := st_Book_masters) l_Book_masters c_Book_masters k_Book_masters).binds (ps := ["self"]) fun _ _ _ _ _ _ us hl => match us, hl with | [_], _ => rfl), ⟨p_Book_masters, ⟨a_Book_masters, g_Book_masters, t_Book_masters, rs_Book_masters, r_Book_masters⟩⟩, ⟨pg_Book, ic_Book, po_Book, sa_Book⟩, _, sl_Book⟩
  D_Book_frame := ⟨_, _, fun_mk (st := st_Book_frame) l_Book_frame c_Book_frame k_Book_frame, ((fun_mk (st := st_Book_frame) l_Book_frame c_Book_frame k_Book_frame).binds (ps := ["self"]) fun _ _ _ _ _ _ us hl => match us, hl with | [_], _ => rfl), ⟨a_Book_frame, i_Book_frame, k_Book_frame⟩, ⟨pg_Book, ic_Book, po_Book, sa_Book⟩, _, sl_Book⟩
  D_Book___eq__ := ⟨_, _, fun_mk (st := st_Book___eq__) l_Book___eq__ c_Book___eq__ k_Book___eq__, ((fun_mk (st := st_Book___eq__) l_Book___eq__ c_Book___eq__ k_Book___eq__).binds (ps := ["self", "other"]) fun _ _ _ _ _ _ us hl => match us, hl with | [_, _], _ => rfl), a_Book___eq__, i_Book___eq__, nw_Book___eq__, ⟨pg_Book, ic_Book, po_Book, sa_Book⟩, _, sl_Book⟩
  D_Book_turned := ⟨_, _, fun_mk (st := st_Book_turned) l_Book_turned c_Book_turned k_Book_turned, ((fun_mk (st := st_Book_turned) l_Book_turned c_Book_turned k_Book_turned).binds (ps := ["self", "point", "word"]) fun _ _ _ _ _ _ us hl => match us, hl with | [_, _, _], _ => rfl), ⟨a_Book_turned, i_Book_turned, k_Book_turned⟩, ⟨pg_Book, ic_Book, po_Book, sa_Book⟩, _, sl_Book⟩
  D__law_turned := ⟨_, _, fun_mk (st := st__law_turned) l__law_turned c__law_turned k__law_turned, ((fun_mk (st := st__law_turned) l__law_turned c__law_turned k__law_turned).binds (ps := ["_law_book_here", "_law_point", "_law_word"]) fun _ _ _ _ _ _ us hl => match us, hl with | [_, _, _], _ => rfl), PySem.W.mg_of X G a__law_turned, k__law_turned⟩
  D__law_spoil := ⟨_, _, fun_mk (st := st__law_spoil) l__law_spoil c__law_spoil k__law_spoil, ((fun_mk (st := st__law_spoil) l__law_spoil c__law_spoil k__law_spoil).binds (ps := ["_law_h", "_law_t"]) fun _ _ _ _ _ _ us hl => match us, hl with | [_, _], _ => rfl), PySem.W.mg_of X G a__law_spoil, k__law_spoil⟩
  D__law_told := ⟨_, _, fun_mk (st := st__law_told) l__law_told c__law_told k__law_told, ((fun_mk (st := st__law_told) l__law_told c__law_told k__law_told).binds (ps := ["_law_t"]) fun _ _ _ _ _ _ us hl => match us, hl with | [_], _ => rfl), PySem.W.mg_of X G a__law_told, k__law_told⟩
  D__law_int := ⟨_, _, fun_mk (st := st__law_int) l__law_int c__law_int k__law_int, ((fun_mk (st := st__law_int) l__law_int c__law_int k__law_int).binds (ps := ["_law_value", "_law_low", "_law_high"]) fun _ _ _ _ _ _ us hl => match us, hl with | [_, _, _], _ => rfl), PySem.W.mg_of X G a__law_int, k__law_int⟩
  D__law_due := ⟨_, _, fun_mk (st := st__law_due) l__law_due c__law_due k__law_due, ((fun_mk (st := st__law_due) l__law_due c__law_due k__law_due).binds (ps := ["_law_t"]) fun _ _ _ _ _ _ us hl => match us, hl with | [_], _ => rfl), PySem.W.mg_of X G a__law_due, k__law_due⟩
  D_law := ⟨_, _, fun_mk (st := st_law) l_law c_law k_law, ((fun_mk (st := st_law) l_law c_law k_law).binds (ps := ["_law_script"]) fun _ _ _ _ _ _ us hl => match us, hl with | [_], _ => rfl), PySem.W.mg_of X G a_law, k_law⟩
/-- where the classes stand -/
def adf (as a_Book a_CopyError a_InvalidMasters a_InvalidRule a_InvalidSize a_InvalidWords : Addr) : String → Addr := fun g => if g = "#s" then as else if g = "Book" then a_Book else if g = "CopyError" then a_CopyError else if g = "InvalidMasters" then a_InvalidMasters else if g = "InvalidRule" then a_InvalidRule else if g = "InvalidSize" then a_InvalidSize else if g = "InvalidWords" then a_InvalidWords else 0
def slf : String → Option (List Str) := fun g => if g = "Book" then some nms_Book else none
theorem adf_Book {as a_Book a_CopyError a_InvalidMasters a_InvalidRule a_InvalidSize a_InvalidWords : Addr} : adf as a_Book a_CopyError a_InvalidMasters a_InvalidRule a_InvalidSize a_InvalidWords "Book" = a_Book := by
  unfold adf
  rw [if_neg (by decide), if_pos rfl]
theorem adf_CopyError {as a_Book a_CopyError a_InvalidMasters a_InvalidRule a_InvalidSize a_InvalidWords : Addr} : adf as a_Book a_CopyError a_InvalidMasters a_InvalidRule a_InvalidSize a_InvalidWords "CopyError" = a_CopyError := by
  unfold adf
  rw [if_neg (by decide), if_neg (by decide), if_pos rfl]
theorem adf_InvalidMasters {as a_Book a_CopyError a_InvalidMasters a_InvalidRule a_InvalidSize a_InvalidWords : Addr} : adf as a_Book a_CopyError a_InvalidMasters a_InvalidRule a_InvalidSize a_InvalidWords "InvalidMasters" = a_InvalidMasters := by
  unfold adf
  rw [if_neg (by decide), if_neg (by decide), if_neg (by decide), if_pos rfl]
theorem adf_InvalidRule {as a_Book a_CopyError a_InvalidMasters a_InvalidRule a_InvalidSize a_InvalidWords : Addr} : adf as a_Book a_CopyError a_InvalidMasters a_InvalidRule a_InvalidSize a_InvalidWords "InvalidRule" = a_InvalidRule := by
  unfold adf
  rw [if_neg (by decide), if_neg (by decide), if_neg (by decide), if_neg (by decide), if_pos rfl]
theorem adf_InvalidSize {as a_Book a_CopyError a_InvalidMasters a_InvalidRule a_InvalidSize a_InvalidWords : Addr} : adf as a_Book a_CopyError a_InvalidMasters a_InvalidRule a_InvalidSize a_InvalidWords "InvalidSize" = a_InvalidSize := by
  unfold adf
  rw [if_neg (by decide), if_neg (by decide), if_neg (by decide), if_neg (by decide), if_neg (by decide), if_pos rfl]
theorem adf_InvalidWords {as a_Book a_CopyError a_InvalidMasters a_InvalidRule a_InvalidSize a_InvalidWords : Addr} : adf as a_Book a_CopyError a_InvalidMasters a_InvalidRule a_InvalidSize a_InvalidWords "InvalidWords" = a_InvalidWords := by
  unfold adf
  rw [if_neg (by decide), if_neg (by decide), if_neg (by decide), if_neg (by decide), if_neg (by decide), if_neg (by decide), if_pos rfl]
theorem adf_s {as a_Book a_CopyError a_InvalidMasters a_InvalidRule a_InvalidSize a_InvalidWords : Addr} : adf as a_Book a_CopyError a_InvalidMasters a_InvalidRule a_InvalidSize a_InvalidWords "#s" = as := by
  unfold adf
  rw [if_pos rfl]
theorem slf_Book : slf "Book" = some nms_Book := by
  unfold slf
  simp
theorem slf_CopyError : slf "CopyError" = none := by
  unfold slf
  simp
theorem slf_InvalidMasters : slf "InvalidMasters" = none := by
  unfold slf
  simp
theorem slf_InvalidRule : slf "InvalidRule" = none := by
  unfold slf
  simp
theorem slf_InvalidSize : slf "InvalidSize" = none := by
  unfold slf
  simp
theorem slf_InvalidWords : slf "InvalidWords" = none := by
  unfold slf
  simp
theorem all_mk {P : Program} {w : World} {K : PySem.W.Frag} {h : PySem.Heap} {mg : Str → Option Value} {fa : Addr} (X : K.In h) (G : h.Ns mainGlobals mg) (hfa : mg "law" = some (.ref fa))
    {a_Book a_CopyError a_InvalidMasters a_InvalidRule a_InvalidSize a_InvalidWords : Addr}
    {d_POINTS n_POINTS : Nat}
    {tk_POINTS_0 tk_POINTS_1 tk_POINTS_2 tk_POINTS_3 tk_POINTS_4 : Tok}
    {q_POINTS_0 n_POINTS_0 : Nat} {od_POINTS_0 : Option Addr} {sl_POINTS_0 : Array (Option Value)}
    {t_POINTS_0_0 t_POINTS_0_1 : Tok}
    {q_POINTS_1 n_POINTS_1 : Nat} {od_POINTS_1 : Option Addr} {sl_POINTS_1 : Array (Option Value)}
    {t_POINTS_1_0 t_POINTS_1_1 : Tok}
    {q_POINTS_2 n_POINTS_2 : Nat} {od_POINTS_2 : Option Addr} {sl_POINTS_2 : Array (Option Value)}
    {t_POINTS_2_0 t_POINTS_2_1 : Tok}
    {q_POINTS_3 n_POINTS_3 : Nat} {od_POINTS_3 : Option Addr} {sl_POINTS_3 : Array (Option Value)}
    {t_POINTS_3_0 t_POINTS_3_1 t_POINTS_3_2 : Tok}
    {q_POINTS_4 n_POINTS_4 : Nat} {od_POINTS_4 : Option Addr} {sl_POINTS_4 : Array (Option Value)}
    {t_POINTS_4_0 t_POINTS_4_1 t_POINTS_4_2 : Tok}
    {tg_MOST_ROWS : Tok}
    {q_WORDS n_WORDS : Nat} {od_WORDS : Option Addr} {sl_WORDS : Array (Option Value)}
    {t_WORDS_0 t_WORDS_1 t_WORDS_2 t_WORDS_3 t_WORDS_4 : Tok}
    {nm_InvalidRule qn_InvalidRule : Str} {N_InvalidRule : Addr} {bs_InvalidRule : List Value} {sn_InvalidRule : List Str} {sub_InvalidRule : List Value} {ab_InvalidRule : Bool} {col_InvalidRule : Option Bool} {dd_InvalidRule : Option Addr} {k0_InvalidRule k1_InvalidRule k2_InvalidRule k3_InvalidRule k5_InvalidRule : Option Value}
    {w_InvalidRule___init__ : Addr} {od_InvalidRule___init__ an_InvalidRule___init__ : Option Addr} {sl_InvalidRule___init__ : Array (Option Value)} {oc_InvalidRule___init__ kV_InvalidRule___init__ dc_InvalidRule___init__ pm_InvalidRule___init__ cd_InvalidRule___init__ ct_InvalidRule___init__ : Value}
    {p_Book_many_fields : Addr}
    {p_Book_many_values : Addr}
    {p_Book_points : Addr}
    {p_Book_told_words : Addr}
    {p_Book_tops : Addr}
    {w__law_mix : Addr} {od__law_mix an__law_mix : Option Addr} {sl__law_mix : Array (Option Value)} {oc__law_mix kV__law_mix dc__law_mix pm__law_mix cd__law_mix ct__law_mix : Value}
    {w__law_next : Addr} {od__law_next an__law_next : Option Addr} {sl__law_next : Array (Option Value)} {oc__law_next kV__law_next dc__law_next pm__law_next cd__law_next ct__law_next : Value}
    {w__law_points : Addr} {od__law_points an__law_points : Option Addr} {sl__law_points : Array (Option Value)} {oc__law_points kV__law_points dc__law_points pm__law_points cd__law_points ct__law_points : Value}
    {w__law_rule : Addr} {od__law_rule an__law_rule : Option Addr} {sl__law_rule : Array (Option Value)} {oc__law_rule kV__law_rule dc__law_rule pm__law_rule cd__law_rule ct__law_rule : Value}
    {w__law_book : Addr} {od__law_book an__law_book : Option Addr} {sl__law_book : Array (Option Value)} {oc__law_book kV__law_book dc__law_book pm__law_book cd__law_book ct__law_book : Value}
    {w_is_integer : Addr} {od_is_integer an_is_integer : Option Addr} {sl_is_integer : Array (Option Value)} {oc_is_integer kV_is_integer dc_is_integer pm_is_integer cd_is_integer ct_is_integer : Value}
    {w_is_between : Addr} {od_is_between an_is_between : Option Addr} {sl_is_between : Array (Option Value)} {oc_is_between kV_is_between dc_is_between pm_is_between cd_is_between ct_is_between : Value}
    {w_are_masters : Addr} {od_are_masters an_are_masters : Option Addr} {sl_are_masters : Array (Option Value)} {oc_are_masters kV_are_masters dc_are_masters pm_are_masters cd_are_masters ct_are_masters : Value}
    {w_look_at_rule : Addr} {od_look_at_rule an_look_at_rule : Option Addr} {sl_look_at_rule : Array (Option Value)} {oc_look_at_rule kV_look_at_rule dc_look_at_rule pm_look_at_rule cd_look_at_rule ct_look_at_rule : Value}
    {w_are_words : Addr} {od_are_words an_are_words : Option Addr} {sl_are_words : Array (Option Value)} {oc_are_words kV_are_words dc_are_words pm_are_words cd_are_words ct_are_words : Value}
    {w_Book___init__ : Addr} {od_Book___init__ an_Book___init__ : Option Addr} {sl_Book___init__ : Array (Option Value)} {oc_Book___init__ kV_Book___init__ dc_Book___init__ pm_Book___init__ cd_Book___init__ ct_Book___init__ : Value}
    {w_Book_rule : Addr} {od_Book_rule an_Book_rule : Option Addr} {sl_Book_rule : Array (Option Value)} {oc_Book_rule kV_Book_rule dc_Book_rule pm_Book_rule cd_Book_rule ct_Book_rule : Value}
    {p_Book_rule : Addr} {rs_Book_rule : List Value}
    {w_Book_words : Addr} {od_Book_words an_Book_words : Option Addr} {sl_Book_words : Array (Option Value)} {oc_Book_words kV_Book_words dc_Book_words pm_Book_words cd_Book_words ct_Book_words : Value}
    {p_Book_words : Addr} {rs_Book_words : List Value}
    {w_Book_levels : Addr} {od_Book_levels an_Book_levels : Option Addr} {sl_Book_levels : Array (Option Value)} {oc_Book_levels kV_Book_levels dc_Book_levels pm_Book_levels cd_Book_levels ct_Book_levels : Value}
    {p_Book_levels : Addr} {rs_Book_levels : List Value}
    {w_Book_fields : Addr} {od_Book_fields an_Book_fields : Option Addr} {sl_Book_fields : Array (Option Value)} {oc_Book_fields kV_Book_fields dc_Book_fields pm_Book_fields cd_Book_fields ct_Book_fields : Value}
    {p_Book_fields : Addr} {rs_Book_fields : List Value}
    {w_Book_masters : Addr} {od_Book_masters an_Book_masters : Option Addr} {sl_Book_masters : Array (Option Value)} {oc_Book_masters kV_Book_masters dc_Book_masters pm_Book_masters cd_Book_masters ct_Book_masters : Value}
    {p_Book_masters : Addr} {rs_Book_masters : List Value}
    {w_Book_frame : Addr} {od_Book_frame an_Book_frame : Option Addr} {sl_Book_frame : Array (Option Value)} {oc_Book_frame kV_Book_frame dc_Book_frame pm_Book_frame cd_Book_frame ct_Book_frame : Value}
    {w_Book___eq__ : Addr} {od_Book___eq__ an_Book___eq__ : Option Addr} {sl_Book___eq__ : Array (Option Value)} {oc_Book___eq__ kV_Book___eq__ dc_Book___eq__ pm_Book___eq__ cd_Book___eq__ ct_Book___eq__ : Value}
    {w_Book_turned : Addr} {od_Book_turned an_Book_turned : Option Addr} {sl_Book_turned : Array (Option Value)} {oc_Book_turned kV_Book_turned dc_Book_turned pm_Book_turned cd_Book_turned ct_Book_turned : Value}
    {w__law_turned : Addr} {od__law_turned an__law_turned : Option Addr} {sl__law_turned : Array (Option Value)} {oc__law_turned kV__law_turned dc__law_turned pm__law_turned cd__law_turned ct__law_turned : Value}
    {w__law_spoil : Addr} {od__law_spoil an__law_spoil : Option Addr} {sl__law_spoil : Array (Option Value)} {oc__law_spoil kV__law_spoil dc__law_spoil pm__law_spoil cd__law_spoil ct__law_spoil : Value}
    {w__law_told : Addr} {od__law_told an__law_told : Option Addr} {sl__law_told : Array (Option Value)} {oc__law_told kV__law_told dc__law_told pm__law_told cd__law_told ct__law_told : Value}
    {w__law_int : Addr} {od__law_int an__law_int : Option Addr} {sl__law_int : Array (Option Value)} {oc__law_int kV__law_int dc__law_int pm__law_int cd__law_int ct__law_int : Value}
    {w__law_due : Addr} {od__law_due an__law_due : Option Addr} {sl__law_due : Array (Option Value)} {oc__law_due kV__law_due dc__law_due pm__law_due cd__law_due ct__law_due : Value}
    {w_law : Addr} {od_law an_law : Option Addr} {sl_law : Array (Option Value)} {oc_law kV_law dc_law pm_law cd_law ct_law : Value}
    (gc_Book : PySem.W.nsIn K mainGlobals "Book" = some (some (.ref a_Book)))
    (gc_CopyError : PySem.W.nsIn K mainGlobals "CopyError" = some (some (.ref a_CopyError)))
    (gc_InvalidMasters : PySem.W.nsIn K mainGlobals "InvalidMasters" = some (some (.ref a_InvalidMasters)))
    (gc_InvalidRule : PySem.W.nsIn K mainGlobals "InvalidRule" = some (some (.ref a_InvalidRule)))
    (gc_InvalidSize : PySem.W.nsIn K mainGlobals "InvalidSize" = some (some (.ref a_InvalidSize)))
    (gc_InvalidWords : PySem.W.nsIn K mainGlobals "InvalidWords" = some (some (.ref a_InvalidWords)))
    (pg_Book : PySem.W.plainGet K a_Book Str.empty = true)
    (po_Book : PySem.W.plainOver K a_Book = true)
    (sa_Book : PySem.W.findIn K (.ref a_Book) "__setattr__" = some (some (.builtin "object.__setattr__")))
    (ic_Book : PySem.W.isClsIn K a_Book = true)
    (ns_POINTS : PySem.W.nsIn K mainGlobals "POINTS" = some (some (.ref d_POINTS)))
    (hd_POINTS : K.lookup d_POINTS = some ⟨.type "dict", none, .dict #[⟨PyData.keyHash w.params "above", .str "above" tk_POINTS_0, .ref q_POINTS_0⟩, ⟨PyData.keyHash w.params "back", .str "back" tk_POINTS_1, .ref q_POINTS_1⟩, ⟨PyData.keyHash w.params "cut", .str "cut" tk_POINTS_2, .ref q_POINTS_2⟩, ⟨PyData.keyHash w.params "spread", .str "spread" tk_POINTS_3, .ref q_POINTS_3⟩, ⟨PyData.keyHash w.params "tie", .str "tie" tk_POINTS_4, .ref q_POINTS_4⟩] n_POINTS, #[]⟩)
    (hk_POINTS_0 : K.lookup q_POINTS_0 = some ⟨.type "tuple", od_POINTS_0, .seq #[.str "keeps" t_POINTS_0_0, .str "wins" t_POINTS_0_1] n_POINTS_0, sl_POINTS_0⟩)
    (hk_POINTS_1 : K.lookup q_POINTS_1 = some ⟨.type "tuple", od_POINTS_1, .seq #[.str "follows" t_POINTS_1_0, .str "own" t_POINTS_1_1] n_POINTS_1, sl_POINTS_1⟩)
    (hk_POINTS_2 : K.lookup q_POINTS_2 = some ⟨.type "tuple", od_POINTS_2, .seq #[.str "empty" t_POINTS_2_0, .str "values" t_POINTS_2_1] n_POINTS_2, sl_POINTS_2⟩)
    (hk_POINTS_3 : K.lookup q_POINTS_3 = some ⟨.type "tuple", od_POINTS_3, .seq #[.str "now" t_POINTS_3_0, .str "one" t_POINTS_3_1, .str "read" t_POINTS_3_2] n_POINTS_3, sl_POINTS_3⟩)
    (hk_POINTS_4 : K.lookup q_POINTS_4 = some ⟨.type "tuple", od_POINTS_4, .seq #[.str "all" t_POINTS_4_0, .str "keeps" t_POINTS_4_1, .str "same" t_POINTS_4_2] n_POINTS_4, sl_POINTS_4⟩)
    (lo_POINTS : (d_POINTS == sysModules) = false)
    (xi_InvalidMasters : PySem.W.excIn K a_InvalidMasters [.type "ValueError", .type "Exception", .type "BaseException", .type "object"] "ValueError.__new__" = true)
    (ek_InvalidMasters : PySem.W.keepIn K (.ref a_InvalidMasters) = true)
    (eb_InvalidMasters : PySem.W.subIn K (.ref a_InvalidMasters) (.type "BaseException") = some true)
    (et_InvalidMasters : PySem.W.typeIn K (.ref a_InvalidMasters) = some (.type "type"))
    (xi_InvalidSize : PySem.W.excIn K a_InvalidSize [.type "ValueError", .type "Exception", .type "BaseException", .type "object"] "ValueError.__new__" = true)
    (ek_InvalidSize : PySem.W.keepIn K (.ref a_InvalidSize) = true)
    (eb_InvalidSize : PySem.W.subIn K (.ref a_InvalidSize) (.type "BaseException") = some true)
    (et_InvalidSize : PySem.W.typeIn K (.ref a_InvalidSize) = some (.type "type"))
    (xi_InvalidWords : PySem.W.excIn K a_InvalidWords [.type "ValueError", .type "Exception", .type "BaseException", .type "object"] "ValueError.__new__" = true)
    (ek_InvalidWords : PySem.W.keepIn K (.ref a_InvalidWords) = true)
    (eb_InvalidWords : PySem.W.subIn K (.ref a_InvalidWords) (.type "BaseException") = some true)
    (et_InvalidWords : PySem.W.typeIn K (.ref a_InvalidWords) = some (.type "type"))
    (hg_MOST_ROWS : PySem.W.nsIn K mainGlobals "MOST_ROWS" = some (some (.int 3 tg_MOST_ROWS)))
    (hg_WORDS : PySem.W.nsIn K mainGlobals "WORDS" = some (some (.ref q_WORDS)))
    (hk_WORDS : K.lookup q_WORDS = some ⟨.type "tuple", od_WORDS, .seq #[.str "cut" t_WORDS_0, .str "drop" t_WORDS_1, .str "loose" t_WORDS_2, .str "reset" t_WORDS_3, .str "tie" t_WORDS_4] n_WORDS, sl_WORDS⟩)
    (ca_Book : PySem.W.findIn K (.ref a_Book) "__class__" = some (some (.builtin "object.__class__")))
    (cn_Book : PySem.W.specialIn K (.builtin "object.__class__") "__get__" = some (some (.builtin "getset_descriptor.__get__")))
    (ct_Book : PySem.W.takesIn K (.builtin "object.__class__") = some true)
    (cm_Book : PySem.W.mroIn K a_Book (.type "object") = some true)
    (no_Book_NoneType : PySem.W.kitOne K (.type "NoneType") (.ref a_Book) = some false)
    (no_Book_bool : PySem.W.kitOne K (.type "bool") (.ref a_Book) = some false)
    (no_Book_int : PySem.W.kitOne K (.type "int") (.ref a_Book) = some false)
    (no_Book_str : PySem.W.kitOne K (.type "str") (.ref a_Book) = some false)
    (no_Book_tuple : PySem.W.kitOne K (.type "tuple") (.ref a_Book) = some false)
    (no_Book_list : PySem.W.kitOne K (.type "list") (.ref a_Book) = some false)
    (no_Book_dict : PySem.W.kitOne K (.type "dict") (.ref a_Book) = some false)
    (nl_Book : PySem.W.notFirst K a_Book (.type "list") = true)
    (m_InvalidMasters__InvalidMasters : PySem.W.exmOne K (.ref a_InvalidMasters) (.ref a_InvalidMasters) = some true)
    (m_InvalidMasters__InvalidRule : PySem.W.exmOne K (.ref a_InvalidMasters) (.ref a_InvalidRule) = some false)
    (m_InvalidMasters__InvalidSize : PySem.W.exmOne K (.ref a_InvalidMasters) (.ref a_InvalidSize) = some false)
    (m_InvalidMasters__InvalidWords : PySem.W.exmOne K (.ref a_InvalidMasters) (.ref a_InvalidWords) = some false)
    (m_InvalidRule__InvalidMasters : PySem.W.exmOne K (.ref a_InvalidRule) (.ref a_InvalidMasters) = some false)
    (m_InvalidRule__InvalidRule : PySem.W.exmOne K (.ref a_InvalidRule) (.ref a_InvalidRule) = some true)
    (m_InvalidRule__InvalidSize : PySem.W.exmOne K (.ref a_InvalidRule) (.ref a_InvalidSize) = some false)
    (m_InvalidRule__InvalidWords : PySem.W.exmOne K (.ref a_InvalidRule) (.ref a_InvalidWords) = some false)
    (m_InvalidSize__InvalidMasters : PySem.W.exmOne K (.ref a_InvalidSize) (.ref a_InvalidMasters) = some false)
    (m_InvalidSize__InvalidRule : PySem.W.exmOne K (.ref a_InvalidSize) (.ref a_InvalidRule) = some false)
    (m_InvalidSize__InvalidSize : PySem.W.exmOne K (.ref a_InvalidSize) (.ref a_InvalidSize) = some true)
    (m_InvalidSize__InvalidWords : PySem.W.exmOne K (.ref a_InvalidSize) (.ref a_InvalidWords) = some false)
    (m_InvalidWords__InvalidMasters : PySem.W.exmOne K (.ref a_InvalidWords) (.ref a_InvalidMasters) = some false)
    (m_InvalidWords__InvalidRule : PySem.W.exmOne K (.ref a_InvalidWords) (.ref a_InvalidRule) = some false)
    (m_InvalidWords__InvalidSize : PySem.W.exmOne K (.ref a_InvalidWords) (.ref a_InvalidSize) = some false)
    (m_InvalidWords__InvalidWords : PySem.W.exmOne K (.ref a_InvalidWords) (.ref a_InvalidWords) = some true)
    (xl_InvalidRule : K.lookup a_InvalidRule = some (PySem.excClassObj nm_InvalidRule qn_InvalidRule a_InvalidRule N_InvalidRule bs_InvalidRule [.ref a_CopyError, .type "ValueError", .type "Exception", .type "BaseException", .type "object"] true sn_InvalidRule sub_InvalidRule ab_InvalidRule col_InvalidRule dd_InvalidRule k0_InvalidRule k1_InvalidRule k2_InvalidRule k3_InvalidRule k5_InvalidRule "ValueError.__new__"))
    (xs_InvalidRule : PySem.W.findIn K (.ref a_InvalidRule) "__setattr__" = some (some (.builtin "object.__setattr__")))
    (ek_InvalidRule : PySem.W.keepIn K (.ref a_InvalidRule) = true)
    (eb_InvalidRule : PySem.W.subIn K (.ref a_InvalidRule) (.type "BaseException") = some true)
    (et_InvalidRule : PySem.W.typeIn K (.ref a_InvalidRule) = some (.type "type"))
    (a_InvalidRule___init__ : PySem.W.findIn K (.ref a_InvalidRule) "__init__" = some (some (.ref w_InvalidRule___init__)))
    (ty_InvalidRule___init__ : PySem.W.typeIn K (.ref w_InvalidRule___init__) = some (.type "function"))
    (l_InvalidRule___init__ : K.lookup w_InvalidRule___init__ = some ⟨oc_InvalidRule___init__, od_InvalidRule___init__, .func (PySem.W.fnOf "__init__" "InvalidRule.__init__" (defArgs st_InvalidRule___init__) (defBody st_InvalidRule___init__) (defScope st_InvalidRule___init__) .none kV_InvalidRule___init__ dc_InvalidRule___init__ pm_InvalidRule___init__ an_InvalidRule___init__ cd_InvalidRule___init__ ct_InvalidRule___init__), sl_InvalidRule___init__⟩)
    (c_InvalidRule___init__ : PySem.W.codeIn K cd_InvalidRule___init__ "InvalidRule.__init__" = true)
    (k_InvalidRule___init__ : PySem.W.keepIn K (.ref w_InvalidRule___init__) = true)
    (no_f_InvalidRule_point : PySem.W.findIn K (.ref a_InvalidRule) "point" = some none)
    (at_Book_many_fields : PySem.W.findIn K (.ref a_Book) "many_fields" = some (some (.ref p_Book_many_fields)))
    (ge_Book_many_fields : PySem.W.specialIn K (.ref p_Book_many_fields) "__get__" = some (some (.builtin "member_descriptor.__get__")))
    (tk_Book_many_fields : PySem.W.takesIn K (.ref p_Book_many_fields) = some true)
    (ty_Book_many_fields : PySem.W.typeIn K (.ref p_Book_many_fields) = some (.type "member_descriptor"))
    (ix_Book_many_fields : PySem.W.slotIn K p_Book_many_fields a_Book = some 0)
    (at_Book_many_values : PySem.W.findIn K (.ref a_Book) "many_values" = some (some (.ref p_Book_many_values)))
    (ge_Book_many_values : PySem.W.specialIn K (.ref p_Book_many_values) "__get__" = some (some (.builtin "member_descriptor.__get__")))
    (tk_Book_many_values : PySem.W.takesIn K (.ref p_Book_many_values) = some true)
    (ty_Book_many_values : PySem.W.typeIn K (.ref p_Book_many_values) = some (.type "member_descriptor"))
    (ix_Book_many_values : PySem.W.slotIn K p_Book_many_values a_Book = some 1)
    (at_Book_points : PySem.W.findIn K (.ref a_Book) "points" = some (some (.ref p_Book_points)))
    (ge_Book_points : PySem.W.specialIn K (.ref p_Book_points) "__get__" = some (some (.builtin "member_descriptor.__get__")))
    (tk_Book_points : PySem.W.takesIn K (.ref p_Book_points) = some true)
    (ty_Book_points : PySem.W.typeIn K (.ref p_Book_points) = some (.type "member_descriptor"))
    (ix_Book_points : PySem.W.slotIn K p_Book_points a_Book = some 2)
    (at_Book_told_words : PySem.W.findIn K (.ref a_Book) "told_words" = some (some (.ref p_Book_told_words)))
    (ge_Book_told_words : PySem.W.specialIn K (.ref p_Book_told_words) "__get__" = some (some (.builtin "member_descriptor.__get__")))
    (tk_Book_told_words : PySem.W.takesIn K (.ref p_Book_told_words) = some true)
    (ty_Book_told_words : PySem.W.typeIn K (.ref p_Book_told_words) = some (.type "member_descriptor"))
    (ix_Book_told_words : PySem.W.slotIn K p_Book_told_words a_Book = some 3)
    (at_Book_tops : PySem.W.findIn K (.ref a_Book) "tops" = some (some (.ref p_Book_tops)))
    (ge_Book_tops : PySem.W.specialIn K (.ref p_Book_tops) "__get__" = some (some (.builtin "member_descriptor.__get__")))
    (tk_Book_tops : PySem.W.takesIn K (.ref p_Book_tops) = some true)
    (ty_Book_tops : PySem.W.typeIn K (.ref p_Book_tops) = some (.type "member_descriptor"))
    (ix_Book_tops : PySem.W.slotIn K p_Book_tops a_Book = some 4)
    (ya_InvalidMasters : PySem.W.findIn K (.ref a_InvalidMasters) "__getattribute__" = some (some (.builtin "BaseException.__getattribute__")))
    (yb_InvalidMasters : PySem.W.findIn K (.ref a_InvalidMasters) "__getattr__" = some none)
    (yc_InvalidMasters : PySem.W.subIn K (.ref a_InvalidMasters) (.type "BaseException") = some true)
    (yd_InvalidMasters : PySem.W.hasDictIn K a_InvalidMasters = true)
    (ca_InvalidMasters : PySem.W.findIn K (.ref a_InvalidMasters) "__class__" = some (some (.builtin "object.__class__")))
    (cn_InvalidMasters : PySem.W.specialIn K (.builtin "object.__class__") "__get__" = some (some (.builtin "getset_descriptor.__get__")))
    (ct_InvalidMasters : PySem.W.takesIn K (.builtin "object.__class__") = some true)
    (cm_InvalidMasters : PySem.W.mroIn K a_InvalidMasters (.type "object") = some true)
    (no_x_InvalidMasters_CopyError : PySem.W.kitOne K (.ref a_InvalidMasters) (.ref a_CopyError) = some true)
    (ya_InvalidRule : PySem.W.findIn K (.ref a_InvalidRule) "__getattribute__" = some (some (.builtin "BaseException.__getattribute__")))
    (yb_InvalidRule : PySem.W.findIn K (.ref a_InvalidRule) "__getattr__" = some none)
    (yc_InvalidRule : PySem.W.subIn K (.ref a_InvalidRule) (.type "BaseException") = some true)
    (yd_InvalidRule : PySem.W.hasDictIn K a_InvalidRule = true)
    (yn_InvalidRule_point : PySem.W.findIn K (.ref a_InvalidRule) "point" = some none)
    (hz_all : PySem.W.nsIn K mainGlobals "all" = some none)
    (hz_bool : PySem.W.nsIn K mainGlobals "bool" = some none)
    (hz_dict : PySem.W.nsIn K mainGlobals "dict" = some none)
    (hz_enumerate : PySem.W.nsIn K mainGlobals "enumerate" = some none)
    (hz_int : PySem.W.nsIn K mainGlobals "int" = some none)
    (hz_isinstance : PySem.W.nsIn K mainGlobals "isinstance" = some none)
    (hz_len : PySem.W.nsIn K mainGlobals "len" = some none)
    (hz_list : PySem.W.nsIn K mainGlobals "list" = some none)
    (hz_max : PySem.W.nsIn K mainGlobals "max" = some none)
    (hz_range : PySem.W.nsIn K mainGlobals "range" = some none)
    (hz_set : PySem.W.nsIn K mainGlobals "set" = some none)
    (hz_sorted : PySem.W.nsIn K mainGlobals "sorted" = some none)
    (hz_str : PySem.W.nsIn K mainGlobals "str" = some none)
    (hz_tuple : PySem.W.nsIn K mainGlobals "tuple" = some none)
    (a__law_mix : PySem.W.nsIn K mainGlobals "_law_mix" = some (some (.ref w__law_mix)))
    (l__law_mix : K.lookup w__law_mix = some ⟨oc__law_mix, od__law_mix, .func (PySem.W.fnOf "_law_mix" "_law_mix" (defArgs st__law_mix) (defBody st__law_mix) (defScope st__law_mix) .none kV__law_mix dc__law_mix pm__law_mix an__law_mix cd__law_mix ct__law_mix), sl__law_mix⟩)
    (c__law_mix : PySem.W.codeIn K cd__law_mix "_law_mix" = true)
    (k__law_mix : PySem.W.keepIn K (.ref w__law_mix) = true)
    (a__law_next : PySem.W.nsIn K mainGlobals "_law_next" = some (some (.ref w__law_next)))
    (l__law_next : K.lookup w__law_next = some ⟨oc__law_next, od__law_next, .func (PySem.W.fnOf "_law_next" "_law_next" (defArgs st__law_next) (defBody st__law_next) (defScope st__law_next) .none kV__law_next dc__law_next pm__law_next an__law_next cd__law_next ct__law_next), sl__law_next⟩)
    (c__law_next : PySem.W.codeIn K cd__law_next "_law_next" = true)
    (k__law_next : PySem.W.keepIn K (.ref w__law_next) = true)
    (a__law_points : PySem.W.nsIn K mainGlobals "_law_points" = some (some (.ref w__law_points)))
    (l__law_points : K.lookup w__law_points = some ⟨oc__law_points, od__law_points, .func (PySem.W.fnOf "_law_points" "_law_points" (defArgs st__law_points) (defBody st__law_points) (defScope st__law_points) .none kV__law_points dc__law_points pm__law_points an__law_points cd__law_points ct__law_points), sl__law_points⟩)
    (c__law_points : PySem.W.codeIn K cd__law_points "_law_points" = true)
    (k__law_points : PySem.W.keepIn K (.ref w__law_points) = true)
    (a__law_rule : PySem.W.nsIn K mainGlobals "_law_rule" = some (some (.ref w__law_rule)))
    (l__law_rule : K.lookup w__law_rule = some ⟨oc__law_rule, od__law_rule, .func (PySem.W.fnOf "_law_rule" "_law_rule" (defArgs st__law_rule) (defBody st__law_rule) (defScope st__law_rule) .none kV__law_rule dc__law_rule pm__law_rule an__law_rule cd__law_rule ct__law_rule), sl__law_rule⟩)
    (c__law_rule : PySem.W.codeIn K cd__law_rule "_law_rule" = true)
    (k__law_rule : PySem.W.keepIn K (.ref w__law_rule) = true)
    (a__law_book : PySem.W.nsIn K mainGlobals "_law_book" = some (some (.ref w__law_book)))
    (l__law_book : K.lookup w__law_book = some ⟨oc__law_book, od__law_book, .func (PySem.W.fnOf "_law_book" "_law_book" (defArgs st__law_book) (defBody st__law_book) (defScope st__law_book) .none kV__law_book dc__law_book pm__law_book an__law_book cd__law_book ct__law_book), sl__law_book⟩)
    (c__law_book : PySem.W.codeIn K cd__law_book "_law_book" = true)
    (k__law_book : PySem.W.keepIn K (.ref w__law_book) = true)
    (a_is_integer : PySem.W.nsIn K mainGlobals "is_integer" = some (some (.ref w_is_integer)))
    (l_is_integer : K.lookup w_is_integer = some ⟨oc_is_integer, od_is_integer, .func (PySem.W.fnOf "is_integer" "is_integer" (defArgs st_is_integer) (defBody st_is_integer) (defScope st_is_integer) .none kV_is_integer dc_is_integer pm_is_integer an_is_integer cd_is_integer ct_is_integer), sl_is_integer⟩)
    (c_is_integer : PySem.W.codeIn K cd_is_integer "is_integer" = true)
    (k_is_integer : PySem.W.keepIn K (.ref w_is_integer) = true)
    (a_is_between : PySem.W.nsIn K mainGlobals "is_between" = some (some (.ref w_is_between)))
    (l_is_between : K.lookup w_is_between = some ⟨oc_is_between, od_is_between, .func (PySem.W.fnOf "is_between" "is_between" (defArgs st_is_between) (defBody st_is_between) (defScope st_is_between) .none kV_is_between dc_is_between pm_is_between an_is_between cd_is_between ct_is_between), sl_is_between⟩)
    (c_is_between : PySem.W.codeIn K cd_is_between "is_between" = true)
    (k_is_between : PySem.W.keepIn K (.ref w_is_between) = true)
    (a_are_masters : PySem.W.nsIn K mainGlobals "are_masters" = some (some (.ref w_are_masters)))
    (l_are_masters : K.lookup w_are_masters = some ⟨oc_are_masters, od_are_masters, .func (PySem.W.fnOf "are_masters" "are_masters" (defArgs st_are_masters) (defBody st_are_masters) (defScope st_are_masters) .none kV_are_masters dc_are_masters pm_are_masters an_are_masters cd_are_masters ct_are_masters), sl_are_masters⟩)
    (c_are_masters : PySem.W.codeIn K cd_are_masters "are_masters" = true)
    (k_are_masters : PySem.W.keepIn K (.ref w_are_masters) = true)
    (a_look_at_rule : PySem.W.nsIn K mainGlobals "look_at_rule" = some (some (.ref w_look_at_rule)))
    (l_look_at_rule : K.lookup w_look_at_rule = some ⟨oc_look_at_rule, od_look_at_rule, .func (PySem.W.fnOf "look_at_rule" "look_at_rule" (defArgs st_look_at_rule) (defBody st_look_at_rule) (defScope st_look_at_rule) .none kV_look_at_rule dc_look_at_rule pm_look_at_rule an_look_at_rule cd_look_at_rule ct_look_at_rule), sl_look_at_rule⟩)
    (c_look_at_rule : PySem.W.codeIn K cd_look_at_rule "look_at_rule" = true)
    (k_look_at_rule : PySem.W.keepIn K (.ref w_look_at_rule) = true)
    (a_are_words : PySem.W.nsIn K mainGlobals "are_words" = some (some (.ref w_are_words)))
    (l_are_words : K.lookup w_are_words = some ⟨oc_are_words, od_are_words, .func (PySem.W.fnOf "are_words" "are_words" (defArgs st_are_words) (defBody st_are_words) (defScope st_are_words) .none kV_are_words dc_are_words pm_are_words an_are_words cd_are_words ct_are_words), sl_are_words⟩)
    (c_are_words : PySem.W.codeIn K cd_are_words "are_words" = true)
    (k_are_words : PySem.W.keepIn K (.ref w_are_words) = true)
    (a_Book___init__ : PySem.W.findIn K (.ref a_Book) "__init__" = some (some (.ref w_Book___init__)))
    (i_Book___init__ : PySem.W.isFn K (.ref w_Book___init__) = true)
    (l_Book___init__ : K.lookup w_Book___init__ = some ⟨oc_Book___init__, od_Book___init__, .func (PySem.W.fnOf "__init__" "Book.__init__" (defArgs st_Book___init__) (defBody st_Book___init__) (defScope st_Book___init__) .none kV_Book___init__ dc_Book___init__ pm_Book___init__ an_Book___init__ cd_Book___init__ ct_Book___init__), sl_Book___init__⟩)
    (c_Book___init__ : PySem.W.codeIn K cd_Book___init__ "Book.__init__" = true)
    (k_Book___init__ : PySem.W.keepIn K (.ref w_Book___init__) = true)
    (mk_Book : PySem.W.makesIn K a_Book = true)
    (kc_Book : PySem.W.keepIn K (.ref a_Book) = true)
    (a_Book_rule : PySem.W.findIn K (.ref a_Book) "rule" = some (some (.ref p_Book_rule)))
    (g_Book_rule : PySem.W.specialIn K (.ref p_Book_rule) "__get__" = some (some (.builtin "property.__get__")))
    (t_Book_rule : PySem.W.takesIn K (.ref p_Book_rule) = some true)
    (r_Book_rule : PySem.W.recIn K p_Book_rule "property" = some (.ref w_Book_rule :: rs_Book_rule))
    (l_Book_rule : K.lookup w_Book_rule = some ⟨oc_Book_rule, od_Book_rule, .func (PySem.W.fnOf "rule" "Book.rule" (defArgs st_Book_rule) (defBody st_Book_rule) (defScope st_Book_rule) .none kV_Book_rule dc_Book_rule pm_Book_rule an_Book_rule cd_Book_rule ct_Book_rule), sl_Book_rule⟩)
    (c_Book_rule : PySem.W.codeIn K cd_Book_rule "Book.rule" = true)
    (k_Book_rule : PySem.W.keepIn K (.ref w_Book_rule) = true)
    (a_Book_words : PySem.W.findIn K (.ref a_Book) "words" = some (some (.ref p_Book_words)))
    (g_Book_words : PySem.W.specialIn K (.ref p_Book_words) "__get__" = some (some (.builtin "property.__get__")))
    (t_Book_words : PySem.W.takesIn K (.ref p_Book_words) = some true)
    (r_Book_words : PySem.W.recIn K p_Book_words "property" = some (.ref w_Book_words :: rs_Book_words))
    (l_Book_words : K.lookup w_Book_words = some ⟨oc_Book_words, od_Book_words, .func (PySem.W.fnOf "words" "Book.words" (defArgs st_Book_words) (defBody st_Book_words) (defScope st_Book_words) .none kV_Book_words dc_Book_words pm_Book_words an_Book_words cd_Book_words ct_Book_words), sl_Book_words⟩)
    (c_Book_words : PySem.W.codeIn K cd_Book_words "Book.words" = true)
    (k_Book_words : PySem.W.keepIn K (.ref w_Book_words) = true)
    (a_Book_levels : PySem.W.findIn K (.ref a_Book) "levels" = some (some (.ref p_Book_levels)))
    (g_Book_levels : PySem.W.specialIn K (.ref p_Book_levels) "__get__" = some (some (.builtin "property.__get__")))
    (t_Book_levels : PySem.W.takesIn K (.ref p_Book_levels) = some true)
    (r_Book_levels : PySem.W.recIn K p_Book_levels "property" = some (.ref w_Book_levels :: rs_Book_levels))
    (l_Book_levels : K.lookup w_Book_levels = some ⟨oc_Book_levels, od_Book_levels, .func (PySem.W.fnOf "levels" "Book.levels" (defArgs st_Book_levels) (defBody st_Book_levels) (defScope st_Book_levels) .none kV_Book_levels dc_Book_levels pm_Book_levels an_Book_levels cd_Book_levels ct_Book_levels), sl_Book_levels⟩)
    (c_Book_levels : PySem.W.codeIn K cd_Book_levels "Book.levels" = true)
    (k_Book_levels : PySem.W.keepIn K (.ref w_Book_levels) = true)
    (a_Book_fields : PySem.W.findIn K (.ref a_Book) "fields" = some (some (.ref p_Book_fields)))
    (g_Book_fields : PySem.W.specialIn K (.ref p_Book_fields) "__get__" = some (some (.builtin "property.__get__")))
    (t_Book_fields : PySem.W.takesIn K (.ref p_Book_fields) = some true)
    (r_Book_fields : PySem.W.recIn K p_Book_fields "property" = some (.ref w_Book_fields :: rs_Book_fields))
    (l_Book_fields : K.lookup w_Book_fields = some ⟨oc_Book_fields, od_Book_fields, .func (PySem.W.fnOf "fields" "Book.fields" (defArgs st_Book_fields) (defBody st_Book_fields) (defScope st_Book_fields) .none kV_Book_fields dc_Book_fields pm_Book_fields an_Book_fields cd_Book_fields ct_Book_fields), sl_Book_fields⟩)
    (c_Book_fields : PySem.W.codeIn K cd_Book_fields "Book.fields" = true)
    (k_Book_fields : PySem.W.keepIn K (.ref w_Book_fields) = true)
    (a_Book_masters : PySem.W.findIn K (.ref a_Book) "masters" = some (some (.ref p_Book_masters)))
    (g_Book_masters : PySem.W.specialIn K (.ref p_Book_masters) "__get__" = some (some (.builtin "property.__get__")))
    (t_Book_masters : PySem.W.takesIn K (.ref p_Book_masters) = some true)
    (r_Book_masters : PySem.W.recIn K p_Book_masters "property" = some (.ref w_Book_masters :: rs_Book_masters))
    (l_Book_masters : K.lookup w_Book_masters = some ⟨oc_Book_masters, od_Book_masters, .func (PySem.W.fnOf "masters" "Book.masters" (defArgs st_Book_masters) (defBody st_Book_masters) (defScope st_Book_masters) .none kV_Book_masters dc_Book_masters pm_Book_masters an_Book_masters cd_Book_masters ct_Book_masters), sl_Book_masters⟩)
    (c_Book_masters : PySem.W.codeIn K cd_Book_masters "Book.masters" = true)
    (k_Book_masters : PySem.W.keepIn K (.ref w_Book_masters) = true)
    (a_Book_frame : PySem.W.findIn K (.ref a_Book) "frame" = some (some (.ref w_Book_frame)))
    (i_Book_frame : PySem.W.isFn K (.ref w_Book_frame) = true)
    (l_Book_frame : K.lookup w_Book_frame = some ⟨oc_Book_frame, od_Book_frame, .func (PySem.W.fnOf "frame" "Book.frame" (defArgs st_Book_frame) (defBody st_Book_frame) (defScope st_Book_frame) .none kV_Book_frame dc_Book_frame pm_Book_frame an_Book_frame cd_Book_frame ct_Book_frame), sl_Book_frame⟩)
    (c_Book_frame : PySem.W.codeIn K cd_Book_frame "Book.frame" = true)
    (k_Book_frame : PySem.W.keepIn K (.ref w_Book_frame) = true)
    (a_Book___eq__ : PySem.W.findIn K (.ref a_Book) "__eq__" = some (some (.ref w_Book___eq__)))
    (i_Book___eq__ : PySem.W.isFn K (.ref w_Book___eq__) = true)
    (l_Book___eq__ : K.lookup w_Book___eq__ = some ⟨oc_Book___eq__, od_Book___eq__, .func (PySem.W.fnOf "__eq__" "Book.__eq__" (defArgs st_Book___eq__) (defBody st_Book___eq__) (defScope st_Book___eq__) .none kV_Book___eq__ dc_Book___eq__ pm_Book___eq__ an_Book___eq__ cd_Book___eq__ ct_Book___eq__), sl_Book___eq__⟩)
    (c_Book___eq__ : PySem.W.codeIn K cd_Book___eq__ "Book.__eq__" = true)
    (k_Book___eq__ : PySem.W.keepIn K (.ref w_Book___eq__) = true)
    (nw_Book___eq__ : PySem.W.notFirst K a_Book (.ref a_Book) = true)
    (a_Book_turned : PySem.W.findIn K (.ref a_Book) "turned" = some (some (.ref w_Book_turned)))
    (i_Book_turned : PySem.W.isFn K (.ref w_Book_turned) = true)
    (l_Book_turned : K.lookup w_Book_turned = some ⟨oc_Book_turned, od_Book_turned, .func (PySem.W.fnOf "turned" "Book.turned" (defArgs st_Book_turned) (defBody st_Book_turned) (defScope st_Book_turned) .none kV_Book_turned dc_Book_turned pm_Book_turned an_Book_turned cd_Book_turned ct_Book_turned), sl_Book_turned⟩)
    (c_Book_turned : PySem.W.codeIn K cd_Book_turned "Book.turned" = true)
    (k_Book_turned : PySem.W.keepIn K (.ref w_Book_turned) = true)
    (a__law_turned : PySem.W.nsIn K mainGlobals "_law_turned" = some (some (.ref w__law_turned)))
    (l__law_turned : K.lookup w__law_turned = some ⟨oc__law_turned, od__law_turned, .func (PySem.W.fnOf "_law_turned" "_law_turned" (defArgs st__law_turned) (defBody st__law_turned) (defScope st__law_turned) .none kV__law_turned dc__law_turned pm__law_turned an__law_turned cd__law_turned ct__law_turned), sl__law_turned⟩)
    (c__law_turned : PySem.W.codeIn K cd__law_turned "_law_turned" = true)
    (k__law_turned : PySem.W.keepIn K (.ref w__law_turned) = true)
    (a__law_spoil : PySem.W.nsIn K mainGlobals "_law_spoil" = some (some (.ref w__law_spoil)))
    (l__law_spoil : K.lookup w__law_spoil = some ⟨oc__law_spoil, od__law_spoil, .func (PySem.W.fnOf "_law_spoil" "_law_spoil" (defArgs st__law_spoil) (defBody st__law_spoil) (defScope st__law_spoil) .none kV__law_spoil dc__law_spoil pm__law_spoil an__law_spoil cd__law_spoil ct__law_spoil), sl__law_spoil⟩)
    (c__law_spoil : PySem.W.codeIn K cd__law_spoil "_law_spoil" = true)
    (k__law_spoil : PySem.W.keepIn K (.ref w__law_spoil) = true)
    (a__law_told : PySem.W.nsIn K mainGlobals "_law_told" = some (some (.ref w__law_told)))
    (l__law_told : K.lookup w__law_told = some ⟨oc__law_told, od__law_told, .func (PySem.W.fnOf "_law_told" "_law_told" (defArgs st__law_told) (defBody st__law_told) (defScope st__law_told) .none kV__law_told dc__law_told pm__law_told an__law_told cd__law_told ct__law_told), sl__law_told⟩)
    (c__law_told : PySem.W.codeIn K cd__law_told "_law_told" = true)
    (k__law_told : PySem.W.keepIn K (.ref w__law_told) = true)
    (a__law_int : PySem.W.nsIn K mainGlobals "_law_int" = some (some (.ref w__law_int)))
    (l__law_int : K.lookup w__law_int = some ⟨oc__law_int, od__law_int, .func (PySem.W.fnOf "_law_int" "_law_int" (defArgs st__law_int) (defBody st__law_int) (defScope st__law_int) .none kV__law_int dc__law_int pm__law_int an__law_int cd__law_int ct__law_int), sl__law_int⟩)
    (c__law_int : PySem.W.codeIn K cd__law_int "_law_int" = true)
    (k__law_int : PySem.W.keepIn K (.ref w__law_int) = true)
    (a__law_due : PySem.W.nsIn K mainGlobals "_law_due" = some (some (.ref w__law_due)))
    (l__law_due : K.lookup w__law_due = some ⟨oc__law_due, od__law_due, .func (PySem.W.fnOf "_law_due" "_law_due" (defArgs st__law_due) (defBody st__law_due) (defScope st__law_due) .none kV__law_due dc__law_due pm__law_due an__law_due cd__law_due ct__law_due), sl__law_due⟩)
    (c__law_due : PySem.W.codeIn K cd__law_due "_law_due" = true)
    (k__law_due : PySem.W.keepIn K (.ref w__law_due) = true)
    (a_law : PySem.W.nsIn K mainGlobals "law" = some (some (.ref w_law)))
    (l_law : K.lookup w_law = some ⟨oc_law, od_law, .func (PySem.W.fnOf "law" "law" (defArgs st_law) (defBody st_law) (defScope st_law) .none kV_law dc_law pm_law an_law cd_law ct_law), sl_law⟩)
    (c_law : PySem.W.codeIn K cd_law "law" = true)
    (k_law : PySem.W.keepIn K (.ref w_law) = true) :
    ∃ (ad : Addr → String → Addr) (sl : String → Option (List Str)) (fd : FuncData), (∀ (s : Shared) (v : Value), BindsTo s fd ⟨[v], []⟩ [("_law_script", v)]) ∧ ∀ base : PySem.Heap, K.In base → base.Ns mainGlobals mg → FnOk P w K mg base (L2.CX P w) 8 fa fd ["_law_script"] (spLaw (fun as ns => ⟨P, w, K, mg, base, ad as, sl, ns⟩) f_law) := by
  have e := hfa.symm.trans (PySem.W.mg_of X G a_law)
  cases e
  refine ⟨fun as => adf as a_Book a_CopyError a_InvalidMasters a_InvalidRule a_InvalidSize a_InvalidWords, slf, PySem.W.fnOf "law" "law" (defArgs st_law) (defBody st_law) (defScope st_law) .none kV_law dc_law pm_law an_law cd_law ct_law, fun s v => .of_eq rfl, fun base hb hn => fn_law (fun as ns => adf_s (a_Book := a_Book) (a_CopyError := a_CopyError) (a_InvalidMasters := a_InvalidMasters) (a_InvalidRule := a_InvalidRule) (a_InvalidSize := a_InvalidSize) (a_InvalidWords := a_InvalidWords)) (fun as ns => ⟨rfl, rfl, rfl, rfl, rfl, rfl⟩) fun as ns => ok_law (C := ⟨P, w, K, mg, base, adf as a_Book a_CopyError a_InvalidMasters a_InvalidRule a_InvalidSize a_InvalidWords, slf, ns⟩) ?_ (fun_mk (st := st_law) l_law c_law k_law)⟩
  have e_Book : (⟨P, w, K, mg, base, adf as a_Book a_CopyError a_InvalidMasters a_InvalidRule a_InvalidSize a_InvalidWords, slf, ns⟩ : Cz).ad "Book" = a_Book := adf_Book (as := as) (a_Book := a_Book) (a_CopyError := a_CopyError) (a_InvalidMasters := a_InvalidMasters) (a_InvalidRule := a_InvalidRule) (a_InvalidSize := a_InvalidSize) (a_InvalidWords := a_InvalidWords)
  have e_CopyError : (⟨P, w, K, mg, base, adf as a_Book a_CopyError a_InvalidMasters a_InvalidRule a_InvalidSize a_InvalidWords, slf, ns⟩ : Cz).ad "CopyError" = a_CopyError := adf_CopyError (as := as) (a_Book := a_Book) (a_CopyError := a_CopyError) (a_InvalidMasters := a_InvalidMasters) (a_InvalidRule := a_InvalidRule) (a_InvalidSize := a_InvalidSize) (a_InvalidWords := a_InvalidWords)
  have e_InvalidMasters : (⟨P, w, K, mg, base, adf as a_Book a_CopyError a_InvalidMasters a_InvalidRule a_InvalidSize a_InvalidWords, slf, ns⟩ : Cz).ad "InvalidMasters" = a_InvalidMasters := adf_InvalidMasters (as := as) (a_Book := a_Book) (a_CopyError := a_CopyError) (a_InvalidMasters := a_InvalidMasters) (a_InvalidRule := a_InvalidRule) (a_InvalidSize := a_InvalidSize) (a_InvalidWords := a_InvalidWords)
  have e_InvalidRule : (⟨P, w, K, mg, base, adf as a_Book a_CopyError a_InvalidMasters a_InvalidRule a_InvalidSize a_InvalidWords, slf, ns⟩ : Cz).ad "InvalidRule" = a_InvalidRule := adf_InvalidRule (as := as) (a_Book := a_Book) (a_CopyError := a_CopyError) (a_InvalidMasters := a_InvalidMasters) (a_InvalidRule := a_InvalidRule) (a_InvalidSize := a_InvalidSize) (a_InvalidWords := a_InvalidWords)
  have e_InvalidSize : (⟨P, w, K, mg, base, adf as a_Book a_CopyError a_InvalidMasters a_InvalidRule a_InvalidSize a_InvalidWords, slf, ns⟩ : Cz).ad "InvalidSize" = a_InvalidSize := adf_InvalidSize (as := as) (a_Book := a_Book) (a_CopyError := a_CopyError) (a_InvalidMasters := a_InvalidMasters) (a_InvalidRule := a_InvalidRule) (a_InvalidSize := a_InvalidSize) (a_InvalidWords := a_InvalidWords)
  have e_InvalidWords : (⟨P, w, K, mg, base, adf as a_Book a_CopyError a_InvalidMasters a_InvalidRule a_InvalidSize a_InvalidWords, slf, ns⟩ : Cz).ad "InvalidWords" = a_InvalidWords := adf_InvalidWords (as := as) (a_Book := a_Book) (a_CopyError := a_CopyError) (a_InvalidMasters := a_InvalidMasters) (a_InvalidRule := a_InvalidRule) (a_InvalidSize := a_InvalidSize) (a_InvalidWords := a_InvalidWords)
  exact fx_mk (C := ⟨P, w, K, mg, base, adf as a_Book a_CopyError a_InvalidMasters a_InvalidRule a_InvalidSize a_InvalidWords, slf, ns⟩) (h := h) X G slf_Book slf_CopyError slf_InvalidMasters slf_InvalidRule slf_InvalidSize slf_InvalidWords (by rw [e_Book]; exact gc_Book) (by rw [e_CopyError]; exact gc_CopyError) (by rw [e_InvalidMasters]; exact gc_InvalidMasters) (by rw [e_InvalidRule]; exact gc_InvalidRule) (by rw [e_InvalidSize]; exact gc_InvalidSize) (by rw [e_InvalidWords]; exact gc_InvalidWords) (by rw [e_Book]; exact pg_Book) (by rw [e_Book]; exact po_Book) (by rw [e_Book]; exact sa_Book) (by rw [e_Book]; exact ic_Book) ns_POINTS hd_POINTS hk_POINTS_0 hk_POINTS_1 hk_POINTS_2 hk_POINTS_3 hk_POINTS_4 lo_POINTS (by rw [e_InvalidMasters]; exact xi_InvalidMasters) (by rw [e_InvalidMasters]; exact ek_InvalidMasters) (by rw [e_InvalidMasters]; exact eb_InvalidMasters) (by rw [e_InvalidMasters]; exact et_InvalidMasters) (by rw [e_InvalidSize]; exact xi_InvalidSize) (by rw [e_InvalidSize]; exact ek_InvalidSize) (by rw [e_InvalidSize]; exact eb_InvalidSize) (by rw [e_InvalidSize]; exact et_InvalidSize) (by rw [e_InvalidWords]; exact xi_InvalidWords) (by rw [e_InvalidWords]; exact ek_InvalidWords) (by rw [e_InvalidWords]; exact eb_InvalidWords) (by rw [e_InvalidWords]; exact et_InvalidWords) hg_MOST_ROWS hg_WORDS hk_WORDS (by rw [e_Book]; exact ca_Book) cn_Book ct_Book (by rw [e_Book]; exact cm_Book) (by rw [e_Book]; exact no_Book_NoneType) (by rw [e_Book]; exact no_Book_bool) (by rw [e_Book]; exact no_Book_int) (by rw [e_Book]; exact no_Book_str) (by rw [e_Book]; exact no_Book_tuple) (by rw [e_Book]; exact no_Book_list) (by rw [e_Book]; exact no_Book_dict) (by rw [e_Book]; exact nl_Book) (by rw [e_InvalidMasters]; exact m_InvalidMasters__InvalidMasters) (by rw [e_InvalidMasters, e_InvalidRule]; exact m_InvalidMasters__InvalidRule) (by rw [e_InvalidMasters, e_InvalidSize]; exact m_InvalidMasters__InvalidSize) (by rw [e_InvalidMasters, e_InvalidWords]; exact m_InvalidMasters__InvalidWords) (by rw [e_InvalidMasters, e_InvalidRule]; exact m_InvalidRule__InvalidMasters) (by rw [e_InvalidRule]; exact m_InvalidRule__InvalidRule) (by rw [e_InvalidRule, e_InvalidSize]; exact m_InvalidRule__InvalidSize) (by rw [e_InvalidRule, e_InvalidWords]; exact m_InvalidRule__InvalidWords) (by rw [e_InvalidMasters, e_InvalidSize]; exact m_InvalidSize__InvalidMasters) (by rw [e_InvalidRule, e_InvalidSize]; exact m_InvalidSize__InvalidRule) (by rw [e_InvalidSize]; exact m_InvalidSize__InvalidSize) (by rw [e_InvalidSize, e_InvalidWords]; exact m_InvalidSize__InvalidWords) (by rw [e_InvalidMasters, e_InvalidWords]; exact m_InvalidWords__InvalidMasters) (by rw [e_InvalidRule, e_InvalidWords]; exact m_InvalidWords__InvalidRule) (by rw [e_InvalidSize, e_InvalidWords]; exact m_InvalidWords__InvalidSize) (by rw [e_InvalidWords]; exact m_InvalidWords__InvalidWords) (by rw [e_CopyError, e_InvalidRule]; exact xl_InvalidRule) (by rw [e_InvalidRule]; exact xs_InvalidRule) (by rw [e_InvalidRule]; exact ek_InvalidRule) (by rw [e_InvalidRule]; exact eb_InvalidRule) (by rw [e_InvalidRule]; exact et_InvalidRule) (by rw [e_InvalidRule]; exact a_InvalidRule___init__) ty_InvalidRule___init__ l_InvalidRule___init__ c_InvalidRule___init__ k_InvalidRule___init__ (by rw [e_InvalidRule]; exact no_f_InvalidRule_point) (by rw [e_Book]; exact at_Book_many_fields) ge_Book_many_fields tk_Book_many_fields ty_Book_many_fields (by rw [e_Book]; exact ix_Book_many_fields) (by rw [e_Book]; exact at_Book_many_values) ge_Book_many_values tk_Book_many_values ty_Book_many_values (by rw [e_Book]; exact ix_Book_many_values) (by rw [e_Book]; exact at_Book_points) ge_Book_points tk_Book_points ty_Book_points (by rw [e_Book]; exact ix_Book_points) (by rw [e_Book]; exact at_Book_told_words) ge_Book_told_words tk_Book_told_words ty_Book_told_words (by rw [e_Book]; exact ix_Book_told_words) (by rw [e_Book]; exact at_Book_tops) ge_Book_tops tk_Book_tops ty_Book_tops (by rw [e_Book]; exact ix_Book_tops) (by rw [e_InvalidMasters]; exact ya_InvalidMasters) (by rw [e_InvalidMasters]; exact yb_InvalidMasters) (by rw [e_InvalidMasters]; exact yc_InvalidMasters) (by rw [e_InvalidMasters]; exact yd_InvalidMasters) (by rw [e_InvalidMasters]; exact ca_InvalidMasters) cn_InvalidMasters ct_InvalidMasters (by rw [e_InvalidMasters]; exact cm_InvalidMasters) (by rw [e_CopyError, e_InvalidMasters]; exact no_x_InvalidMasters_CopyError) (by rw [e_InvalidRule]; exact ya_InvalidRule) (by rw [e_InvalidRule]; exact yb_InvalidRule) (by rw [e_InvalidRule]; exact yc_InvalidRule) (by rw [e_InvalidRule]; exact yd_InvalidRule) (by rw [e_InvalidRule]; exact yn_InvalidRule_point) hz_all hz_bool hz_dict hz_enumerate hz_int hz_isinstance hz_len hz_list hz_max hz_range hz_set hz_sorted hz_str hz_tuple a__law_mix l__law_mix c__law_mix k__law_mix a__law_next l__law_next c__law_next k__law_next a__law_points l__law_points c__law_points k__law_points a__law_rule l__law_rule c__law_rule k__law_rule a__law_book l__law_book c__law_book k__law_book a_is_integer l_is_integer c_is_integer k_is_integer a_is_between l_is_between c_is_between k_is_between a_are_masters l_are_masters c_are_masters k_are_masters a_look_at_rule l_look_at_rule c_look_at_rule k_look_at_rule a_are_words l_are_words c_are_words k_are_words (by rw [e_Book]; exact a_Book___init__) i_Book___init__ l_Book___init__ c_Book___init__ k_Book___init__ (by rw [e_Book]; exact mk_Book) (by rw [e_Book]; exact kc_Book) (by rw [e_Book]; exact a_Book_rule) g_Book_rule t_Book_rule r_Book_rule l_Book_rule c_Book_rule k_Book_rule (by rw [e_Book]; exact a_Book_words) g_Book_words t_Book_words r_Book_words l_Book_words c_Book_words k_Book_words (by rw [e_Book]; exact a_Book_levels) g_Book_levels t_Book_levels r_Book_levels l_Book_levels c_Book_levels k_Book_levels (by rw [e_Book]; exact a_Book_fields) g_Book_fields t_Book_fields r_Book_fields l_Book_fields c_Book_fields k_Book_fields (by rw [e_Book]; exact a_Book_masters) g_Book_masters t_Book_masters r_Book_masters l_Book_masters c_Book_masters k_Book_masters (by rw [e_Book]; exact a_Book_frame) i_Book_frame l_Book_frame c_Book_frame k_Book_frame (by rw [e_Book]; exact a_Book___eq__) i_Book___eq__ l_Book___eq__ c_Book___eq__ k_Book___eq__ (by rw [e_Book]; exact nw_Book___eq__) (by rw [e_Book]; exact a_Book_turned) i_Book_turned l_Book_turned c_Book_turned k_Book_turned a__law_turned l__law_turned c__law_turned k__law_turned a__law_spoil l__law_spoil c__law_spoil k__law_spoil a__law_told l__law_told c__law_told k__law_told a__law_int l__law_int c__law_int k__law_int a__law_due l__law_due c__law_due k__law_due a_law l_law c_law k_law
end K06
/-! Ev: runs of the plain functions as equations; what stays in the heap; loops by invariants. -/
namespace PA
open PySem (Str PyData)
/-- all but S stays -/
structure Fr (S : List Nat) (h h' : Heap) : Prop where
  le : h.length ≤ h'.length
  at_ : ∀ (l : Nat) (o : AO), l ∉ S → h[l]? = some o → h'[l]? = some o
section
variable {S S' : List Nat} {h h1 h2 : Heap}
theorem Fr.refl : Fr S h h := ⟨Nat.le_refl _, fun _ _ _ e => e⟩
theorem Fr.trans (a : Fr S h h1) (b : Fr S h1 h2) : Fr S h h2 := ⟨Nat.le_trans a.le b.le, fun l o n e => b.at_ l o n (a.at_ l o n e)⟩
theorem lt_of_at {l : Nat} {o : AO} (e : h[l]? = some o) : l < h.length := (List.getElem?_eq_some_iff.mp e).1
/-- one after the other: what the second changes is allowed, or new -/
theorem Fr.comp (a : Fr S h h1) (b : Fr S' h1 h2) (k : ∀ l ∈ S', l < h.length → l ∈ S) : Fr S h h2 :=
  ⟨Nat.le_trans a.le b.le, fun l o n e => b.at_ l o (fun z => n (k l z (lt_of_at e))) (a.at_ l o n e)⟩
theorem Fr.mono (a : Fr S h h1) (k : ∀ l ∈ S, l ∈ S') : Fr S' h h1 := ⟨a.le, fun l o n e => a.at_ l o (fun z => n (k l z)) e⟩
theorem Fr.of0 (a : Fr [] h h1) : Fr S h h1 := a.mono fun _ z => nomatch z
theorem Fr.push (g : Heap) : Fr S h (h ++ g) := ⟨by simp, fun l o n e => by rw [List.getElem?_append_left (lt_of_at e)]; exact e⟩
theorem Fr.set {l : Nat} {o : AO} : Fr [l] h (h.set l o) := ⟨by simp, fun k p n e => by
  rw [List.getElem?_set_ne (fun z => n (by rw [z]; exact List.mem_singleton.mpr rfl))]; exact e⟩
theorem at_push {o : AO} : (h ++ [o])[h.length]? = some o := by simp
theorem at_set {l : Nat} {o p : AO} (e : h[l]? = some p) : (h.set l o)[l]? = some o := List.getElem?_set_self (lt_of_at e)
theorem at_set_ne {l k : Nat} {o p : AO} (n : k ≠ l) (e : h[k]? = some p) : (h.set l o)[k]? = some p := by
  rw [List.getElem?_set_ne (fun z => n z.symm)]; exact e
end
/-- a walk that goes on to its end -/
theorem iter_ok {items : Heap → Option (List AV)} {xs : List AV} {g : Tg} {body : SS} (I : Nat → Env → Heap → Prop) (hit : ∀ i ρ h, i ≤ xs.length → I i ρ h → items h = some xs)
    (step : ∀ i x ρ h, xs[i]? = some x → I i ρ h → ∃ ρ1, g x ρ = some ρ1 ∧ ∃ ρ2 h2, (body ρ1 h = .nx ρ2 h2 ∨ body ρ1 h = .ct ρ2 h2) ∧ I (i + 1) ρ2 h2) :
    ∀ (k i : Nat) (ρ : Env) (h : Heap), xs.length < k + i → i ≤ xs.length → I i ρ h → ∃ ρ' h', sIter items g body k i ρ h = .nx ρ' h' ∧ I xs.length ρ' h' := by
  intro k
  induction k with
  | zero => intro i ρ h h1 h2 _; omega
  | succ k ih =>
    intro i ρ h h1 h2 hi
    unfold sIter
    rw [hit i ρ h h2 hi]
    dsimp only
    cases e : xs[i]? with
    | none =>
      have : i = xs.length := by have := List.getElem?_eq_none_iff.mp e; omega
      subst this
      exact ⟨ρ, h, rfl, hi⟩
    | some x =>
      have hlt := (List.getElem?_eq_some_iff.mp e).1
      obtain ⟨ρ1, e1, ρ2, h2, e2, p⟩ := step i x ρ h e hi
      dsimp only
      rw [e1]
      dsimp only
      rcases e2 with e2 | e2 <;> rw [e2] <;> exact ih (i + 1) ρ2 h2 (by omega) hlt p
/-- a comprehension's turns -/
theorem comp_ok {items : Heap → Option (List AV)} {xs : List AV} {g : Tg} {t : BB} {e : EE} {ρ : Env} (I : Nat → List AV → Heap → Prop) (hit : ∀ i acc h, i ≤ xs.length → I i acc h → items h = some xs)
    (step : ∀ i x acc h, xs[i]? = some x → I i acc h → ∃ ρ1, g x ρ = some ρ1 ∧ ((∃ h1, t ρ1 h = .ok false h1 ∧ I (i + 1) acc h1) ∨ ∃ h1 y h2, t ρ1 h = .ok true h1 ∧ e ρ1 h1 = .ok y h2 ∧ I (i + 1) (acc ++ [y]) h2)) :
    ∀ (k i : Nat) (acc : List AV) (h : Heap), xs.length < k + i → i ≤ xs.length → acc.length + (xs.length - i) ≤ szl → I i acc h → ∃ acc' h', lcIter items g t e ρ k i acc h = .ok acc' h' ∧ I xs.length acc' h' := by
  intro k
  induction k with
  | zero => intro i ρ h h1 h2 _ _; omega
  | succ k ih =>
    intro i acc h h1 h2 hs hi
    unfold lcIter
    rw [hit i acc h h2 hi]
    dsimp only
    cases e0 : xs[i]? with
    | none =>
      have : i = xs.length := by have := List.getElem?_eq_none_iff.mp e0; omega
      subst this
      exact ⟨acc, h, rfl, hi⟩
    | some x =>
      have hlt := (List.getElem?_eq_some_iff.mp e0).1
      obtain ⟨ρ1, e1, p⟩ := step i x acc h e0 hi
      dsimp only
      rw [e1]
      dsimp only
      rcases p with ⟨h1, e2, p⟩ | ⟨h1, y, h2, e2, e3, p⟩
      · rw [e2]; exact ih (i + 1) acc h1 (by omega) hlt (by omega) p
      · rw [e2]
        dsimp only
        rw [e3]
        dsimp only
        rw [if_pos (by omega)]
        exact ih (i + 1) (acc ++ [y]) h2 (by omega) hlt (by rw [List.length_append]; show acc.length + 1 + _ ≤ _; omega) p
/-- a comprehension that leaves the heap alone -/
theorem comp_pure {items : Heap → Option (List AV)} {xs : List AV} {g : Tg} {t : BB} {e : EE} {ρ : Env} {h : Heap} (p : AV → Bool) (f : AV → AV) (hit : items h = some xs) (hl : xs.length ≤ 16777216)
    (step : ∀ x ∈ xs, ∃ ρ1, g x ρ = some ρ1 ∧ t ρ1 h = .ok (p x) h ∧ (p x = true → e ρ1 h = .ok (f x) h)) : lcIter items g t e ρ fuel 0 [] h = .ok ((xs.filter p).map f) h := by
  obtain ⟨acc', h', e1, e2, e3⟩ := comp_ok (t := t) (e := e) (ρ := ρ) (xs := xs) (g := g) (items := items) (fun i acc h' => h' = h ∧ acc = ((xs.take i).filter p).map f) (fun i acc h' _ q => by rw [q.1]; exact hit)
    (fun i x acc h' hx q => by
      obtain ⟨ρ1, a, b, c⟩ := step x (List.mem_of_getElem? hx)
      obtain ⟨rfl, rfl⟩ := q
      have et : xs.take (i + 1) = xs.take i ++ [x] := by rw [List.take_add_one, hx]; rfl
      refine ⟨ρ1, a, ?_⟩
      cases z : p x with
      | false => exact .inl ⟨h', by rw [b, z], rfl, by rw [et, List.filter_append, List.filter_cons_of_neg (by simp [z])]; simp⟩
      | true => exact .inr ⟨h', f x, h', by rw [b, z], c z, rfl, by rw [et, List.filter_append, List.filter_cons_of_pos z]; simp⟩)
    fuel 0 [] h (by unfold fuel; omega) (Nat.zero_le _) (by unfold szl; simp; omega) ⟨rfl, rfl⟩
  rw [e1, e2, e3, List.take_length]
theorem lcomp_pure {it : II} {items : Heap → Option (List AV)} {xs : List AV} {g : Tg} {t : BB} {e : EE} {vs : List Nat} {ρ : Env} {h0 h : Heap} (p : AV → Bool) (f : AV → AV) (hi : it ρ h0 = .ok items h) (hit : items h = some xs) (hl : xs.length ≤ 16777216)
    (step : ∀ x ∈ xs, ∃ ρ1, g x (wipeA ρ vs) = some ρ1 ∧ t ρ1 h = .ok (p x) h ∧ (p x = true → e ρ1 h = .ok (f x) h)) : lComp it g t e vs ρ h0 = .ok ((xs.filter p).map f) h := by
  unfold lComp bnd
  rw [hi]
  exact comp_pure p f hit hl step
/-- .. with no test -/
theorem lcomp_map {it : II} {items : Heap → Option (List AV)} {xs : List AV} {g : Tg} {e : EE} {vs : List Nat} {ρ : Env} {h0 h : Heap} (f : AV → AV) (hi : it ρ h0 = .ok items h) (hit : items h = some xs) (hl : xs.length ≤ 16777216)
    (step : ∀ x ∈ xs, ∃ ρ1, g x (wipeA ρ vs) = some ρ1 ∧ e ρ1 h = .ok (f x) h) : lComp it g tYes e vs ρ h0 = .ok (xs.map f) h := by
  rw [lcomp_pure (fun _ => true) f hi hit hl fun x hx => by obtain ⟨ρ1, a, b⟩ := step x hx; exact ⟨ρ1, a, rfl, fun _ => b⟩]
  rw [List.filter_eq_self.mpr (fun _ _ => rfl)]
/-- a dict comprehension that leaves the heap alone -/
theorem dc_run {items : Heap → Option (List AV)} {xs : List AV} {g : Tg} {ek ev : EE} {ρ : Env} {h : Heap} (fk fv : AV → AV) (hit : items h = some xs)
    (step : ∀ x ∈ xs, ∃ ρ1, g x ρ = some ρ1 ∧ ek ρ1 h = .ok (fk x) h ∧ ev ρ1 h = .ok (fv x) h ∧ isKey (fk x) = true) :
    ∀ (k i : Nat) (acc : List (AV × AV)), xs.length < k + i → i ≤ xs.length → acc.length ≤ i → xs.length ≤ 100000 → dcIter items g tYes ek ev ρ k i acc h = .ok ((xs.drop i).foldl (fun a x => dPut a (fk x) (fv x)) acc) h := by
  intro k
  induction k with
  | zero => intro i acc h1 h2 _ _; omega
  | succ k ih =>
    intro i acc h1 h2 h3 h4
    unfold dcIter
    rw [hit]
    dsimp only
    cases e : xs[i]? with
    | none =>
      rw [List.drop_eq_nil_of_le (List.getElem?_eq_none_iff.mp e)]
      rfl
    | some x =>
      obtain ⟨hlt, hx⟩ := List.getElem?_eq_some_iff.mp e
      obtain ⟨ρ1, a, b, c, d⟩ := step x (List.mem_of_getElem? e)
      dsimp only
      rw [a]
      dsimp only
      unfold tYes
      dsimp only
      rw [b]
      dsimp only
      rw [c]
      dsimp only
      rw [if_pos ⟨d, by omega⟩, List.drop_eq_getElem_cons hlt, hx]
      refine (ih (i + 1) _ (by omega) (by omega) ?_ h4).trans rfl
      unfold dPut
      split
      · rw [List.length_map]; omega
      · rw [List.length_append]; show acc.length + 1 ≤ _; omega
theorem dc_pure {it : II} {items : Heap → Option (List AV)} {xs : List AV} {g : Tg} {ek ev : EE} {vs : List Nat} {ρ : Env} {h : Heap} (fk fv : AV → AV) (hi : it ρ h = .ok items h) (hit : items h = some xs) (hl : xs.length ≤ 100000)
    (step : ∀ x ∈ xs, ∃ ρ1, g x (wipeA ρ vs) = some ρ1 ∧ ek ρ1 h = .ok (fk x) h ∧ ev ρ1 h = .ok (fv x) h ∧ isKey (fk x) = true) : eDc it g tYes ek ev vs ρ h = .ok (.loc h.length) (h ++ [.dct (xs.foldl (fun a x => dPut a (fk x) (fv x)) [])]) := by
  unfold eDc bnd
  rw [hi]
  dsimp only
  rw [dc_run fk fv hit step fuel 0 [] (by unfold fuel; omega) (Nat.zero_le _) (Nat.zero_le _) hl]
  rfl
theorem bls_all : ∀ (bs : List Bool), blsOf (bs.map .bl) = some bs
  | [] => rfl
  | b :: r => by show (blsOf (r.map .bl)).map (b :: ·) = _; rw [bls_all r]; rfl
theorem inF_str {s : Str} {os : List Str} : inF (.str s) (os.map .str) = decide (s ∈ os) := by
  unfold inF
  rw [List.any_map]
  induction os with
  | nil => rfl
  | cons y r ih =>
    rw [List.any_cons, ih]
    show ((y == s) || decide (s ∈ r)) = _
    by_cases z : y = s
    · subst z; simp
    · have z' : ¬ s = y := fun q => z q.symm
      simp [z, z']
theorem flat_strs (os : List Str) : (os.map AV.str).all flat = true := by
  rw [List.all_map]
  exact List.all_eq_true.mpr fun _ _ => rfl
theorem inF_in {s : Str} {os : List Str} (h : s ∈ os) : inF (.str s) (os.map .str) = true := by rw [inF_str]; exact decide_eq_true h
/-- == of data -/
theorem eqA_of {h : Heap} {x y : AV} {d e : PyData} (h1 : datH h 40 x = some d) (h2 : datH h 40 y = some e) (s1 : PySem.SeqAt.shaped d = true) (s2 : PySem.SeqAt.shaped e = true) : eqA h x y = some (PyData.eqv d e) := by
  unfold eqA
  rw [h1, h2]
  dsimp only
  rw [if_pos (by rw [s1, s2]; rfl)]
abbrev sok (x : Str) : Prop := PyData.strOk x = true
theorem shaped_str {a : Str} (h : sok a) : PySem.SeqAt.shaped (.str a) = true := by
  unfold PySem.SeqAt.shaped
  simp only [PyData.canLay0, PyData.depth, h]
  rfl
theorem eqA_str {h : Heap} {a b : Str} (ha : sok a) (hb : sok b) : eqA h (.str a) (.str b) = some (decide (a = b)) := (eqA_of (d := .str a) (e := .str b) rfl rfl (shaped_str ha) (shaped_str hb)).trans (by simp only [PyData.eqv]; congr 1)
theorem eqA_int {h : Heap} {a b : Int} : eqA h (.int a) (.int b) = some (decide (a = b)) := (eqA_of (d := .int a) (e := .int b) rfl rfl rfl rfl).trans (by simp only [PyData.eqv]; congr 1)
theorem eqA_same {h : Heap} {x y : AV} {d : PyData} (h1 : datH h 40 x = some d) (h2 : datH h 40 y = some d) (s1 : PySem.SeqAt.shaped d = true) : eqA h x y = some true := by
  rw [eqA_of h1 h2 s1 s1, PySem.SeqAt.eqv_refl d (PySem.SeqAt.canLay_of_shaped s1)]
theorem sok_append {a b : Str} (ha : sok a) (hb : sok b) : sok (a ++ b) := by
  unfold sok PyData.strOk at *
  show (a.cps ++ b.cps).all _ = true
  rw [Array.all_append, ha, hb]; rfl
theorem sok_join {s : Str} (hs : sok s) : ∀ xs : List Str, (∀ x ∈ xs, sok x) → sok (Str.join s xs)
  | [], _ => (by decide +kernel : PyData.strOk Str.empty = true)
  | [x], h => h x (List.mem_singleton.mpr rfl)
  | x :: y :: r, h => sok_append (sok_append (h x List.mem_cons_self) hs) (sok_join hs (y :: r) fun z hz => h z (List.mem_cons_of_mem _ hz))
theorem txt_join (s : Str) (xs : List Str) : PySem.Txt.join s xs = Str.join s xs := PySem.StrLaws.glued_eq_join s xs
end PA
/-! EvS: each construct at a heap, for simp. -/
namespace PA
open PySem (Str PyData)
@[simp] theorem ofString_inj {s t : String} : (Str.ofString s = Str.ofString t) ↔ s = t := by
  constructor
  · intro h
    rw [Str.ofString_eq_toList, Str.ofString_eq_toList] at h
    have h1 : s.toList.map Char.toNat = t.toList.map Char.toNat := by
      have := congrArg (fun x : Str => x.cps.toList) h
      simpa using this
    have h2 : s.toList = t.toList := by
      refine List.map_inj_right (f := Char.toNat) ?_ |>.mp h1
      intro a b e
      exact Char.toNat_inj.mp e
    exact String.toList_inj.mp h2
  · intro h; rw [h]
@[simp] theorem beq_ofString {s t : String} : (Str.ofString s == Str.ofString t) = (s == t) := by
  rw [Bool.eq_iff_iff, beq_iff_eq, beq_iff_eq]
  exact ofString_inj
@[simp] theorem lookup_nil {k : Str} : List.lookup k ([] : List (Str × AV)) = none := rfl
@[simp] theorem lookup_cons {k a : Str} {v : AV} {r : List (Str × AV)} : List.lookup k ((a, v) :: r) = if k == a then some v else List.lookup k r := by
  rw [List.lookup_cons]
  cases k == a <;> rfl
@[simp] theorem lg_0 : Nat.log2 0 < 1920 := by decide +kernel
@[simp] theorem lg_1 : Nat.log2 1 < 1920 := by decide +kernel
@[simp] theorem lg_2 : Nat.log2 2 < 1920 := by decide +kernel
@[simp] theorem lg_3 : Nat.log2 3 < 1920 := by decide +kernel
def ts (i : Int) : Str := (toString i : String)
@[simp] theorem flat_non : flat .non = true := rfl
@[simp] theorem flat_bl {b : Bool} : flat (.bl b) = true := rfl
@[simp] theorem flat_int {b : Int} : flat (.int b) = true := rfl
@[simp] theorem flat_str {b : Str} : flat (.str b) = true := rfl
section
variable {α β : Type} {ρ : Env} {h : Heap}
@[simp] theorem szl_eq : szl = 16777216 := rfl
@[simp] theorem ev_bnd {m : Heap → Res α} {k : α → Heap → Res β} : bnd m k h = match m h with
  | .ok a h' => k a h'
  | .exc e h' => .exc e h'
  | .bad => .bad := rfl
@[simp] theorem ev_var {i : Nat} : eVar i ρ h = match ρ[i]? with
  | some (some v) => .ok v h
  | _ => .bad := rfl
@[simp] theorem ev_C {v : AV} : eC v ρ h = .ok v h := rfl
@[simp] theorem ev_lNil : lNil ρ h = .ok [] h := rfl
@[simp] theorem ev_lCons {e : EE} {l : LL} : lCons e l ρ h = match e ρ h with
  | .ok v h1 => (match l ρ h1 with
    | .ok vs h2 => .ok (v :: vs) h2
    | .exc x h2 => .exc x h2
    | .bad => .bad)
  | .exc x h1 => .exc x h1
  | .bad => .bad := by
  unfold lCons bnd
  cases e ρ h with
  | ok v h1 =>
    dsimp only
    cases l ρ h1 <;> rfl
  | _ => rfl
@[simp] theorem ev_lStar {e : EE} {l : LL} : lStar e l ρ h = match e ρ h with
  | .ok v h1 => (match seqOf h1 v with
    | some xs => (match l ρ h1 with
      | .ok vs h2 => .ok (xs ++ vs) h2
      | .exc x h2 => .exc x h2
      | .bad => .bad)
    | none => .bad)
  | .exc x h1 => .exc x h1
  | .bad => .bad := by
  unfold lStar bnd
  cases e ρ h with
  | ok v h1 =>
    dsimp only
    cases seqOf h1 v with
    | none => rfl
    | some xs =>
      dsimp only
      cases l ρ h1 <;> rfl
  | _ => rfl
@[simp] theorem ev_tup {l : LL} : eTup l ρ h = match l ρ h with
  | .ok vs h1 => if vs.length ≤ 16777216 then .ok (.tup vs) h1 else .bad
  | .exc x h1 => .exc x h1
  | .bad => .bad := by
  unfold eTup bnd
  cases l ρ h <;> rfl
@[simp] theorem ev_lst {l : LL} : eLst l ρ h = match l ρ h with
  | .ok vs h1 => if vs.length ≤ 16777216 then .ok (.loc h1.length) (h1 ++ [.lst vs]) else .bad
  | .exc x h1 => .exc x h1
  | .bad => .bad := by
  unfold eLst bnd
  cases l ρ h <;> rfl
@[simp] theorem ev_bin {o : O2} {a b : EE} : eBin o a b ρ h = match a ρ h with
  | .ok x h1 => (match b ρ h1 with
    | .ok y h2 => o x y h2
    | .exc x h2 => .exc x h2
    | .bad => .bad)
  | .exc x h1 => .exc x h1
  | .bad => .bad := by
  unfold eBin bnd
  cases a ρ h with
  | ok v h1 =>
    dsimp only
    cases b ρ h1 <;> rfl
  | _ => rfl
@[simp] theorem ev_tB {e : EE} : tB e ρ h = match e ρ h with
  | .ok (.bl b) h1 => .ok b h1
  | .exc x h1 => .exc x h1
  | _ => .bad := by
  unfold tB bnd
  cases e ρ h with
  | ok v h1 => cases v <;> rfl
  | _ => rfl
@[simp] theorem ev_tNot {t : BB} : tNot t ρ h = match t ρ h with
  | .ok b h1 => .ok (!b) h1
  | .exc x h1 => .exc x h1
  | .bad => .bad := by
  unfold tNot bnd
  cases t ρ h <;> rfl
@[simp] theorem ev_tAnd {t u : BB} : tAnd t u ρ h = match t ρ h with
  | .ok true h1 => u ρ h1
  | .ok false h1 => .ok false h1
  | .exc x h1 => .exc x h1
  | .bad => .bad := by
  unfold tAnd bnd
  cases t ρ h with
  | ok v h1 => cases v <;> rfl
  | _ => rfl
@[simp] theorem ev_tOr {t u : BB} : tOr t u ρ h = match t ρ h with
  | .ok true h1 => .ok true h1
  | .ok false h1 => u ρ h1
  | .exc x h1 => .exc x h1
  | .bad => .bad := by
  unfold tOr bnd
  cases t ρ h with
  | ok v h1 => cases v <;> rfl
  | _ => rfl
@[simp] theorem ev_tYes : tYes ρ h = .ok true h := rfl
@[simp] theorem ev_not {e : EE} : eNot e ρ h = match e ρ h with
  | .ok (.bl b) h1 => .ok (.bl (!b)) h1
  | .exc x h1 => .exc x h1
  | _ => .bad := by
  unfold eNot bnd
  cases e ρ h with
  | ok v h1 => cases v <;> rfl
  | _ => rfl
@[simp] theorem ev_and {a b : EE} : eAnd a b ρ h = match a ρ h with
  | .ok (.bl true) h1 => b ρ h1
  | .ok (.bl false) h1 => .ok (.bl false) h1
  | .exc x h1 => .exc x h1
  | _ => .bad := by
  unfold eAnd bnd
  cases a ρ h with
  | ok v h1 => cases v with
    | bl b => cases b <;> rfl
    | _ => rfl
  | _ => rfl
@[simp] theorem ev_or {a b : EE} : eOr a b ρ h = match a ρ h with
  | .ok (.bl true) h1 => .ok (.bl true) h1
  | .ok (.bl false) h1 => b ρ h1
  | .exc x h1 => .exc x h1
  | _ => .bad := by
  unfold eOr bnd
  cases a ρ h with
  | ok v h1 => cases v with
    | bl b => cases b <;> rfl
    | _ => rfl
  | _ => rfl
@[simp] theorem ev_if {t : BB} {a b : EE} : eIf t a b ρ h = match t ρ h with
  | .ok true h1 => a ρ h1
  | .ok false h1 => b ρ h1
  | .exc x h1 => .exc x h1
  | .bad => .bad := by
  unfold eIf bnd
  cases t ρ h with
  | ok v h1 => cases v <;> rfl
  | _ => rfl
@[simp] theorem ev_chain {o o' : O2} {a b c : EE} : eChain o o' a b c ρ h = match a ρ h with
  | .ok x h1 => (match b ρ h1 with
    | .ok y h2 => (match o x y h2 with
      | .ok (.bl true) h3 => (match c ρ h3 with
        | .ok z h4 => o' y z h4
        | .exc x h4 => .exc x h4
        | .bad => .bad)
      | .ok (.bl false) h3 => .ok (.bl false) h3
      | .exc x h3 => .exc x h3
      | _ => .bad)
    | .exc x h2 => .exc x h2
    | .bad => .bad)
  | .exc x h1 => .exc x h1
  | .bad => .bad := by
  unfold eChain bnd
  cases a ρ h with
  | ok x h1 =>
    dsimp only
    cases b ρ h1 with
    | ok y h2 =>
      dsimp only
      cases o x y h2 with
      | ok v h3 => cases v with
        | bl b =>
          cases b with
          | false => rfl
          | true =>
            dsimp only
            cases c ρ h3 <;> rfl
        | _ => rfl
      | _ => rfl
    | _ => rfl
  | _ => rfl
@[simp] theorem ev_attr {c : String} {f : Str} {e : EE} : eAttr c f e ρ h = match e ρ h with
  | .ok (.loc l) h1 => (match h1[l]? with
    | some (.ins c' fs) => if c' = c then (match fs.lookup f with
      | some x => .ok x h1
      | none => .bad) else .bad
    | _ => .bad)
  | .exc x h1 => .exc x h1
  | _ => .bad := by
  unfold eAttr bnd
  cases e ρ h with
  | ok v h1 => cases v <;> rfl
  | _ => rfl
@[simp] theorem ev_call {F : FF} {l : LL} : eCall F l ρ h = match l ρ h with
  | .ok vs h1 => F vs h1
  | .exc x h1 => .exc x h1
  | .bad => .bad := by
  unfold eCall bnd
  cases l ρ h <;> rfl
@[simp] theorem ev_meth {c : String} {m : Str} {F : FF} {e : EE} {l : LL} : eMeth c m F e l ρ h = match e ρ h with
  | .ok v h1 => if (isIns c h1 v && noFld m h1 v) = true then (match l ρ h1 with
    | .ok vs h2 => F (v :: vs) h2
    | .exc x h2 => .exc x h2
    | .bad => .bad) else .bad
  | .exc x h1 => .exc x h1
  | .bad => .bad := by
  unfold eMeth bnd
  cases e ρ h with
  | ok v h1 =>
    dsimp only
    split
    · cases l ρ h1 <;> rfl
    · rfl
  | _ => rfl
@[simp] theorem ev_methS {c : String} {F : FF} {e : EE} {l : LL} : eMethS c F e l ρ h = match e ρ h with
  | .ok v h1 => if isIns c h1 v = true then (match l ρ h1 with
    | .ok vs h2 => F (v :: vs) h2
    | .exc x h2 => .exc x h2
    | .bad => .bad) else .bad
  | .exc x h1 => .exc x h1
  | .bad => .bad := by
  unfold eMethS bnd
  cases e ρ h with
  | ok v h1 =>
    dsimp only
    split
    · cases l ρ h1 <;> rfl
    · rfl
  | _ => rfl
@[simp] theorem ev_prop {c : String} {F : FF} {e : EE} : eProp c F e ρ h = match e ρ h with
  | .ok v h1 => if isIns c h1 v = true then noExc (F [v] h1) else .bad
  | .exc x h1 => .exc x h1
  | .bad => .bad := by
  unfold eProp bnd
  cases e ρ h <;> rfl
@[simp] theorem noExc_ok {a : α} : noExc (.ok a h) = .ok a h := rfl
@[simp] theorem ev_make {c : String} {F : FF} {l : LL} : eMake c F l ρ h = match l ρ h with
  | .ok vs h1 => (match F (.loc h1.length :: vs) (h1 ++ [.ins c []]) with
    | .ok .non h' => .ok (.loc h1.length) h'
    | .ok _ _ => .bad
    | .exc e h' => .exc e h'
    | .bad => .bad)
  | .exc x h1 => .exc x h1
  | .bad => .bad := by
  unfold eMake bnd
  cases l ρ h with
  | ok vs h1 =>
    dsimp only <;> (cases F (.loc h1.length :: vs) (h1 ++ [.ins c []]) with
      | ok v h2 => cases v <;> rfl
      | _ => rfl)
  | _ => rfl
@[simp] theorem ev_newD : eNewD ρ h = .ok (.loc h.length) (h ++ [.dct []]) := rfl
@[simp] theorem isIns_loc {c : String} {l : Nat} : isIns c h (.loc l) = match h[l]? with
    | some (.ins c' _) => decide (c' = c)
    | _ => false := rfl
@[simp] theorem noFld_loc {m : Str} {l : Nat} : noFld m h (.loc l) = match h[l]? with
    | some (.ins _ fs) => (fs.lookup m).isNone
    | _ => false := rfl
@[simp] theorem get_app {g : Heap} {l : Nat} (e : (h[l]?).isSome = true) : (h ++ g)[l]? = h[l]? := by
  cases z : h[l]? with
  | none => rw [z] at e; cases e
  | some o => rw [List.getElem?_append_left (lt_of_at z)]; exact z
@[simp] theorem get_len {g : Heap} : (h ++ g)[h.length]? = g[0]? := by rw [List.getElem?_append_right (Nat.le_refl _), Nat.sub_self]
@[simp] theorem get_len1 {g : Heap} {i : Nat} : (h ++ g)[h.length + i]? = g[i]? := by rw [List.getElem?_append_right (Nat.le_add_right _ _), Nat.add_sub_cancel_left]
@[simp] theorem get_set {l : Nat} {o : AO} (e : (h[l]?).isSome = true) : (h.set l o)[l]? = some o := by
  cases z : h[l]? with
  | none => rw [z] at e; cases e
  | some p => exact at_set z
@[simp] theorem set_app {g : Heap} {o : AO} : (h ++ g).set h.length o = h ++ g.set 0 o := by rw [List.set_append_right _ _ (Nat.le_refl _), Nat.sub_self]
@[simp] theorem set_app1 {g : Heap} {i : Nat} {o : AO} : (h ++ g).set (h.length + i) o = h ++ g.set i o := by rw [List.set_append_right _ _ (Nat.le_add_right _ _), Nat.add_sub_cancel_left]
/-! operators -/
@[simp] theorem o_addII {i j : Int} : oAdd (.int i) (.int j) h = .ok (.int (i + j)) h := rfl
@[simp] theorem o_addSS {s t : Str} : oAdd (.str s) (.str t) h = if s.length + t.length ≤ 16777216 then .ok (.str (s ++ t)) h else .bad := rfl
@[simp] theorem o_addTT {xs ys : List AV} : oAdd (.tup xs) (.tup ys) h = if xs.length + ys.length ≤ 16777216 then .ok (.tup (xs ++ ys)) h else .bad := rfl
@[simp] theorem o_addLL {a b : Nat} : oAdd (.loc a) (.loc b) h = match h[a]?, h[b]? with
    | some (.lst xs), some (.lst ys) => if xs.length + ys.length ≤ 16777216 then .ok (.loc h.length) (h ++ [.lst (xs ++ ys)]) else .bad
    | _, _ => .bad := rfl
@[simp] theorem o_addI {i j : Int} : oAddI (.int i) (.int j) h = .ok (.int (i + j)) h := rfl
@[simp] theorem o_sub {i j : Int} : oSub (.int i) (.int j) h = .ok (.int (i - j)) h := rfl
@[simp] theorem o_mulII {i j : Int} : oMul (.int i) (.int j) h = if (-(2 ^ 64) < i ∧ i < 2 ^ 64) ∨ (-(2 ^ 64) < j ∧ j < 2 ^ 64) then .ok (.int (i * j)) h else .bad := rfl
@[simp] theorem o_mulSI {s : Str} {j : Int} : oMul (.str s) (.int j) h = if 0 ≤ j ∧ j ≤ 1000 ∧ s.length ≤ 1000 then .ok (.str (PySem.Txt.mul s j)) h else .bad := rfl
@[simp] theorem o_mod {i j : Int} : oMod (.int i) (.int j) h = if 0 < j then .ok (.int (i % j)) h else .bad := rfl
@[simp] theorem o_div {i j : Int} : oDiv (.int i) (.int j) h = if 0 < j ∧ j < 1073741824 then .ok (.int (i / j)) h else .bad := rfl
@[simp] theorem o_pow {i j : Int} : oPow (.int i) (.int j) h = if 0 ≤ j ∧ j ≤ 1000 ∧ -1000 ≤ i ∧ i ≤ 1000 then .ok (.int (i ^ j.toNat)) h else .bad := rfl
@[simp] theorem o_eq {x y : AV} : oEq x y h = match eqA h x y with
  | some b => .ok (.bl b) h
  | none => .bad := rfl
@[simp] theorem o_ne {x y : AV} : oNe x y h = match eqA h x y with
  | some b => .ok (.bl (!b)) h
  | none => .bad := rfl
@[simp] theorem o_lt {i j : Int} : oLt (.int i) (.int j) h = .ok (.bl (decide (i < j))) h := rfl
@[simp] theorem o_le {i j : Int} : oLe (.int i) (.int j) h = .ok (.bl (decide (i ≤ j))) h := rfl
@[simp] theorem o_gt {i j : Int} : oGt (.int i) (.int j) h = .ok (.bl (decide (j < i))) h := rfl
@[simp] theorem o_ge {i j : Int} : oGe (.int i) (.int j) h = .ok (.bl (decide (j ≤ i))) h := rfl
@[simp] theorem o_isN {x : AV} : oIsN x .non h = .ok (.bl x.isNon) h := rfl
@[simp] theorem o_notN {x : AV} : oNotN x .non h = .ok (.bl (!x.isNon)) h := rfl
@[simp] theorem isNon_non : AV.isNon .non = true := rfl
@[simp] theorem isNon_int {i : Int} : AV.isNon (.int i) = false := rfl
@[simp] theorem o_ix {x : AV} {i : Int} : oIx x (.int i) h = match seqOf h x with
    | some xs => (match atI xs i with
      | some v => .ok v h
      | none => .bad)
    | none => .bad := rfl
theorem atI_nat {xs : List AV} (n : Nat) : atI xs (n : Int) = xs[n]? := by
  unfold atI ixN
  rw [if_pos (Int.natCast_nonneg n)]
  by_cases h : (n : Int) < xs.length
  · rw [if_pos h]; rfl
  · rw [if_neg h]
    exact (List.getElem?_eq_none_iff.mpr (by omega)).symm
@[simp] theorem atI_0 {xs : List AV} : atI xs 0 = xs[0]? := atI_nat 0
@[simp] theorem atI_1 {xs : List AV} : atI xs 1 = xs[1]? := atI_nat 1
@[simp] theorem atI_2 {xs : List AV} : atI xs 2 = xs[2]? := atI_nat 2
@[simp] theorem atI_3 {xs : List AV} : atI xs 3 = xs[3]? := atI_nat 3
@[simp] theorem atI_4 {xs : List AV} : atI xs 4 = xs[4]? := atI_nat 4
@[simp] theorem atI_5 {xs : List AV} : atI xs 5 = xs[5]? := atI_nat 5
theorem atI_in {xs : List AV} {i : Int} (h0 : 0 ≤ i) (h1 : i < xs.length) : ∃ v, atI xs i = some v ∧ xs[i.toNat]? = some v := by
  have e : i = (i.toNat : Int) := (Int.toNat_of_nonneg h0).symm
  have hl : i.toNat < xs.length := by omega
  have e2 : atI xs i = xs[i.toNat]? := by
    conv => lhs; rw [e]
    exact atI_nat _
  exact ⟨xs[i.toNat], e2.trans (List.getElem?_eq_getElem hl), List.getElem?_eq_getElem hl⟩
theorem ixN_nat {n k : Nat} (h : k < n) : ixN n (k : Int) = some k := by
  unfold ixN
  rw [if_pos (Int.natCast_nonneg k), if_pos (by omega)]
  rfl
theorem ixN_in {n : Nat} {i : Int} (h0 : 0 ≤ i) (h1 : i < n) : ixN n i = some i.toNat := by
  unfold ixN
  rw [if_pos h0, if_pos h1]
@[simp] theorem ixN_0 {n : Nat} : ixN n 0 = if 0 < n then some 0 else none := by
  by_cases h : 0 < n
  · rw [if_pos h]; exact ixN_nat h
  · rw [if_neg h]; unfold ixN; rw [if_pos (by decide), if_neg (by omega)]
@[simp] theorem ixN_1 {n : Nat} : ixN n 1 = if 1 < n then some 1 else none := by
  by_cases h : 1 < n
  · rw [if_pos h]; exact ixN_nat h
  · rw [if_neg h]; unfold ixN; rw [if_pos (by decide), if_neg (by omega)]
@[simp] theorem ixN_2 {n : Nat} : ixN n 2 = if 2 < n then some 2 else none := by
  by_cases h : 2 < n
  · rw [if_pos h]; exact ixN_nat h
  · rw [if_neg h]; unfold ixN; rw [if_pos (by decide), if_neg (by omega)]
@[simp] theorem ixN_3 {n : Nat} : ixN n 3 = if 3 < n then some 3 else none := by
  by_cases h : 3 < n
  · rw [if_pos h]; exact ixN_nat h
  · rw [if_neg h]; unfold ixN; rw [if_pos (by decide), if_neg (by omega)]
@[simp] theorem ixN_4 {n : Nat} : ixN n 4 = if 4 < n then some 4 else none := by
  by_cases h : 4 < n
  · rw [if_pos h]; exact ixN_nat h
  · rw [if_neg h]; unfold ixN; rw [if_pos (by decide), if_neg (by omega)]
@[simp] theorem ixN_5 {n : Nat} : ixN n 5 = if 5 < n then some 5 else none := by
  by_cases h : 5 < n
  · rw [if_pos h]; exact ixN_nat h
  · rw [if_neg h]; unfold ixN; rw [if_pos (by decide), if_neg (by omega)]
@[simp] theorem seq_tup {xs : List AV} : seqOf h (.tup xs) = some xs := rfl
@[simp] theorem seq_loc {l : Nat} : seqOf h (.loc l) = match h[l]? with
    | some (.lst xs) => some xs
    | _ => none := rfl
@[simp] theorem o_in {x y : AV} : oIn x y h = match seqOf h y with
  | some xs => if (flat x && xs.all flat) = true then .ok (.bl (inF x xs)) h else .bad
  | none => .bad := rfl
@[simp] theorem o_notin {x y : AV} : oNotIn x y h = match seqOf h y with
  | some xs => if (flat x && xs.all flat) = true then .ok (.bl (!inF x xs)) h else .bad
  | none => .bad := rfl
@[simp] theorem dctOf_loc {l : Nat} : dctOf h (.loc l) = match h[l]? with
    | some (.dct kvs) => some kvs
    | some (.lck kvs) => some kvs
    | _ => none := rfl
@[simp] theorem o_dget {x y : AV} : oDGet x y h = match dctOf h x with
  | some kvs => if isKey y = true then (match dGet kvs y with
    | some v => .ok v h
    | none => .bad) else .bad
  | none => .bad := rfl
@[simp] theorem o_din {x y : AV} : oDIn y x h = match dctOf h x with
  | some kvs => if isKey y = true then .ok (.bl (dGet kvs y).isSome) h else .bad
  | none => .bad := rfl
@[simp] theorem o_dnotin {x y : AV} : oDNotIn y x h = match dctOf h x with
  | some kvs => if isKey y = true then .ok (.bl (!(dGet kvs y).isSome)) h else .bad
  | none => .bad := rfl
@[simp] theorem o_kget {kvs : List (Str × AV)} {x : AV} {z : Str} : oKGet kvs x (.str z) h = match kvs.lookup z with
    | some v => .ok v h
    | none => .bad := rfl
@[simp] theorem isKey_str {s : Str} : isKey (.str s) = true := rfl
@[simp] theorem isKey_int {s : Int} : isKey (.int s) = true := rfl
/-! built-ins -/
@[simp] theorem b_isi {x : AV} {T : String} : bIsi [x, .ty T] h = match tyOf h x with
    | some t => if (["int", "bool", "str", "tuple", "dict", "list"].contains T) = true then .ok (.bl (t == T || (t == "bool" && T == "int"))) h else .bad
    | none => .bad := rfl
@[simp] theorem ty_non : tyOf h .non = some "NoneType" := rfl
@[simp] theorem ty_bl {b : Bool} : tyOf h (.bl b) = some "bool" := rfl
@[simp] theorem ty_int {b : Int} : tyOf h (.int b) = some "int" := rfl
@[simp] theorem ty_str {b : Str} : tyOf h (.str b) = some "str" := rfl
@[simp] theorem ty_tup {b : List AV} : tyOf h (.tup b) = some "tuple" := rfl
@[simp] theorem ty_loc {l : Nat} : tyOf h (.loc l) = match h[l]? with
    | some (.lst _) => some "list"
    | some (.dct _) => some "dict"
    | some (.lck _) => some "dict"
    | _ => none := rfl
@[simp] theorem b_lenS {s : Str} : bLen [.str s] h = if s.length ≤ 16777216 then .ok (.int s.length) h else .bad := rfl
@[simp] theorem b_lenT {xs : List AV} : bLen [.tup xs] h = .ok (.int xs.length) h := rfl
@[simp] theorem b_lenL {l : Nat} : bLen [.loc l] h = match seqOf h (.loc l) with
    | some xs => .ok (.int xs.length) h
    | none => (match dctU h (.loc l) with
      | some kvs => .ok (.int kvs.length) h
      | none => .bad) := rfl
@[simp] theorem dctU_loc {l : Nat} : dctU h (.loc l) = match h[l]? with
    | some (.dct kvs) => some kvs
    | _ => none := rfl
@[simp] theorem b_intI {i : Int} : bInt [.int i] h = .ok (.int i) h := rfl
@[simp] theorem b_intB {b : Bool} : bInt [.bl b] h = .ok (.int (if b then 1 else 0)) h := rfl
@[simp] theorem b_strI {i : Int} : bStrI [.int i] h = if i.natAbs.log2 < 1920 then .ok (.str (ts i)) h else .bad := rfl
@[simp] theorem b_max2 {i j : Int} : bMax2 [.int i, .int j] h = .ok (.int (if j > i then j else i)) h := rfl
@[simp] theorem b_tuple {x : AV} : bTuple [x] h = match seqOf h x with
    | some xs => .ok (.tup xs) h
    | none => .bad := rfl
@[simp] theorem b_list {x : AV} : bList [x] h = match seqOf h x with
    | some xs => .ok (.loc h.length) (h ++ [.lst xs])
    | none => .bad := rfl
@[simp] theorem b_listS {ns : List Int} : bListS ns [.gl "#s"] h = .ok (.loc h.length) (h ++ [.lst (ns.map .int)]) := rfl
@[simp] theorem b_isC {c : String} {x : AV} : bIsC c [x, .gl c] h = if isIns c h x = true then .ok (.bl true) h else match tyOf h x with
    | some _ => .ok (.bl false) h
    | none => .bad := by
  show (if c = c then _ else _) = _
  rw [if_pos rfl] <;> rfl
@[simp] theorem b_intS {val : Str → Option Int} {z : Str} : bIntS val [.str z] h = match val z with
    | some n => .ok (.int n) h
    | none => .bad := rfl
@[simp] theorem b_dict {x : AV} : bDict [x] h = match dctOf h x with
    | some kvs => .ok (.loc h.length) (h ++ [.dct kvs])
    | none => .bad := rfl
@[simp] theorem m_append {l : Nat} {y : AV} : mAppend (.loc l) [y] h = match h[l]? with
    | some (.lst xs) => if xs.length < 16777216 then .ok .non (h.set l (.lst (xs ++ [y]))) else .bad
    | _ => .bad := rfl
@[simp] theorem m_extend {l k : Nat} : mExtend (.loc l) [.loc k] h = match h[l]?, h[k]? with
    | some (.lst xs), some (.lst ys) => if xs.length + ys.length ≤ 16777216 then .ok .non (h.set l (.lst (xs ++ ys))) else .bad
    | _, _ => .bad := rfl
@[simp] theorem m_extendT {l : Nat} {ys : List AV} : mExtendT (.loc l) ys h = match h[l]? with
    | some (.lst xs) => if xs.length + ys.length ≤ 16777216 then .ok .non (h.set l (.lst (xs ++ ys))) else .bad
    | _ => .bad := rfl
@[simp] theorem isLst_loc {l : Nat} : isLst h (.loc l) = match h[l]? with
    | some (.lst _) => true
    | _ => false := rfl
@[simp] theorem isDct_loc {l : Nat} : isDct h (.loc l) = match h[l]? with
    | some (.dct _) => true
    | _ => false := rfl
@[simp] theorem m_upd {l k : Nat} : mUpd (.loc l) [.loc k] h = if l = k then .bad else match h[l]?, h[k]? with
    | some (.dct xs), some (.dct ys) => if xs.length + ys.length ≤ 100000 then .ok .non (h.set l (.dct (ys.foldl (fun acc p => dPut acc p.1 p.2) xs))) else .bad
    | _, _ => .bad := rfl
@[simp] theorem ev_lm {M : MM} {o : EE} {l : LL} : eLm M o l ρ h = match o ρ h with
  | .ok x h1 => if isLst h1 x = true then (match l ρ h1 with
    | .ok vs h2 => M x vs h2
    | .exc x h2 => .exc x h2
    | .bad => .bad) else .bad
  | .exc x h1 => .exc x h1
  | .bad => .bad := by
  unfold eLm bnd
  cases o ρ h with
  | ok v h1 =>
    dsimp only
    split
    · cases l ρ h1 <;> rfl
    · rfl
  | _ => rfl
@[simp] theorem ev_dm {M : MM} {o : EE} {l : LL} : eDm M o l ρ h = match o ρ h with
  | .ok x h1 => if isDct h1 x = true then (match l ρ h1 with
    | .ok vs h2 => M x vs h2
    | .exc x h2 => .exc x h2
    | .bad => .bad) else .bad
  | .exc x h1 => .exc x h1
  | .bad => .bad := by
  unfold eDm bnd
  cases o ρ h with
  | ok v h1 =>
    dsimp only
    split
    · cases l ρ h1 <;> rfl
    · rfl
  | _ => rfl
@[simp] theorem ev_extT {o : EE} {l : LL} : eExtT o l ρ h = match o ρ h with
  | .ok x h1 => if isLst h1 x = true then (match l ρ h1 with
    | .ok vs h2 => mExtendT x vs h2
    | .exc x h2 => .exc x h2
    | .bad => .bad) else .bad
  | .exc x h1 => .exc x h1
  | .bad => .bad := by
  unfold eExtT bnd
  cases o ρ h with
  | ok v h1 =>
    dsimp only
    split
    · cases l ρ h1 <;> rfl
    · rfl
  | _ => rfl
@[simp] theorem ev_keep {l : LL} : eKeep l ρ h = match l ρ h with
  | .ok vs h1 => .ok (.loc h1.length) (h1 ++ [.lst vs])
  | .exc x h1 => .exc x h1
  | .bad => .bad := by
  unfold eKeep bnd
  cases l ρ h <;> rfl
@[simp] theorem ev_tupOf {l : LL} : eTupOf l ρ h = match l ρ h with
  | .ok vs h1 => .ok (.tup vs) h1
  | .exc x h1 => .exc x h1
  | .bad => .bad := by
  unfold eTupOf bnd
  cases l ρ h <;> rfl
@[simp] theorem ev_allOf {l : LL} : eAllOf l ρ h = match l ρ h with
  | .ok vs h1 => (match blsOf vs with
    | some bs => .ok (.bl (bs.all id)) h1
    | none => .bad)
  | .exc x h1 => .exc x h1
  | .bad => .bad := by
  unfold eAllOf bnd
  cases l ρ h <;> rfl
@[simp] theorem ev_anyOf {l : LL} : eAnyOf l ρ h = match l ρ h with
  | .ok vs h1 => (match blsOf vs with
    | some bs => .ok (.bl (bs.any id)) h1
    | none => .bad)
  | .exc x h1 => .exc x h1
  | .bad => .bad := by
  unfold eAnyOf bnd
  cases l ρ h <;> rfl
@[simp] theorem ev_lDisp {l : LL} : lDisp l ρ h = match l ρ h with
  | .ok vs h1 => if vs.length ≤ 16777216 then .ok vs h1 else .bad
  | .exc x h1 => .exc x h1
  | .bad => .bad := by
  unfold lDisp bnd
  cases l ρ h <;> rfl
@[simp] theorem ev_lOf {e : EE} : lOf e ρ h = match e ρ h with
  | .ok v h1 => (match seqOf h1 v with
    | some xs => .ok xs h1
    | none => .bad)
  | .exc x h1 => .exc x h1
  | .bad => .bad := by
  unfold lOf bnd
  cases e ρ h <;> rfl
@[simp] theorem ev_lDct0 : lDct [] ρ h = .ok [] h := rfl
@[simp] theorem ev_lDct {k : Str} {e : EE} {r : List (Str × EE)} : lDct ((k, e) :: r) ρ h = match e ρ h with
  | .ok v h1 => (match lDct r ρ h1 with
    | .ok vs h2 => .ok ((k, v) :: vs) h2
    | .exc x h2 => .exc x h2
    | .bad => .bad)
  | .exc x h1 => .exc x h1
  | .bad => .bad := by
  conv => lhs; unfold lDct
  unfold bnd
  cases e ρ h with
  | ok v h1 =>
    dsimp only
    cases lDct r ρ h1 <;> rfl
  | _ => rfl
@[simp] theorem ev_disp {kes : List (Str × EE)} : eDisp kes ρ h = match lDct kes ρ h with
  | .ok ps h1 => .ok (.loc h1.length) (h1 ++ [.dct (ps.foldl (fun acc p => dPut acc (.str p.1) p.2) [])])
  | .exc x h1 => .exc x h1
  | .bad => .bad := by
  unfold eDisp bnd
  cases lDct kes ρ h <;> rfl
@[simp] theorem ev_join {o e : EE} : eJoin o e ρ h = match o ρ h with
  | .ok (.str a) h1 => (match e ρ h1 with
    | .ok y h2 => (match seqOf h2 y with
      | some xs => joinS a xs h2
      | none => .bad)
    | .exc x h2 => .exc x h2
    | .bad => .bad)
  | .exc x h1 => .exc x h1
  | _ => .bad := by
  unfold eJoin bnd
  cases o ρ h with
  | ok v h1 =>
    cases v with
    | str a =>
      dsimp only
      cases e ρ h1 <;> rfl
    | _ => rfl
  | _ => rfl
@[simp] theorem ev_joinT {o : EE} {l : LL} : eJoinT o l ρ h = match o ρ h with
  | .ok (.str a) h1 => (match l ρ h1 with
    | .ok xs h2 => joinS a xs h2
    | .exc x h2 => .exc x h2
    | .bad => .bad)
  | .exc x h1 => .exc x h1
  | _ => .bad := by
  unfold eJoinT bnd
  cases o ρ h with
  | ok v h1 =>
    cases v with
    | str a =>
      dsimp only
      cases l ρ h1 <;> rfl
    | _ => rfl
  | _ => rfl
theorem strs_map : ∀ (ys : List Str), strsOf (ys.map .str) = some ys
  | [] => rfl
  | y :: r => by show (strsOf (r.map .str)).map (y :: ·) = _; rw [strs_map r]; rfl
theorem joinS_ok {a : Str} {ys : List Str} (hb : (ys.map (·.length)).sum + ys.length * a.length ≤ 16777216) : joinS a (ys.map .str) h = .ok (.str (PySem.Txt.join a ys)) h := by
  unfold joinS
  rw [strs_map]
  dsimp only
  rw [if_pos hb]
@[simp] theorem ev_fmt {e : EE} : eFmt e ρ h = match e ρ h with
  | .ok (.str y) h1 => if y.length ≤ 16777216 then .ok (.str y) h1 else .bad
  | .ok (.int i) h1 => if i.natAbs.log2 < 1920 then .ok (.str (ts i)) h1 else .bad
  | .exc x h1 => .exc x h1
  | _ => .bad := by
  unfold eFmt bnd
  cases e ρ h with
  | ok v h1 => cases v <;> rfl
  | _ => rfl
@[simp] theorem ev_fj0 {acc : Str} : fJoin [] acc ρ h = .ok (.str acc) h := rfl
@[simp] theorem ev_fj {t : EE} {ts : List EE} {acc : Str} : fJoin (t :: ts) acc ρ h = match t ρ h with
  | .ok (.str y) h1 => if (acc ++ y).length ≤ 16777216 then fJoin ts (acc ++ y) ρ h1 else .bad
  | .exc x h1 => .exc x h1
  | _ => .bad := by
  conv => lhs; unfold fJoin
  unfold bnd
  cases t ρ h with
  | ok v h1 => cases v <;> rfl
  | _ => rfl
@[simp] theorem ev_fstr {ts : List EE} : eFStr ts ρ h = fJoin ts Str.empty ρ h := rfl
@[simp] theorem ev_split {o e : EE} : lSplit o e ρ h = match o ρ h with
  | .ok (.str a) h1 => (match e ρ h1 with
    | .ok (.str b) h2 => if (b.length == 0) = false ∧ a.length + 2 ≤ 16777216 then .ok ((PySem.Txt.split a b).map .str) h2 else .bad
    | .exc x h2 => .exc x h2
    | _ => .bad)
  | .exc x h1 => .exc x h1
  | _ => .bad := by
  unfold lSplit bnd
  cases o ρ h with
  | ok v h1 =>
    cases v with
    | str a =>
      dsimp only
      cases e ρ h1 with
      | ok w h2 => cases w <;> rfl
      | _ => rfl
    | _ => rfl
  | _ => rfl
@[simp] theorem ev_lenK {n : Nat} : eLenK n ρ h = .ok (.int n) h := rfl
/-! statements -/
@[simp] theorem sv_bnd {m : Env → Heap → Res α} {k : α → SS} : sBnd m k ρ h = match m ρ h with
  | .ok a h' => k a ρ h'
  | .exc e h' => .exc e ρ h'
  | .bad => .bad := rfl
@[simp] theorem sv_nil : sNil ρ h = .nx ρ h := rfl
@[simp] theorem sv_seq {a b : SS} : sSeq a b ρ h = match a ρ h with
  | .nx ρ' h' => b ρ' h'
  | .ret v h' => .ret v h'
  | .brk ρ' h' => .brk ρ' h'
  | .ct ρ' h' => .ct ρ' h'
  | .exc e ρ' h' => .exc e ρ' h'
  | .bad => .bad := by
  unfold sSeq
  cases a ρ h <;> rfl
@[simp] theorem sv_expr {e : EE} : sExpr e ρ h = match e ρ h with
  | .ok a h' => .nx ρ h'
  | .exc e h' => .exc e ρ h'
  | .bad => .bad := by
  unfold sExpr sBnd
  cases e ρ h <;> rfl
@[simp] theorem sv_ret {e : EE} : sRet e ρ h = match e ρ h with
  | .ok a h' => .ret a h'
  | .exc e h' => .exc e ρ h'
  | .bad => .bad := by
  unfold sRet sBnd
  cases e ρ h <;> rfl
@[simp] theorem sv_retN : sRetN ρ h = .ret .non h := rfl
@[simp] theorem sv_if {t : BB} {a b : SS} : sIf t a b ρ h = match t ρ h with
  | .ok true h1 => a ρ h1
  | .ok false h1 => b ρ h1
  | .exc x h1 => .exc x ρ h1
  | .bad => .bad := by
  unfold sIf sBnd
  cases t ρ h with
  | ok v h1 => cases v <;> rfl
  | _ => rfl
@[simp] theorem sv_set {i : Nat} {e : EE} : sSet i e ρ h = match e ρ h with
  | .ok v h1 => .nx (ρ.set i (some v)) h1
  | .exc x h1 => .exc x ρ h1
  | .bad => .bad := by
  unfold sSet sBnd
  cases e ρ h <;> rfl
@[simp] theorem sv_asg {g : Tg} {e : EE} : sAsg g e ρ h = match e ρ h with
  | .ok v h1 => (match g v ρ with
    | some ρ' => .nx ρ' h1
    | none => .bad)
  | .exc x h1 => .exc x ρ h1
  | .bad => .bad := by
  unfold sAsg sBnd
  cases e ρ h <;> rfl
@[simp] theorem g_name {i : Nat} {v : AV} : gName i v ρ = some (ρ.set i (some v)) := rfl
@[simp] theorem g_tup {is : List Nat} {xs : List AV} : gTup is (.tup xs) ρ = gNames is xs ρ := rfl
@[simp] theorem g_nil : gNames [] [] ρ = some ρ := rfl
@[simp] theorem g_cons {i : Nat} {is : List Nat} {v : AV} {vs : List AV} : gNames (i :: is) (v :: vs) ρ = gNames is vs (ρ.set i (some v)) := rfl
@[simp] theorem sv_bad : sBad ρ h = .bad := rfl
@[simp] theorem sv_attr {c : String} {o e : EE} {f : Str} : sAttr c o f e ρ h = match e ρ h with
  | .ok x h1 => (match o ρ h1 with
    | .ok (.loc l) h2 => (match h2[l]? with
      | some (.ins c' fs) => if c' = c ∧ fs.length < 100 then .nx ρ (h2.set l (.ins c (putF f x fs))) else .bad
      | _ => .bad)
    | .exc x h2 => .exc x ρ h2
    | _ => .bad)
  | .exc x h1 => .exc x ρ h1
  | .bad => .bad := by
  unfold sAttr sBnd
  cases e ρ h with
  | ok x h1 =>
    dsimp only
    cases o ρ h1 with
    | ok v h2 => cases v <;> rfl
    | _ => rfl
  | _ => rfl
@[simp] theorem sv_ix {o i e : EE} : sIx o i e ρ h = match e ρ h with
  | .ok x h1 => (match o ρ h1 with
    | .ok v h2 => (match i ρ h2 with
      | .ok k h3 => (match v, k with
        | .loc l, .int j => (match h3[l]? with
          | some (.lst xs) => (match ixN xs.length j with
            | some m => .nx ρ (h3.set l (.lst (xs.set m x)))
            | none => .bad)
          | _ => .bad)
        | _, _ => .bad)
      | .exc x h3 => .exc x ρ h3
      | .bad => .bad)
    | .exc x h2 => .exc x ρ h2
    | .bad => .bad)
  | .exc x h1 => .exc x ρ h1
  | .bad => .bad := by
  unfold sIx sBnd
  cases e ρ h with
  | ok x h1 =>
    dsimp only
    cases o ρ h1 with
    | ok v h2 =>
      dsimp only
      cases i ρ h2 with
      | ok k h3 => cases v <;> first | rfl | (cases k <;> rfl)
      | _ => rfl
    | _ => rfl
  | _ => rfl
@[simp] theorem sv_dput {o i e : EE} : sDPut o i e ρ h = match e ρ h with
  | .ok x h1 => (match o ρ h1 with
    | .ok v h2 => (match i ρ h2 with
      | .ok k h3 => (match v with
        | .loc l => (match h3[l]? with
          | some (.dct kvs) => if (isKey k = true ∧ kvs.length < 100000) then .nx ρ (h3.set l (.dct (dPut kvs k x))) else .bad
          | _ => .bad)
        | _ => .bad)
      | .exc x h3 => .exc x ρ h3
      | .bad => .bad)
    | .exc x h2 => .exc x ρ h2
    | .bad => .bad)
  | .exc x h1 => .exc x ρ h1
  | .bad => .bad := by
  unfold sDPut sBnd
  cases e ρ h with
  | ok x h1 =>
    dsimp only
    cases o ρ h1 with
    | ok v h2 =>
      dsimp only
      cases i ρ h2 with
      | ok k h3 => cases v <;> first | rfl | (cases k <;> rfl)
      | _ => rfl
    | _ => rfl
  | _ => rfl
@[simp] theorem sv_for {it : II} {g : Tg} {body : SS} : sFor it g body ρ h = match it ρ h with
  | .ok items h1 => sIter items g body fuel 0 ρ h1
  | .exc x h1 => .exc x ρ h1
  | .bad => .bad := by
  unfold sFor sBnd
  cases it ρ h <;> rfl
/-! what is walked -/
@[simp] theorem i_tup {e : EE} : iTup e ρ h = match e ρ h with
  | .ok (.tup xs) h1 => .ok (fun _ => some xs) h1
  | .exc x h1 => .exc x h1
  | _ => .bad := by
  unfold iTup bnd
  cases e ρ h with
  | ok v h1 => cases v <;> rfl
  | _ => rfl
@[simp] theorem i_loc {e : EE} : iLoc e ρ h = match e ρ h with
  | .ok (.loc l) h1 => (match h1[l]? with
    | some (.lst _) => .ok (fun h => lstOf h l) h1
    | _ => .bad)
  | .exc x h1 => .exc x h1
  | _ => .bad := by
  unfold iLoc bnd
  cases e ρ h with
  | ok v h1 => cases v <;> rfl
  | _ => rfl
@[simp] theorem i_enum {e : EE} : iEnum e ρ h = match e ρ h with
  | .ok (.loc l) h1 => (match h1[l]? with
    | some (.lst _) => .ok (fun h => (lstOf h l).map numbered) h1
    | _ => .bad)
  | .exc x h1 => .exc x h1
  | _ => .bad := by
  unfold iEnum bnd
  cases e ρ h with
  | ok v h1 => cases v <;> rfl
  | _ => rfl
@[simp] theorem i_enumT {e : EE} : iEnumT e ρ h = match e ρ h with
  | .ok (.tup xs) h1 => .ok (fun _ => some (numbered xs)) h1
  | .exc x h1 => .exc x h1
  | _ => .bad := by
  unfold iEnumT bnd
  cases e ρ h with
  | ok v h1 => cases v <;> rfl
  | _ => rfl
@[simp] theorem i_tmp {l : LL} : iTmp l ρ h = match l ρ h with
  | .ok xs h1 => .ok (fun _ => some xs) h1
  | .exc x h1 => .exc x h1
  | .bad => .bad := by
  unfold iTmp bnd
  cases l ρ h <;> rfl
@[simp] theorem i_keysK {ks : List Str} : iKeysK ks ρ h = .ok (fun _ => some (ks.map .str)) h := rfl
@[simp] theorem i_range0 {e : EE} : iRange0 e ρ h = match e ρ h with
  | .ok (.int j) h1 => if -(2 ^ 62) ≤ j ∧ j < 2 ^ 62 then .ok (fun _ => some (rangeL 0 j)) h1 else .bad
  | .exc x h1 => .exc x h1
  | _ => .bad := by
  unfold iRange0 bnd
  cases e ρ h with
  | ok v h1 => cases v <;> rfl
  | _ => rfl
@[simp] theorem i_range {lo hi : EE} : iRange lo hi ρ h = match lo ρ h with
  | .ok a h1 => (match hi ρ h1 with
    | .ok b h2 => (match a, b with
      | .int i, .int j => if -(2 ^ 62) ≤ i ∧ i < 2 ^ 62 ∧ -(2 ^ 62) ≤ j ∧ j < 2 ^ 62 then .ok (fun _ => some (rangeL i j)) h2 else .bad
      | _, _ => .bad)
    | .exc x h2 => .exc x h2
    | .bad => .bad)
  | .exc x h1 => .exc x h1
  | .bad => .bad := by
  unfold iRange bnd
  cases lo ρ h with
  | ok a h1 =>
    dsimp only
    cases hi ρ h1 with
    | ok b h2 => cases a <;> cases b <;> rfl
    | _ => rfl
  | _ => rfl
@[simp] theorem ev_run {ar n : Nat} {b : SS} {vs : List AV} (hl : vs.length = ar) : runF ar n b vs h = match b (vs.map some ++ List.replicate n none) h with
    | .nx _ h' => .ok .non h'
    | .ret v h' => .ok v h'
    | .exc e _ h' => .exc e h'
    | _ => .bad := by
  unfold runF
  rw [if_pos hl] <;> (cases b (vs.map some ++ List.replicate n none) h <;> rfl)
/-- a walk of written items -/
def runL (g : Tg) (body : SS) : List AV → SS
  | [] => sNil
  | x :: xs => fun ρ h => match g x ρ with
    | none => .bad
    | some ρ1 => match body ρ1 h with
      | .nx ρ' h' => runL g body xs ρ' h'
      | .ct ρ' h' => runL g body xs ρ' h'
      | .brk ρ' h' => .nx ρ' h'
      | r => r
@[simp] theorem runL_nil {g : Tg} {body : SS} : runL g body [] ρ h = .nx ρ h := rfl
@[simp] theorem runL_cons {g : Tg} {body : SS} {x : AV} {xs : List AV} : runL g body (x :: xs) ρ h = match g x ρ with
    | none => .bad
    | some ρ1 => match body ρ1 h with
      | .nx ρ' h' => runL g body xs ρ' h'
      | .ct ρ' h' => runL g body xs ρ' h'
      | .brk ρ' h' => .nx ρ' h'
      | .ret v h' => .ret v h'
      | .exc e ρ' h' => .exc e ρ' h'
      | .bad => .bad := by
  conv => lhs; unfold runL
  cases g x ρ with
  | none => rfl
  | some ρ1 =>
    dsimp only
    cases body ρ1 h <;> rfl
theorem iter_run {xs : List AV} {g : Tg} {body : SS} : ∀ (k i : Nat) (ρ : Env) (h : Heap), xs.length < k + i → i ≤ xs.length → sIter (fun _ => some xs) g body k i ρ h = runL g body (xs.drop i) ρ h := by
  intro k
  induction k with
  | zero =>
    intro i ρ h hl hi
    omega
  | succ k ih =>
    intro i ρ h hl hi
    unfold sIter
    dsimp only
    cases e : xs[i]? with
    | none =>
      rw [List.drop_eq_nil_of_le (List.getElem?_eq_none_iff.mp e)]
      rfl
    | some x =>
      obtain ⟨hlt, hx⟩ := List.getElem?_eq_some_iff.mp e
      rw [List.drop_eq_getElem_cons hlt, hx]
      conv => rhs; unfold runL
      dsimp only
      cases g x ρ with
      | none => rfl
      | some ρ1 =>
        dsimp only
        cases body ρ1 h with
        | nx ρ' h' => exact ih (i + 1) ρ' h' (by omega) (by omega)
        | ct ρ' h' => exact ih (i + 1) ρ' h' (by omega) (by omega)
        | _ => rfl
@[simp] theorem iter_const {xs : List AV} {g : Tg} {body : SS} (hl : xs.length ≤ 16777216) : sIter (fun _ => some xs) g body fuel 0 ρ h = runL g body xs ρ h := by
  rw [iter_run _ _ _ _ (by unfold fuel; omega) (Nat.zero_le _)]
  rfl
end
end PA
/-! TxtL: split and join of texts, as lists. -/
namespace PA
open PySem (Str)
open PySem.Builtin.Str
def jn (c : Nat) : List (List Nat) → List Nat
  | [] => []
  | [x] => x
  | x :: y :: r => x ++ c :: jn c (y :: r)
def spl (c : Nat) : List Nat → List (List Nat)
  | [] => [[]]
  | a :: l => if a = c then [] :: spl c l else match spl c l with
    | p :: ps => (a :: p) :: ps
    | [] => [[a]]
theorem spl_ne (c : Nat) : ∀ l, spl c l ≠ []
  | [] => fun z => nomatch z
  | a :: l => by
    unfold spl
    by_cases h : a = c
    · rw [if_pos h]; exact fun z => nomatch z
    · rw [if_neg h]
      cases e : spl c l with
      | nil => exact fun z => nomatch z
      | cons p ps => exact fun z => nomatch z
theorem spl_free (c : Nat) : ∀ l, ∀ p ∈ spl c l, c ∉ p
  | [], p, hp => by
    have : p = [] := List.mem_singleton.mp hp
    subst this
    exact List.not_mem_nil
  | a :: l, p, hp => by
    unfold spl at hp
    by_cases h : a = c
    · rw [if_pos h] at hp
      rcases List.mem_cons.mp hp with rfl | hp
      · exact List.not_mem_nil
      · exact spl_free c l p hp
    · rw [if_neg h] at hp
      have ih := spl_free c l
      cases e : spl c l with
      | nil => exact absurd e (spl_ne c l)
      | cons q qs =>
        rw [e] at hp ih
        dsimp only at hp
        rcases List.mem_cons.mp hp with rfl | hp
        · intro hc
          rcases List.mem_cons.mp hc with hc | hc
          · exact h hc.symm
          · exact ih q (List.mem_cons_self) hc
        · exact ih p (List.mem_cons_of_mem _ hp)
theorem jn_two {c : Nat} {x y : List Nat} {r : List (List Nat)} : jn c (x :: y :: r) = x ++ c :: jn c (y :: r) := rfl
theorem jn_cons {c : Nat} {x : List Nat} {r : List (List Nat)} (h : r ≠ []) : jn c (x :: r) = x ++ c :: jn c r := by
  cases r with
  | nil => exact absurd rfl h
  | cons y r => rfl
theorem jn_spl (c : Nat) : ∀ l, jn c (spl c l) = l
  | [] => rfl
  | a :: l => by
    have ih := jn_spl c l
    unfold spl
    by_cases h : a = c
    · rw [if_pos h, jn_cons (spl_ne c l), ih, h]; rfl
    · rw [if_neg h]
      cases e : spl c l with
      | nil => exact absurd e (spl_ne c l)
      | cons q qs =>
        rw [e] at ih
        dsimp only
        cases qs with
        | nil => rw [← ih]; rfl
        | cons y r =>
          rw [jn_two] at ih ⊢
          rw [List.cons_append, ih]
theorem cut_eq {c : Nat} : ∀ {x y a b : List Nat}, c ∉ x → c ∉ y → x ++ c :: a = y ++ c :: b → x = y ∧ a = b
  | [], [], a, b, _, _, h => ⟨rfl, (List.cons.inj h).2⟩
  | [], y :: ys, a, b, _, hy, h => absurd (List.mem_cons.mpr (.inl (List.cons.inj h).1)) hy
  | x :: xs, [], a, b, hx, _, h => absurd (List.mem_cons.mpr (.inl (List.cons.inj h).1.symm)) hx
  | x :: xs, y :: ys, a, b, hx, hy, h => by
    have h1 := List.cons.inj h
    have ih := cut_eq (fun z => hx (List.mem_cons_of_mem _ z)) (fun z => hy (List.mem_cons_of_mem _ z)) h1.2
    exact ⟨by rw [h1.1, ih.1], ih.2⟩
theorem jn_inj {c : Nat} : ∀ {xs ys : List (List Nat)}, xs ≠ [] → ys ≠ [] → (∀ p ∈ xs, c ∉ p) → (∀ p ∈ ys, c ∉ p) → jn c xs = jn c ys → xs = ys
  | [], _, h, _, _, _, _ => absurd rfl h
  | _ :: _, [], _, h, _, _, _ => absurd rfl h
  | [x], [y], _, _, _, _, h => by rw [show x = y from h]
  | [x], y :: z :: r, _, _, hx, _, h => by
    rw [jn_two] at h
    exact absurd (show c ∈ x by rw [show x = y ++ c :: jn c (z :: r) from h]; simp) (hx x List.mem_cons_self)
  | x :: z :: r, [y], _, _, _, hy, h => by
    rw [jn_two] at h
    exact absurd (show c ∈ y by rw [← show x ++ c :: jn c (z :: r) = y from h]; simp) (hy y List.mem_cons_self)
  | x :: z :: r, y :: w :: s, _, _, hx, hy, h => by
    rw [jn_two, jn_two] at h
    have k := cut_eq (hx x List.mem_cons_self) (hy y List.mem_cons_self) h
    have e := jn_inj (xs := z :: r) (ys := w :: s) (List.cons_ne_nil _ _) (List.cons_ne_nil _ _) (fun p hp => hx p (List.mem_cons_of_mem _ hp)) (fun p hp => hy p (List.mem_cons_of_mem _ hp)) k.2
    rw [k.1, e]
theorem spl_jn {c : Nat} {xs : List (List Nat)} (h : xs ≠ []) (hf : ∀ p ∈ xs, c ∉ p) : spl c (jn c xs) = xs :=
  jn_inj (spl_ne c _) h (spl_free c _) hf (jn_spl c _)
abbrev cl (x : Str) : List Nat := x.cps.toList
def mkS (l : List Nat) : Str := ⟨l.toArray⟩
theorem cl_mkS (l : List Nat) : cl (mkS l) = l := rfl
theorem mkS_cl (x : Str) : mkS (cl x) = x := rfl
theorem cl_inj {x y : Str} (h : cl x = cl y) : x = y := by rw [← mkS_cl x, ← mkS_cl y, h]
theorem cl_append (x y : Str) : cl (x ++ y) = cl x ++ cl y := by
  show (x.cps ++ y.cps).toList = _
  rw [Array.toList_append]
theorem cl_join (c : Nat) : ∀ xs : List Str, cl (PySem.Txt.join ⟨#[c]⟩ xs) = jn c (xs.map cl) := by
  intro xs
  show cl (glued ⟨#[c]⟩ xs) = _
  rw [PySem.StrLaws.glued_eq_join]
  induction xs with
  | nil => rfl
  | cons x r ih =>
    cases r with
    | nil => rfl
    | cons y r =>
      show cl (x ++ ⟨#[c]⟩ ++ Str.join ⟨#[c]⟩ (y :: r)) = _
      rw [cl_append, cl_append, ih, List.append_assoc]
      rfl
theorem join_split (c : Nat) (x : Str) : PySem.Txt.join ⟨#[c]⟩ (PySem.Txt.split x ⟨#[c]⟩) = x := by
  unfold PySem.Txt.split
  split
  · rfl
  · split
    · rfl
    · exact PySem.StrLaws.glued_between_self x ⟨#[c]⟩ _
theorem split_ne (c : Nat) (x : Str) : PySem.Txt.split x ⟨#[c]⟩ ≠ [] := by
  unfold PySem.Txt.split
  split
  · exact fun z => nomatch z
  · split
    · exact fun z => nomatch z
    · intro z
      have := PySem.length_partsBetween x (occurrences x ⟨#[c]⟩ 0 x.length (x.length + 1)) (⟨#[c]⟩ : Str).length
      rw [z] at this
      cases this
/-- split, by signs -/
theorem split_spl (c : Nat) (x : Str) : (PySem.Txt.split x ⟨#[c]⟩).map cl = spl c (cl x) := by
  have h1 := cl_join c (PySem.Txt.split x ⟨#[c]⟩)
  rw [join_split] at h1
  rw [h1, spl_jn]
  · intro z
    exact split_ne c x (List.map_eq_nil_iff.mp z)
  · intro p hp
    obtain ⟨q, hq, rfl⟩ := List.mem_map.mp hp
    exact PySem.StrLaws.split_free x c q hq
theorem split_join {c : Nat} {xs : List Str} (h : xs ≠ []) (hf : ∀ p ∈ xs, c ∉ cl p) : PySem.Txt.split (PySem.Txt.join ⟨#[c]⟩ xs) ⟨#[c]⟩ = xs := by
  have h1 := split_spl c (PySem.Txt.join ⟨#[c]⟩ xs)
  rw [cl_join, spl_jn (fun z => h (List.map_eq_nil_iff.mp z)) (fun p hp => by obtain ⟨q, hq, rfl⟩ := List.mem_map.mp hp; exact hf q hq)] at h1
  have h2 := congrArg (List.map mkS) h1
  rw [List.map_map, List.map_map] at h2
  have e : mkS ∘ cl = id := funext fun x => mkS_cl x
  rw [e, List.map_id, List.map_id] at h2
  exact h2
/-- the words of a text -/
def wds (c : Nat) (l : List Nat) : List (List Nat) := (spl c l).filter fun p => !p.isEmpty
theorem wds_nil (c : Nat) : wds c [] = [] := rfl
theorem wds_sep (c : Nat) (l : List Nat) : wds c (c :: l) = wds c l := by
  unfold wds
  rw [show spl c (c :: l) = [] :: spl c l from if_pos rfl]
  rfl
theorem wds_seps (c : Nat) (k : Nat) (l : List Nat) : wds c (List.replicate k c ++ l) = wds c l := by
  induction k with
  | zero => rfl
  | succ k ih => rw [List.replicate_succ, List.cons_append, wds_sep, ih]
theorem spl_word {c : Nat} : ∀ {w : List Nat}, c ∉ w → ∀ l, spl c (w ++ c :: l) = w :: spl c l
  | [], _, l => if_pos rfl
  | a :: w, h, l => by
    have ih := spl_word (fun z => h (List.mem_cons_of_mem _ z)) l
    rw [List.cons_append, spl.eq_2, if_neg (fun z => h (by rw [z]; exact List.mem_cons_self)), ih]
theorem wds_word {c : Nat} {w : List Nat} (h : c ∉ w) (hn : w ≠ []) (l : List Nat) : wds c (w ++ c :: l) = w :: wds c l := by
  unfold wds
  rw [spl_word h, List.filter_cons_of_pos]
  cases w with
  | nil => exact absurd rfl hn
  | cons a w => rfl
/-- the words of a text that is split: those that are not empty -/
theorem split_words (c : Nat) (x : Str) : ((PySem.Txt.split x ⟨#[c]⟩).filter fun p => !(cl p).isEmpty).map cl = wds c (cl x) := by
  unfold wds
  rw [← split_spl]
  induction PySem.Txt.split x ⟨#[c]⟩ with
  | nil => rfl
  | cons p ps ih =>
    rw [List.map_cons]
    cases h : (cl p).isEmpty with
    | true => rw [List.filter_cons_of_neg (by simp [h]), List.filter_cons_of_neg (by simp [h]), ih]
    | false => rw [List.filter_cons_of_pos (by simp [h]), List.filter_cons_of_pos (by simp [h]), List.map_cons, ih]
theorem cl_mul (c : Nat) (k : Nat) : cl (PySem.Txt.mul ⟨#[c]⟩ (k : Int)) = List.replicate k c := by
  unfold PySem.Txt.mul
  by_cases h : (k : Int) < 1
  · rw [if_pos h]
    have : k = 0 := by omega
    subst this
    rfl
  · rw [if_neg h]
    split
    · rename_i h2
      have : k = 1 := by
        rw [Bool.or_eq_true] at h2
        rcases h2 with h2 | h2
        · have := eq_of_beq h2; omega
        · cases h2
      subst this
      rfl
    · show (List.foldl (fun a b => a ++ b) #[] (List.replicate k #[c])).toList = _
      have key : ∀ (n : Nat) (acc : Array Nat), (List.foldl (fun a b => a ++ b) acc (List.replicate n #[c])).toList = acc.toList ++ List.replicate n c := by
        intro n
        induction n with
        | zero => intro acc; simp
        | succ n ih => intro acc; rw [List.replicate_succ, List.foldl_cons, ih, List.replicate_succ]; simp
      rw [key]
      rfl
end PA
/-! EvX: slices, d.get, raise, try, for simp. -/
namespace PA
open PySem (Str PyData)
section
variable {α β : Type} {ρ : Env} {h : Heap}
@[simp] theorem bO_none : bndO none ρ h = .ok none h := rfl
@[simp] theorem bO_some {e : EE} : bndO (some e) ρ h = match e ρ h with
  | .ok (.int i) h1 => .ok (some i) h1
  | .exc x h1 => .exc x h1
  | _ => .bad := by
  show bnd (e ρ) (fun v h => match v with
    | .int i => .ok (some i) h
    | _ => .bad) h = _
  unfold bnd
  cases e ρ h with
  | ok v h1 => cases v <;> rfl
  | _ => rfl
@[simp] theorem ev_slice {e : EE} {lo hi : Option EE} : eSliceL e lo hi ρ h = match e ρ h with
  | .ok x h1 => (match bndO lo ρ h1 with
    | .ok l h2 => (match bndO hi ρ h2 with
      | .ok u h3 => (match x with
        | .loc a => (match h3[a]? with
          | some (.lst xs) => .ok (.loc h3.length) (h3 ++ [.lst (cutA xs l u)])
          | _ => .bad)
        | _ => .bad)
      | .exc x h3 => .exc x h3
      | .bad => .bad)
    | .exc x h2 => .exc x h2
    | .bad => .bad)
  | .exc x h1 => .exc x h1
  | .bad => .bad := by
  unfold eSliceL bnd
  cases e ρ h with
  | ok x h1 =>
    dsimp only
    cases bndO lo ρ h1 with
    | ok l h2 =>
      dsimp only
      cases bndO hi ρ h2 with
      | ok u h3 => cases x <;> rfl
      | _ => rfl
    | _ => rfl
  | _ => rfl
@[simp] theorem ev_get2 {o i x : EE} : eGet2 o i x ρ h = match o ρ h with
  | .ok d h1 => if isDct h1 d = true then (match i ρ h1 with
    | .ok k h2 => (match x ρ h2 with
      | .ok v h3 => (match dctOf h3 d with
        | some kvs => if isKey k = true then (match dGet kvs k with
          | some w => .ok w h3
          | none => .ok v h3) else .bad
        | none => .bad)
      | .exc x h3 => .exc x h3
      | .bad => .bad)
    | .exc x h2 => .exc x h2
    | .bad => .bad) else .bad
  | .exc x h1 => .exc x h1
  | .bad => .bad := by
  unfold eGet2 bnd
  cases o ρ h with
  | ok d h1 =>
    dsimp only
    by_cases z : isDct h1 d = true
    · rw [if_pos z, if_pos z]
      cases i ρ h1 with
      | ok k h2 =>
        dsimp only
        cases x ρ h2 <;> rfl
      | _ => rfl
    · rw [if_neg z, if_neg z]
  | _ => rfl
@[simp] theorem ev_lDctI0 : lDctI [] ρ h = .ok [] h := rfl
@[simp] theorem ev_lDctI {k : Int} {e : EE} {r : List (Int × EE)} : lDctI ((k, e) :: r) ρ h = match e ρ h with
  | .ok v h1 => (match lDctI r ρ h1 with
    | .ok vs h2 => .ok ((k, v) :: vs) h2
    | .exc x h2 => .exc x h2
    | .bad => .bad)
  | .exc x h1 => .exc x h1
  | .bad => .bad := by
  conv => lhs; unfold lDctI
  unfold bnd
  cases e ρ h with
  | ok v h1 =>
    dsimp only
    cases lDctI r ρ h1 <;> rfl
  | _ => rfl
@[simp] theorem ev_dispI {kes : List (Int × EE)} : eDispI kes ρ h = match lDctI kes ρ h with
  | .ok ps h1 => .ok (.loc h1.length) (h1 ++ [.dct (ps.foldl (fun acc p => dPut acc (.int p.1) p.2) [])])
  | .exc x h1 => .exc x h1
  | .bad => .bad := by
  unfold eDispI bnd
  cases lDctI kes ρ h <;> rfl
@[simp] theorem sv_raise0 {c : String} : sRaise0 c ρ h = .exc ⟨c, []⟩ ρ h := rfl
@[simp] theorem sv_raiseN {c : String} {names : List Str} {l : LL} : sRaiseN c names l ρ h = match l ρ h with
  | .ok vs h1 => if vs.length = names.length then .exc ⟨c, (names.zip vs).reverse⟩ ρ h1 else .bad
  | .exc x h1 => .exc x ρ h1
  | .bad => .bad := by
  unfold sRaiseN sBnd
  cases l ρ h <;> rfl
@[simp] theorem sv_try {m : SS} {ks : List ClA} : sTryA m ks ρ h = match m ρ h with
  | .exc e ρ' h' => catchA ks e ρ' h'
  | .nx ρ' h' => .nx ρ' h'
  | .ret v h' => .ret v h'
  | .brk ρ' h' => .brk ρ' h'
  | .ct ρ' h' => .ct ρ' h'
  | .bad => .bad := by
  unfold sTryA
  cases m ρ h <;> rfl
@[simp high] theorem get_len2 {g : Heap} {i j : Nat} : (h ++ g)[h.length + i + j]? = g[i + j]? := by rw [Nat.add_assoc, get_len1]
@[simp high] theorem set_app2 {g : Heap} {i j : Nat} {o : AO} : (h ++ g).set (h.length + i + j) o = h ++ g.set (i + j) o := by rw [Nat.add_assoc, set_app1]
@[simp] theorem clF_nil {n : String} : clF [] n = none := rfl
@[simp] theorem clF_cons {a n : String} {b : Bool} {r : List (String × Bool)} : clF ((a, b) :: r) n = if n = a then some b else clF r n := by
  unfold clF
  rw [List.lookup_cons]
  by_cases z : n = a
  · subst z; simp
  · have : (n == a) = false := by simpa using z
    rw [this, if_neg z]
theorem cut_take {xs : List AV} {k : Int} (h0 : 0 ≤ k) (h1 : k ≤ xs.length) : cutA xs none (some k) = xs.take k.toNat := by
  unfold cutA sixA
  dsimp only
  rw [if_neg (by omega)]
  simp <;> omega
theorem cut_drop {xs : List AV} {k : Int} (h0 : 0 ≤ k) : cutA xs (some k) none = xs.drop k.toNat := by
  unfold cutA sixA
  dsimp only
  rw [if_neg (by omega)]
  by_cases z : k.toNat ≤ xs.length
  · rw [Nat.min_eq_left z, List.take_of_length_le (by simp)]
  · rw [Nat.min_eq_right (by omega), List.drop_of_length_le (Nat.le_refl _), List.drop_of_length_le (by omega)]
    simp
theorem cut_one {xs : List AV} {k : Int} (h0 : 0 ≤ k) (h1 : k < xs.length) : cutA xs (some k) (some (k + 1)) = (xs.drop k.toNat).take 1 := by
  unfold cutA sixA
  dsimp only
  rw [if_neg (by omega), if_neg (by omega)]
  have e1 : min k.toNat xs.length = k.toNat := by omega
  have e2 : min (k + 1).toNat xs.length = k.toNat + 1 := by omega
  rw [e1, e2, Nat.add_sub_cancel_left]
end
end PA
/-! EvY: -x, xs * n, pop, clear, .. for simp. -/
namespace PA
open PySem (Str PyData)
section
variable {ρ : Env} {h : Heap}
@[simp] theorem ev_neg {e : EE} : eNeg e ρ h = match e ρ h with
  | .ok (.int i) h1 => .ok (.int (-i)) h1
  | .exc x h1 => .exc x h1
  | _ => .bad := by
  unfold eNeg bnd
  cases e ρ h with
  | ok v h1 => cases v <;> rfl
  | _ => rfl
@[simp] theorem o_mulL {x y : AV} : oMulL x y h = match x, y with
  | .loc l, .int k => (match h[l]? with
    | some (.lst xs) => if 0 ≤ k ∧ k ≤ 1000 ∧ xs.length ≤ 1000 then .ok (.loc h.length) (h ++ [.lst (List.replicate k.toNat xs).flatten]) else .bad
    | _ => .bad)
  | _, _ => .bad := by
  unfold oMulL
  cases x <;> cases y <;> rfl
@[simp] theorem ev_pop2 {o i x : EE} : eDPop2 o i x ρ h = match o ρ h with
  | .ok d h1 => if isDct h1 d = true then (match i ρ h1 with
    | .ok k h2 => (match x ρ h2 with
      | .ok v h3 => (match dctU h3 d with
        | some kvs => if isKey k = true then (match dGet kvs k, d with
          | some w, .loc l => .ok w (h3.set l (.dct (dDrop kvs k)))
          | none, _ => .ok v h3
          | _, _ => .bad) else .bad
        | none => .bad)
      | .exc x h3 => .exc x h3
      | .bad => .bad)
    | .exc x h2 => .exc x h2
    | .bad => .bad) else .bad
  | .exc x h1 => .exc x h1
  | .bad => .bad := by
  unfold eDPop2 bnd
  cases o ρ h with
  | ok d h1 =>
    dsimp only
    by_cases z : isDct h1 d = true
    · rw [if_pos z, if_pos z]
      cases i ρ h1 with
      | ok k h2 => dsimp only; cases x ρ h2 <;> rfl
      | _ => rfl
    · rw [if_neg z, if_neg z]
  | _ => rfl
@[simp] theorem ev_clear {o : EE} : eDClear o ρ h = match o ρ h with
  | .ok (.loc l) h1 => (match h1[l]? with
    | some (.dct _) => .ok .non (h1.set l (.dct []))
    | _ => .bad)
  | .exc x h1 => .exc x h1
  | _ => .bad := by
  unfold eDClear bnd
  cases o ρ h with
  | ok v h1 => cases v <;> rfl
  | _ => rfl
@[simp] theorem ev_revIt {o : EE} : eRevIt o ρ h = match o ρ h with
  | .ok d h1 => (match dctU h1 d with
    | some kvs => .ok (.loc h1.length) (h1 ++ [.dct (kvs.reverse.foldl (fun acc p => dPut acc p.1 p.2) [])])
    | none => .bad)
  | .exc x h1 => .exc x h1
  | .bad => .bad := by
  unfold eRevIt bnd
  cases o ρ h <;> rfl
@[simp] theorem b_listD {d : AV} : bListD [d] h = match dctOf h d with
  | some kvs => .ok (.loc h.length) (h ++ [.lst (keysOf kvs)])
  | none => .bad := rfl
@[simp] theorem b_sorted {l : Nat} : bSorted [.loc l] h = match h[l]? with
  | some (.lst xs) => (match strsOf xs with
    | some ys => if ys.Nodup ∧ ys.length < 64 then .ok (.loc h.length) (h ++ [.lst ((sortD ys).map .str)]) else .bad
    | none => .bad)
  | _ => .bad := rfl
@[simp] theorem o_eqDs {x y : AV} : oEqDs x y h = match dctU h x, dctU h y with
  | some xs, some ys => (match hitsA ys xs with
    | some b => .ok (.bl (xs.length == ys.length && b)) h
    | none => .bad)
  | _, _ => .bad := rfl
@[simp] theorem o_ownEqL {c : String} {F : FF} {x y : AV} : oOwnEqL c F x y h = if (isIns c h x && isLst h y) = true then noExc (F [x, y] h) else .bad := rfl
@[simp] theorem o_neV {l k : Nat} : oNeV (.loc l) (.loc k) h = match h[l]?, h[k]? with
  | some (.lst xs), some (.lst ys) => if sameL (sameV h) xs ys = true then .ok (.bl false) h else .bad
  | _, _ => .bad := rfl
@[simp] theorem x_if {t m1 m2 : Exc → EE} {E : Exc} : xIf t m1 m2 E ρ h = match t E ρ h with
  | .ok (.bl true) h1 => m1 E ρ h1
  | .ok (.bl false) h1 => m2 E ρ h1
  | .exc x h1 => .exc x h1
  | _ => .bad := by
  unfold xIf bnd
  cases t E ρ h with
  | ok v h1 =>
    cases v with
    | bl b => cases b <;> rfl
    | _ => rfl
  | _ => rfl
@[simp] theorem x_isE {f : String → Option Bool} {E : Exc} : xIsE f E ρ h = match f E.cls with
  | some b => .ok (.bl b) h
  | none => .bad := rfl
@[simp] theorem o_mulTI {xs : List AV} {j : Int} : oMul (.tup xs) (.int j) h = if 2 ≤ j ∧ j ≤ 1000 ∧ xs.length ≤ 1000 ∧ xs.length ≠ 0 then .ok (.tup (List.replicate j.toNat xs).flatten) h else .bad := rfl
/-- a comprehension over a written list -/
def lcL (g : Tg) (t : BB) (e : EE) (ρ : Env) : List AV → List AV → Heap → Res (List AV)
  | [], acc => fun h => .ok acc h
  | x :: r, acc => fun h => match g x ρ with
    | none => .bad
    | some ρ1 => match t ρ1 h with
      | .ok true h1 => match e ρ1 h1 with
        | .ok y h2 => if acc.length < szl then lcL g t e ρ r (acc ++ [y]) h2 else .bad
        | _ => .bad
      | .ok false h1 => lcL g t e ρ r acc h1
      | _ => .bad
@[simp] theorem lcL_nil {g : Tg} {t : BB} {e : EE} {acc : List AV} : lcL g t e ρ [] acc h = .ok acc h := rfl
@[simp] theorem lcL_cons {g : Tg} {t : BB} {e : EE} {acc r : List AV} {x : AV} : lcL g t e ρ (x :: r) acc h = match g x ρ with
    | none => .bad
    | some ρ1 => (match t ρ1 h with
      | .ok true h1 => (match e ρ1 h1 with
        | .ok y h2 => if acc.length < 16777216 then lcL g t e ρ r (acc ++ [y]) h2 else .bad
        | _ => .bad)
      | .ok false h1 => lcL g t e ρ r acc h1
      | _ => .bad) := rfl
theorem lc_run {xs : List AV} {g : Tg} {t : BB} {e : EE} : ∀ (k i : Nat) (acc : List AV) (h : Heap), xs.length < k + i → i ≤ xs.length → lcIter (fun _ => some xs) g t e ρ k i acc h = lcL g t e ρ (xs.drop i) acc h := by
  intro k
  induction k with
  | zero => intro i acc h a b; omega
  | succ k ih =>
    intro i acc h a b
    unfold lcIter
    dsimp only
    cases z : xs[i]? with
    | none =>
      rw [List.drop_eq_nil_of_le (List.getElem?_eq_none_iff.mp z)]
      rfl
    | some x =>
      obtain ⟨hlt, hx⟩ := List.getElem?_eq_some_iff.mp z
      rw [List.drop_eq_getElem_cons hlt, hx]
      conv => rhs; unfold lcL
      dsimp only
      cases g x ρ with
      | none => rfl
      | some ρ1 =>
        dsimp only
        cases t ρ1 h with
        | ok b h1 =>
          cases b with
          | true =>
            dsimp only
            cases e ρ1 h1 with
            | ok y h2 =>
              dsimp only
              by_cases q : acc.length < szl
              · rw [if_pos q, if_pos q]
                exact ih (i + 1) (acc ++ [y]) h2 (by omega) (by omega)
              · rw [if_neg q, if_neg q]
            | _ => rfl
          | false => exact ih (i + 1) acc h1 (by omega) (by omega)
        | _ => rfl
@[simp] theorem lc_const {xs : List AV} {g : Tg} {t : BB} {e : EE} (hl : xs.length ≤ 16777216) : lcIter (fun _ => some xs) g t e ρ fuel 0 [] h = lcL g t e ρ xs [] h := by
  rw [lc_run _ _ _ _ (by unfold fuel; omega) (Nat.zero_le _)]
  rfl
@[simp] theorem t_yes {ρ : Env} : tYes ρ h = .ok true h := rfl
end
end PA
set_option maxRecDepth 100000
namespace K06
open PA
open PySem (Str)
def Draw (h : PA.Heap) (l c : Nat) : Prop := ∃ (st ix : Int) (k : AV) (cs : List Int), h[l]? = some (.lst [.int st, .loc c, .int ix, k]) ∧ h[c]? = some (.lst (cs.map .int)) ∧ cs.length ≤ 63 ∧ l ≠ c
theorem map_set_int (cs : List Int) (n : Nat) (v : Int) : (cs.map AV.int).set n (.int v) = (cs.set n v).map AV.int := by rw [List.map_set]
theorem next_ok {h : PA.Heap} {l c : Nat} {b : Int} (D : Draw h l c) (hb : 0 < b) (hb2 : b < 1073741824) : ∃ r h', f__law_next [.loc l, .int b] h = .ok (.int r) h' ∧ 0 ≤ r ∧ r < b ∧ Draw h' l c ∧ Fr [l, c] h h' := by
  obtain ⟨st, ix, k, cs, e1, e2, e3, e4⟩ := D
  have e4' : c ≠ l := fun z => e4 z.symm
  have c1 : cs.length ≤ 16777215 := by omega
  have hm : 0 < (if 1 < (cs.length : Int) then (cs.length : Int) else 1) := by split <;> omega
  have hv : ∃ v, atI (List.map AV.int cs ++ [AV.int 0]) (ix % (if 1 < (cs.length : Int) then (cs.length : Int) else 1)) = some (.int v) ∧ (v = 0 ∨ (0 < cs.length ∧ ixN cs.length (ix % cs.length) = some (ix % cs.length).toNat)) := by
    by_cases z : cs.length = 0
    · have : cs = [] := List.length_eq_zero_iff.mp z
      subst this
      refine ⟨0, ?_, .inl rfl⟩
      have : (if (1:Int) < (([] : List Int).length : Int) then (([] : List Int).length : Int) else 1) = 1 := by simp
      rw [this, Int.emod_one]
      rfl
    · have em : (if 1 < (cs.length : Int) then (cs.length : Int) else 1) = cs.length := by split <;> omega
      have h0 := Int.emod_nonneg ix (b := cs.length) (by omega)
      have h1 := Int.emod_lt_of_pos ix (b := cs.length) (by omega)
      rw [em]
      obtain ⟨v, a, b⟩ := atI_in (xs := List.map AV.int cs ++ [AV.int 0]) h0 (by simp; omega)
      have mem := List.mem_of_getElem? b
      simp at mem
      rcases mem with ⟨j, _, rfl⟩ | rfl
      · exact ⟨j, a, .inr ⟨by omega, ixN_in h0 h1⟩⟩
      · exact ⟨0, a, .inl rfl⟩
  obtain ⟨v, hv, hv2⟩ := hv
  unfold f__law_next b__law_next
  simp [e1, e2, c1, hm, hv]
  by_cases z : 1000000000000000000 ≤ v
  · obtain ⟨c2, hi⟩ := hv2.resolve_left (by omega)
    simp [z, e1, e2, hb, hb2, c2, hi]
    refine ⟨_, _, ⟨rfl, rfl⟩, Int.emod_nonneg _ (by omega), Int.emod_lt_of_pos _ hb, ⟨st, ix, k, cs.set (ix % cs.length).toNat (v / b), ?_, ?_, by simpa using e3, e4⟩, ?_⟩
    · rw [List.getElem?_set_ne e4']; simp [e1]
    · simp [e2]
    · exact ((Fr.push _).trans (Fr.set.mono (by simp)))
  · simp [z, e1, e2, hb]
    refine ⟨_, _, ⟨rfl, rfl⟩, Int.emod_nonneg _ (by omega), Int.emod_lt_of_pos _ hb, ⟨(st * 48271 + v * 69621 + 11) % 2147483647, ix + 1, k, cs, ?_, ?_, e3, e4⟩, ?_⟩
    · simp [e1]
    · rw [List.getElem?_set_ne e4]; simp [e2]
    · exact ((Fr.push _).trans (Fr.set.mono (by simp)))
theorem mix_ok {ns : List Int} {sd : Int} {h : PA.Heap} (hn : ns.length ≤ 63) : ∃ h', f__law_mix ns [.gl "#s", .int sd] h = .ok (.loc (h.length + 1)) h' ∧ Draw h' (h.length + 1) h.length ∧ Fr [] h h' := by
  obtain ⟨ρ', h', e, st, x, e2, e3⟩ := iter_ok (items := fun _ => some (ns.map .int)) (xs := ns.map .int) (g := PA.gName 3) (body := l__law_mix_1 ns) (fun _ ρ h' => ∃ (st : Int) (x : Option AV), ρ = [some (.gl "#s"), some (.int sd), some (.int st), x] ∧ h = h') (fun _ _ _ _ _ => rfl)
    (fun i x ρ h1 hx hI => by
      obtain ⟨st, y, rfl, rfl⟩ := hI
      rw [List.getElem?_map] at hx
      obtain ⟨n, _, rfl⟩ := Option.map_eq_some_iff.mp hx
      refine ⟨_, rfl, _, _, .inl (by simp [l__law_mix_1]; exact ⟨rfl, rfl⟩), ?_⟩
      exact ⟨_, _, rfl, rfl⟩)
    fuel 0 [some (.gl "#s"), some (.int sd), some (.int sd), none] h (by unfold fuel; simp; omega) (Nat.zero_le _) ⟨sd, none, rfl, rfl⟩
  subst e2 e3
  refine ⟨h ++ [.lst (ns.map .int), .lst [.int st, .loc h.length, .int 0, .int 14]], ?_, ⟨st, 0, .int 14, ns, by simp, by simp, hn, by omega⟩, Fr.push _⟩
  unfold f__law_mix b__law_mix
  simp [iScr, e]
theorem points_ok {h : PA.Heap} : f__law_points [] h = .ok (.loc (h.length + 3)) (h ++ [.lst [.str "keeps", .str "wins"], .lst [.str "follows", .str "own"], .lst [.str "empty", .str "values"],
    .dct [(.str "above", .loc h.length), (.str "back", .loc (h.length + 1)), (.str "cut", .loc (h.length + 2)), (.str "spread", .loc (h.length + 4)), (.str "tie", .loc (h.length + 5))],
    .lst [.str "now", .str "one", .str "read"], .lst [.str "all", .str "keeps", .str "same"], .dct [(.str "spread", .loc (h.length + 4)), (.str "tie", .loc (h.length + 5))]]) := by
  unfold f__law_points b__law_points
  simp [dPut, keyEq]
theorem Draw.keep {S : List Nat} {h h' : PA.Heap} {l c : Nat} (D : Draw h l c) (f : Fr S h h') (hl : l ∉ S) (hc : c ∉ S) : Draw h' l c := by
  obtain ⟨st, ix, k, cs, e1, e2, e3, e4⟩ := D
  exact ⟨st, ix, k, cs, f.at_ _ _ hl e1, f.at_ _ _ hc e2, e3, e4⟩
theorem Draw.lt {h : PA.Heap} {l c : Nat} (D : Draw h l c) : l < h.length ∧ c < h.length := by
  obtain ⟨st, ix, k, cs, e1, e2, e3, e4⟩ := D
  exact ⟨lt_of_at e1, lt_of_at e2⟩
theorem rule_step {h : PA.Heap} {l c g d lk : Nat} {k : Str} {os : List Str} {kvs gd : List (AV × AV)} (D : Draw h l c) (eg : h[g]? = some (.lck gd)) (ek : dGet gd (.str k) = some (.loc lk)) (el : h[lk]? = some (.lst (os.map .str)))
    (ho : 0 < os.length ∧ os.length < 4) (ed : h[d]? = some (.dct kvs)) (hl : kvs.length < 100000) (n1 : d ≠ l) (n2 : d ≠ c) (n3 : g ≠ l) (n4 : g ≠ c) (n5 : lk ≠ l) (n6 : lk ≠ c) :
    ∃ s h', s ∈ os ∧ l__law_rule_1 [some (.loc l), some (.loc g), some (.loc d), some (.str k)] h = .nx [some (.loc l), some (.loc g), some (.loc d), some (.str k)] h' ∧ h'[d]? = some (.dct (dPut kvs (.str k) (.str s))) ∧ Draw h' l c ∧ Fr [l, c, d] h h' := by
  obtain ⟨r, h1, e1, r0, r1, D1, f1⟩ := next_ok (b := os.length) D (by omega) (by omega)
  have ed1 := f1.at_ d _ (by simp [n1, n2]) ed
  have hr : ∃ s ∈ os, atI (os.map .str) r = some (.str s) := by
    obtain ⟨v, a, b⟩ := atI_in (xs := os.map AV.str) r0 (by simpa using r1)
    have := List.mem_of_getElem? b
    obtain ⟨s, hs, rfl⟩ := List.mem_map.mp this
    exact ⟨s, hs, a⟩
  obtain ⟨s, hs, hr⟩ := hr
  have f2 : Fr [d] h1 (h1.set d (.dct (dPut kvs (.str k) (.str s)))) := Fr.set
  refine ⟨s, h1.set d (.dct (dPut kvs (.str k) (.str s))), hs, ?_, at_set ed1, D1.keep f2 (by simp [n1.symm]) (by simp [n2.symm]), (f1.mono (by simp +contextual)).trans (f2.mono (by simp))⟩
  have el1 := f1.at_ lk _ (by simp [n5, n6]) el
  simp [l__law_rule_1, eg, ek, el, e1, el1, hr, ed1, hl]
structure RV where
  a : Str
  b : Str
  c : Str
  s : Str
  t : Str
def RV.kvs (r : RV) : List (AV × AV) := [(.str "above", .str r.a), (.str "back", .str r.b), (.str "cut", .str r.c), (.str "spread", .str r.s), (.str "tie", .str r.t)]
structure RV.Ok (r : RV) : Prop where
  a : r.a ∈ (["keeps", "wins"] : List Str)
  b : r.b ∈ (["follows", "own"] : List Str)
  c : r.c ∈ (["empty", "values"] : List Str)
  s : r.s ∈ (["now", "one", "read"] : List Str)
  t : r.t ∈ (["all", "keeps", "same"] : List Str)
theorem rule_ok {h : PA.Heap} {l c : Nat} (D : Draw h l c) : ∃ d h' r, f__law_rule [.loc l] h = .ok (.loc d) h' ∧ h'[d]? = some (.dct r.kvs) ∧ RV.Ok r ∧ h.length ≤ d ∧ Draw h' l c ∧ Fr [l, c] h h' := by
  obtain ⟨hl, hc⟩ := D.lt
  let gd : List (AV × AV) := [(.str "above", .loc h.length), (.str "back", .loc (h.length + 1)), (.str "cut", .loc (h.length + 2)), (.str "spread", .loc (h.length + 4)), (.str "tie", .loc (h.length + 5))]
  let h0 : PA.Heap := h ++ [.lst [.str "keeps", .str "wins"], .lst [.str "follows", .str "own"], .lst [.str "empty", .str "values"], .lck gd,
    .lst [.str "now", .str "one", .str "read"], .lst [.str "all", .str "keeps", .str "same"], .dct [(.str "spread", .loc (h.length + 4)), (.str "tie", .loc (h.length + 5))], .dct []]
  have f0 : Fr [] h h0 := Fr.push _
  have D0 : Draw h0 l c := D.keep f0 (by simp) (by simp)
  have g0 : h0[h.length + 3]? = some (.lck gd) := by simp [h0]
  have a0 : h0[h.length]? = some (.lst ((["keeps", "wins"] : List Str).map .str)) := by simp [h0]
  have b0 : h0[h.length + 1]? = some (.lst ((["follows", "own"] : List Str).map .str)) := by simp [h0]
  have c0 : h0[h.length + 2]? = some (.lst ((["empty", "values"] : List Str).map .str)) := by simp [h0]
  have s0 : h0[h.length + 4]? = some (.lst ((["now", "one", "read"] : List Str).map .str)) := by simp [h0]
  have t0 : h0[h.length + 5]? = some (.lst ((["all", "keeps", "same"] : List Str).map .str)) := by simp [h0]
  have d0 : h0[h.length + 7]? = some (.dct []) := by simp [h0]
  have nn : ∀ i, h.length + i ∉ [l, c, h.length + 7] ∨ i = 7 := fun i => by
    by_cases z : i = 7
    · exact .inr z
    · left; simp; omega
  have nl : ∀ i, h.length + i ≠ l := fun i => by omega
  have nc : ∀ i, h.length + i ≠ c := fun i => by omega
  obtain ⟨va, h1, ma, e1, d1, D1, f1⟩ := rule_step (k := "above") D0 g0 (by simp [gd, dGet, keyEq]) a0 (by simp) d0 (by simp) (nl 7) (nc 7) (nl 3) (nc 3) (nl 0) (nc 0)
  have g1 := f1.at_ _ _ ((nn 3).resolve_right (by omega)) g0
  obtain ⟨vb, h2, mb, e2, d2, D2, f2⟩ := rule_step (k := "back") D1 g1 (by simp [gd, dGet, keyEq]) (f1.at_ _ _ ((nn 1).resolve_right (by omega)) b0) (by simp) d1 (by simp [dPut]) (nl 7) (nc 7) (nl 3) (nc 3) (nl 1) (nc 1)
  have g2 := f2.at_ _ _ ((nn 3).resolve_right (by omega)) g1
  have f2' := f1.trans f2
  obtain ⟨vc, h3, mc, e3, d3, D3, f3⟩ := rule_step (k := "cut") D2 g2 (by simp [gd, dGet, keyEq]) (f2'.at_ _ _ ((nn 2).resolve_right (by omega)) c0) (by simp) d2 (by simp [dPut, keyEq]) (nl 7) (nc 7) (nl 3) (nc 3) (nl 2) (nc 2)
  have g3 := f3.at_ _ _ ((nn 3).resolve_right (by omega)) g2
  have f3' := f2'.trans f3
  obtain ⟨vs, h4, ms, e4, d4, D4, f4⟩ := rule_step (k := "spread") D3 g3 (by simp [gd, dGet, keyEq]) (f3'.at_ _ _ ((nn 4).resolve_right (by omega)) s0) (by simp) d3 (by simp [dPut, keyEq]) (nl 7) (nc 7) (nl 3) (nc 3) (nl 4) (nc 4)
  have g4 := f4.at_ _ _ ((nn 3).resolve_right (by omega)) g3
  have f4' := f3'.trans f4
  obtain ⟨vt, h5, mt, e5, d5, D5, f5⟩ := rule_step (k := "tie") D4 g4 (by simp [gd, dGet, keyEq]) (f4'.at_ _ _ ((nn 5).resolve_right (by omega)) t0) (by simp) d4 (by simp [dPut, keyEq]) (nl 7) (nc 7) (nl 3) (nc 3) (nl 5) (nc 5)
  have g5 := f5.at_ _ _ ((nn 3).resolve_right (by omega)) g4
  have f5' := f4'.trans f5
  have fs : Fr [h.length + 3] h5 (h5.set (h.length + 3) (.dct gd)) := Fr.set
  refine ⟨h.length + 7, h5.set (h.length + 3) (.dct gd), ⟨va, vb, vc, vs, vt⟩, ?_, fs.at_ _ _ (by simp) (by simpa [dPut, keyEq, RV.kvs] using d5), ⟨ma, mb, mc, ms, mt⟩, by omega, D5.keep fs (by simp; omega) (by simp; omega), ?_⟩
  · unfold f__law_rule b__law_rule
    dsimp only [h0, gd] at e1
    simp [points_ok, sLock, pickE, iKeysL, keysOf, e1, e2, e3, e4, e5, unlockS, gd]
  · refine ((f0.of0 (S := [l, c])).comp f5' ?_).comp fs ?_
    · intro p hp hlt; simp at hp ⊢; omega
    · intro p hp hlt; simp at hp; omega
def mav : Option Nat → AV
  | none => .non
  | some m => .int m
def MOK (ms : List (Option Nat)) : Prop := 1 ≤ ms.length ∧ ms.length ≤ 3 ∧ ∀ (i m : Nat), ms[i]? = some (some m) → m < i
theorem MOK.snoc {ms : List (Option Nat)} {o : Option Nat} (h : MOK ms) (hl : ms.length < 3) (ho : ∀ m, o = some m → m < ms.length) : MOK (ms ++ [o]) := by
  refine ⟨by simp, by simp; omega, fun i m e => ?_⟩
  by_cases z : i < ms.length
  · rw [List.getElem?_append_left z] at e; exact h.2.2 i m e
  · have e0 : i = ms.length := by
      have := (List.getElem?_eq_some_iff.mp e).1
      simp at this; omega
    subst e0
    rw [List.getElem?_append_right (Nat.le_refl _), Nat.sub_self] at e
    exact ho m (Option.some.inj e)
/-- a drawn book's parts -/
structure TAt (h : PA.Heap) (t d : Nat) (ms : List (Option Nat)) (nf nl : Int) (rv : RV) (ws : List Str) : Prop where
  t : h[t]? = some (.lst [.tup (ms.map mav), .int nf, .int nl, .loc d, .tup (ws.map .str)])
  d : h[d]? = some (.dct rv.kvs)
theorem book_ok {h : PA.Heap} {l c lw : Nat} {R F L : Int} {os : List Str} (D : Draw h l c) (hR : 1 ≤ R ∧ R ≤ 3) (hF : 1 ≤ F ∧ F ≤ 2) (hL : 1 ≤ L ∧ L ≤ 2) (ew : h[lw]? = some (.lst (os.map .str))) (n1 : lw ≠ l) (n2 : lw ≠ c) (ho : os.length ≤ 100) :
    ∃ t d h' ms nf nl rv ws, f__law_book [.loc l, .int R, .int F, .int L, .loc lw] h = .ok (.loc t) h' ∧ TAt h' t d ms nf nl rv ws ∧ RV.Ok rv ∧ MOK ms ∧ (ms.length : Int) ≤ R ∧ 1 ≤ nf ∧ nf ≤ F ∧ 2 ≤ nl ∧ nl ≤ 1 + L ∧ ws.Sublist os ∧ h.length ≤ t ∧ h.length ≤ d ∧ Draw h' l c ∧ Fr [l, c] h h' := by
  obtain ⟨hl, hc⟩ := D.lt
  have hw := lt_of_at ew
  have f0 : Fr [] h (h ++ [.lst [.non]]) := Fr.push _
  have D0 : Draw (h ++ [.lst [.non]]) l c := D.keep f0 (by simp) (by simp)
  obtain ⟨r, h1, e1, r0, r1, D1, f1⟩ := next_ok (b := R) D0 (by omega) (by omega)
  have m1 : h1[h.length]? = some (.lst [.non]) := f1.at_ _ _ (by simp; omega) (by simp)
  have f1' : Fr [l, c, h.length] (h ++ [.lst [.non]]) h1 := f1.mono (by simp +contextual)
  let env : Nat → Option AV → PA.Env := fun z x => [some (.loc l), some (.int R), some (.int F), some (.int L), some (.loc lw), some (.loc h.length), x, none, none]
  obtain ⟨ρ', h2, e2, x2, ms, rfl, m2, hms, hlen, D2, f2⟩ := iter_ok (items := fun _ => some (rangeL 1 (1 + r))) (xs := rangeL 1 (1 + r)) (g := PA.gName 6) (body := l__law_book_1)
    (fun i ρ h' => ∃ (x : Option AV) (ms : List (Option Nat)), ρ = env 0 x ∧ h'[h.length]? = some (.lst (ms.map mav)) ∧ MOK ms ∧ ms.length = i + 1 ∧ Draw h' l c ∧ Fr [l, c, h.length] (h ++ [.lst [.non]]) h')
    (fun _ _ _ _ _ => rfl)
    (fun i x ρ h3 hx hI => by
      obtain ⟨y, ms, rfl, m3, hms, hlen, D3, f3⟩ := hI
      unfold rangeL at hx
      rw [List.getElem?_map] at hx
      obtain ⟨n, hn, rfl⟩ := Option.map_eq_some_iff.mp hx
      have hn2 := List.getElem?_eq_some_iff.mp hn
      obtain ⟨hlt, hn3⟩ := hn2
      simp at hlt hn3
      subst hn3
      obtain ⟨v, h4, e4, v0, v1, D4, f4⟩ := next_ok (b := 4) D3 (by omega) (by omega)
      have m4 := f4.at_ _ _ (by simp; omega) m3
      by_cases z : 0 < v
      · obtain ⟨u, h5, e5, u0, u1, D5, f5⟩ := next_ok (b := 1 + (i : Int)) D4 (by omega) (by omega)
        have m5 := f5.at_ _ _ (by simp; omega) m4
        have fs : Fr [h.length] h5 (h5.set h.length (.lst (ms.map mav ++ [.int u]))) := Fr.set
        refine ⟨_, rfl, _, _, .inl (by simp [l__law_book_1, env, e4, z, e5, m3, m5, hlen, List.length_map]; rw [if_pos (by omega)]), _, ms ++ [some u.toNat], rfl, ?_, hms.snoc (by omega) (fun m hm => by cases hm; omega), by simp [hlen], D5.keep fs (by simp; omega) (by simp; omega), ?_⟩
        · rw [at_set m5, List.map_append]
          have : mav (some u.toNat) = .int u := by show AV.int (u.toNat : Int) = _; rw [Int.toNat_of_nonneg u0]
          simp [this]
        · exact ((f3.trans (f4.mono (by simp +contextual))).trans (f5.mono (by simp +contextual))).trans (fs.mono (by simp))
      · have fs : Fr [h.length] h4 (h4.set h.length (.lst (ms.map mav ++ [.non]))) := Fr.set
        refine ⟨_, rfl, _, _, .inl (by simp [l__law_book_1, env, e4, z, m3, m4, hlen, List.length_map]; rw [if_pos (by omega)]), _, ms ++ [none], rfl, ?_, hms.snoc (by omega) (fun m hm => by cases hm), by simp [hlen], D4.keep fs (by simp; omega) (by simp; omega), ?_⟩
        · rw [at_set m4, List.map_append]; rfl
        · exact (f3.trans (f4.mono (by simp +contextual))).trans (fs.mono (by simp)))
    fuel 0 (env 0 none) h1 (by unfold fuel rangeL; simp; omega) (Nat.zero_le _) ⟨none, [none], rfl, m1, ⟨by simp, by simp, fun i m e => by cases i <;> simp at e⟩, rfl, D1, f1'⟩
  obtain ⟨u, h3, e3, u0, u1, D3, f3⟩ := next_ok (b := F) D2 (by omega) (by omega)
  obtain ⟨w, h4, e4, w0, w1, D4, f4⟩ := next_ok (b := L) D3 (by omega) (by omega)
  obtain ⟨d, h5, rv, e5, d5, hrv, hd5, D5, f5⟩ := rule_ok D4
  have m2 : h2[h.length]? = some (.lst (ms.map mav)) := m2
  let T : List AV := [.tup (ms.map mav), .int (1 + u), .int (2 + w), .loc d, .tup []]
  have f6 : Fr [] h5 (h5 ++ [.lst T]) := Fr.push _
  have l4 : h.length < h4.length := Nat.lt_of_lt_of_le (lt_of_at m2) (Nat.le_trans f3.le f4.le)
  have l5 : h.length < h5.length := Nat.lt_of_lt_of_le (lt_of_at m2) (Nat.le_trans f3.le (Nat.le_trans f4.le f5.le))
  have D6 : Draw (h5 ++ [.lst T]) l c := D5.keep f6 (by simp) (by simp)
  have f36 : Fr [l, c, h.length] (h ++ [.lst [.non]]) (h5 ++ [.lst T]) := (((f2.trans (f3.mono (by simp +contextual))).trans (f4.mono (by simp +contextual))).trans (f5.mono (by simp +contextual))).trans (f6.mono (by simp))
  have ew6 : (h5 ++ [.lst T])[lw]? = some (.lst (os.map .str)) := f36.at_ _ _ (by simp [n1, n2]; omega) (f0.at_ _ _ (by simp) ew)
  obtain ⟨acc, h7, e7, ws, hacc, hsub, D7, f7⟩ := comp_ok (items := fun h => lstOf h lw) (xs := os.map AV.str) (g := PA.gName 8) (t := l__law_book_3) (e := l__law_book_2)
    (ρ := wipeA [some (.loc l), some (.int R), some (.int F), some (.int L), some (.loc lw), some (.loc h.length), x2, some (.loc h5.length), none] [8])
    (fun i acc h' => ∃ ws : List Str, acc = ws.map .str ∧ ws.Sublist (os.take i) ∧ Draw h' l c ∧ Fr [l, c] (h5 ++ [.lst T]) h')
    (fun i acc h' _ hI => by
      obtain ⟨ws, _, _, _, f⟩ := hI
      unfold lstOf
      rw [f.at_ _ _ (by simp [n1, n2]) ew6])
    (fun i x acc h' hx hI => by
      obtain ⟨ws, rfl, hs, D', f⟩ := hI
      rw [List.getElem?_map] at hx
      obtain ⟨s, hs2, rfl⟩ := Option.map_eq_some_iff.mp hx
      obtain ⟨v, h8, e8, v0, v1, D8, f8⟩ := next_ok (b := 3) D' (by omega) (by omega)
      have et : os.take (i + 1) = os.take i ++ [s] := by rw [List.take_add_one, hs2]; rfl
      refine ⟨_, rfl, ?_⟩
      by_cases z : 0 < v
      · refine .inr ⟨h8, .str s, h8, by simp [l__law_book_3, wipeA, e8, z], by simp [l__law_book_2, wipeA], ws ++ [s], by simp, ?_, D8, f.trans f8⟩
        rw [et]
        exact hs.append (List.Sublist.refl _)
      · refine .inl ⟨h8, by simp [l__law_book_3, wipeA, e8, z], ws, rfl, ?_, D8, f.trans f8⟩
        rw [et]
        exact hs.trans (List.sublist_append_left _ _))
    fuel 0 [] (h5 ++ [.lst T]) (by unfold fuel; simp; omega) (Nat.zero_le _) (by simp; omega) ⟨[], rfl, by simp, D6, Fr.refl⟩
  subst hacc
  have t7 : h7[h5.length]? = some (.lst T) := f7.at_ _ _ (by simp; omega) (by simp)
  have fs : Fr [h5.length] h7 (h7.set h5.length (.lst [.tup (ms.map mav), .int (1 + u), .int (2 + w), .loc d, .tup (ws.map .str)])) := Fr.set
  have ld : d < h5.length := lt_of_at d5
  refine ⟨h5.length, d, h7.set h5.length (.lst [.tup (ms.map mav), .int (1 + u), .int (2 + w), .loc d, .tup (ws.map .str)]), ms, 1 + u, 2 + w, rv, ws, ?_, ⟨at_set t7, ?_⟩, hrv, hms, ?_, by omega, by omega, by omega, by omega, ?_, by omega, ?_, D7.keep fs (by simp; omega) (by simp; omega), ?_⟩
  · unfold f__law_book b__law_book
    have e2 : sIter (fun _ => some (rangeL 1 (1 + r))) (PA.gName 6) l__law_book_1 fuel 0 [some (.loc l), some (.int R), some (.int F), some (.int L), some (.loc lw), some (.loc h.length), none, none, none] h1 = .nx [some (.loc l), some (.int R), some (.int F), some (.int L), some (.loc lw), some (.loc h.length), x2, none, none] h2 := e2
    have m4 := f4.at_ _ _ (by simp; omega) (f3.at_ _ _ (by simp; omega) m2)
    have hr : -4611686018427387904 ≤ 1 + r ∧ 1 + r < 4611686018427387904 := by omega
    dsimp only [T] at ew6 e7 t7
    simp [e1, hr, -iter_const, e2, m2, e3, e4, e5, lComp, ew6, wipeA, m4]
    simp [wipeA] at e7
    simp [e7, t7]
  · exact fs.at_ _ _ (by simp; omega) (f7.at_ _ _ (by simp; omega) (f6.at_ _ _ (by simp) d5))
  · have : (rangeL 1 (1 + r)).length = r.toNat := by unfold rangeL; simp; omega
    rw [this] at hlen; omega
  · have : os.take (os.map AV.str).length = os := by simp
    rwa [this] at hsub
  · omega
  · refine ((f0.of0 (S := [l, c])).comp f36 ?_).comp (f7.trans (S := [l, c]) Fr.refl) ?_ |>.comp fs ?_
    · intro p hp hlt; simp at hp ⊢; omega
    · intro p hp hlt; exact hp
    · intro p hp hlt; simp at hp; omega
end K06
set_option maxRecDepth 100000
namespace K06
open PA
open PySem (Str)
abbrev WORDS : List Str := ["cut", "drop", "loose", "reset", "tie"]
@[simp] theorem is_int {i : Int} {h : PA.Heap} : f_is_integer [.int i] h = .ok (.bl true) h := by
  unfold f_is_integer b_is_integer
  simp
@[simp] theorem is_bet {i a b : Int} {h : PA.Heap} : f_is_between [.int i, .int a, .int b] h = .ok (.bl (decide (a ≤ i) && decide (i ≤ b))) h := by
  unfold f_is_between b_is_between
  by_cases z : a ≤ i <;> simp [z]
def subl {α : Type} : List α → List (List α)
  | [] => [[]]
  | x :: xs => subl xs ++ (subl xs).map (x :: ·)
theorem mem_subl {α : Type} : ∀ {ws l : List α}, ws.Sublist l → ws ∈ subl l
  | _, _, .slnil => List.mem_singleton.mpr rfl
  | _, _, .cons a h => List.mem_append.mpr (.inl (mem_subl h))
  | _, _, .cons₂ a h => List.mem_append.mpr (.inr (List.mem_map.mpr ⟨_, mem_subl h, rfl⟩))
theorem sort_words : ∀ ws ∈ subl WORDS, sortD ws = ws := by decide +kernel
theorem bls_rep {n : Nat} {b : Bool} : blsOf (List.replicate n (.bl b)) = some (List.replicate n b) := by
  rw [← List.map_replicate]; exact bls_all _
theorem masters_ok {ms : List (Option Nat)} {h : PA.Heap} (hm : MOK ms) : f_are_masters [.tup (ms.map mav)] h = .ok (.bl true) h := by
  unfold f_are_masters b_are_masters
  have l1 : (1 : Int) ≤ ms.length := by have := hm.1; omega
  have l2 : (ms.length : Int) ≤ 3 := by have := hm.2.1; omega
  have key : lComp (iEnumT (eVar 0)) (PA.gTup [1, 2]) tYes l_are_masters_1 [1, 2] [some (.tup (ms.map mav)), none, none] h = .ok ((numbered (ms.map mav)).map fun _ => .bl true) h := by
    refine lcomp_map (items := fun _ => some (numbered (ms.map mav))) _ (by simp) rfl (by unfold numbered; simp; omega) fun x hx => ?_
    unfold numbered at hx
    obtain ⟨p, hp, rfl⟩ := List.mem_map.mp hx
    obtain ⟨v, i⟩ := p
    have hp2 := List.mem_zipIdx hp
    simp at hp2
    obtain ⟨hlt, hv⟩ := hp2
    refine ⟨_, rfl, ?_⟩
    have e : ms[i]? = some (ms[i]) := List.getElem?_eq_getElem hlt
    cases z : ms[i] with
    | none =>
      rw [z] at hv
      subst hv
      simp [l_are_masters_1, wipeA, mav]
    | some m =>
      rw [z] at hv e
      subst hv
      have := hm.2.2 i m e
      have q : (m : Int) ≤ (i : Int) - 1 := by omega
      simp [l_are_masters_1, wipeA, mav, q, AV.isNon]
  rw [List.map_const', ← List.map_replicate] at key
  simp [l1, l2, key, bls_rep]
theorem dat_strs {h : PA.Heap} (n : Nat) : ∀ ws : List Str, datsW (datH h n) (ws.map .str) = some (ws.map PySem.PyData.str)
  | [] => rfl
  | w :: r => by
    show (match datH h n (.str w), datsW (datH h n) (r.map .str) with
      | some d, some ds => some (d :: ds)
      | _, _ => none) = _
    rw [dat_strs n r]
    cases n <;> rfl
theorem lay_strs : ∀ ws : List Str, (∀ w ∈ ws, sok w) → PySem.PyData.canLayAll0 (ws.map PySem.PyData.str) = true ∧ PySem.PyData.depthAll (ws.map PySem.PyData.str) = 0
  | [], _ => ⟨rfl, rfl⟩
  | w :: r, hw => by
    have := lay_strs r fun x hx => hw x (List.mem_cons_of_mem _ hx)
    have h1 : PySem.PyData.strOk w = true := hw w List.mem_cons_self
    constructor
    · show (PySem.PyData.canLay0 (.str w) && PySem.PyData.canLayAll0 (r.map PySem.PyData.str)) = true
      rw [this.1]
      simp [PySem.PyData.canLay0, h1]
    · show max (PySem.PyData.depth (.str w)) (PySem.PyData.depthAll (r.map PySem.PyData.str)) = 0
      rw [this.2]
      simp [PySem.PyData.depth]
theorem words_sok : ∀ w ∈ WORDS, sok w := by decide +kernel
theorem words_ok {ws : List Str} {h : PA.Heap} (hw : ws.Sublist WORDS) : ∃ g, f_are_words [.tup (ws.map .str)] h = .ok (.bl true) (h ++ g) := by
  have hmem := mem_subl hw
  have hs := sort_words ws hmem
  have hl : ws.length ≤ 5 := hw.length_le
  have key : lComp (iTup (eVar 0)) (PA.gName 1) tYes l_are_words_1 [1] [some (.tup (ws.map .str)), none] h = .ok ((ws.map AV.str).map fun _ => .bl true) h := by
    refine lcomp_map (items := fun _ => some (ws.map .str)) _ (by simp) rfl (by simp; omega) fun x hx => ?_
    obtain ⟨w, hx2, rfl⟩ := List.mem_map.mp hx
    have e1 : inF (.str w) [.str "cut", .str "drop", .str "loose", .str "reset", .str "tie"] = true := inF_in (os := WORDS) (hw.subset hx2)
    refine ⟨_, rfl, ?_⟩
    simp [l_are_words_1, wipeA, e1, flat]
  rw [List.map_const', ← List.map_replicate] at key
  have hd : ∀ h' l, h'[l]? = some (.lst (ws.map .str)) → datH h' 40 (.loc l) = some (PySem.PyData.list (ws.map PySem.PyData.str)) := fun h' l e => by
    show (match h'[l]? with
      | some (.lst xs) => (datsW (datH h' 39) xs).map PySem.PyData.list
      | _ => none) = _
    rw [e]
    dsimp only
    rw [dat_strs]
    rfl
  have hsh : PySem.SeqAt.shaped (PySem.PyData.list (ws.map PySem.PyData.str)) = true := by
    have := lay_strs ws fun w hx => words_sok w (hw.subset hx)
    unfold PySem.SeqAt.shaped
    simp [PySem.PyData.canLay0, PySem.PyData.depth, this]
  let h2 : PA.Heap := h ++ [.lst (ws.map .str), .lst (ws.map .str)]
  have he : eqA h2 (.loc h.length) (.loc (h.length + 1)) = some true := eqA_same (hd _ _ (by simp [h2])) (hd _ _ (by simp [h2])) hsh
  refine ⟨[.lst (ws.map .str), .lst (ws.map .str)], ?_⟩
  unfold f_are_words b_are_words
  have h63 : ws.length < 64 := by omega
  dsimp only [h2] at he
  simp [key, bls_rep, eSortSet, strs_map, hs, h63, he]
abbrev PK : List AV := ["above", "back", "cut", "spread", "tie"].map fun s : String => AV.str s
theorem ks_eq : ks_POINTS.map AV.str = PK := rfl
theorem rule_look {h : PA.Heap} {d : Nat} {rv : RV} (hd : h[d]? = some (.dct rv.kvs)) (hr : RV.Ok rv) : f_look_at_rule [.loc d] h = .ok .non h := by
  have key : lComp (iKeysK ks_POINTS) (PA.gName 1) tYes l_look_at_rule_1 [1] [some (.loc d), none] h = .ok (PK.map fun _ => .bl true) h := by
    refine lcomp_map (items := fun _ => some PK) _ (by simp [ks_eq]) rfl (by simp) fun x hx => ?_
    refine ⟨_, rfl, ?_⟩
    simp at hx
    rcases hx with rfl | rfl | rfl | rfl | rfl <;> simp [l_look_at_rule_1, wipeA, hd, RV.kvs, dGet, keyEq]
  have ha : inF (.str rv.a) [.str "keeps", .str "wins"] = true := inF_in hr.a
  have hb : inF (.str rv.b) [.str "follows", .str "own"] = true := inF_in hr.b
  have hc : inF (.str rv.c) [.str "empty", .str "values"] = true := inF_in hr.c
  have hs : inF (.str rv.s) [.str "now", .str "one", .str "read"] = true := inF_in hr.s
  have ht : inF (.str rv.t) [.str "all", .str "keeps", .str "same"] = true := inF_in hr.t
  unfold f_look_at_rule b_look_at_rule
  have key : lComp (iKeysK ks_POINTS) (PA.gName 1) tYes l_look_at_rule_1 [1] [some (.loc d), none] h = .ok [.bl true, .bl true, .bl true, .bl true, .bl true] h := key
  have e5 : rv.kvs.length = 5 := rfl
  simp [ks_eq, key, hd, blsOf, eqA_int, e5]
  simp [l_look_at_rule_2, hd, dGet, keyEq, RV.kvs, kv_POINTS, ha, hb, hc, hs, ht]
/-- a book stands at b, its rule at p -/
structure BAt (h : PA.Heap) (b p : Nat) (ms : List (Option Nat)) (nf nl : Int) (rv : RV) (ws : List Str) : Prop where
  b : h[b]? = some (.ins "Book" [("tops", .tup (ms.map mav)), ("many_fields", .int nf), ("many_values", .int nl), ("points", .loc p), ("told_words", .tup (ws.map .str))])
  p : h[p]? = some (.dct rv.kvs)
theorem BAt.keep {S : List Nat} {h h' : PA.Heap} {b p : Nat} {ms : List (Option Nat)} {nf nl : Int} {rv : RV} {ws : List Str} (B : BAt h b p ms nf nl rv ws) (f : Fr S h h') (n1 : b ∉ S) (n2 : p ∉ S) : BAt h' b p ms nf nl rv ws :=
  ⟨f.at_ _ _ n1 B.b, f.at_ _ _ n2 B.p⟩
theorem init_ok {h : PA.Heap} {o d : Nat} {ms : List (Option Nat)} {nf nl : Int} {rv : RV} {ws : List Str} (ho : h[o]? = some (.ins "Book" [])) (hd : h[d]? = some (.dct rv.kvs)) (hr : RV.Ok rv) (hm : MOK ms) (hf : 1 ≤ nf ∧ nf ≤ 2) (hl : 2 ≤ nl ∧ nl ≤ 3) (hw : ws.Sublist WORDS) :
    ∃ h' p, f_Book___init__ [.loc o, .tup (ms.map mav), .int nf, .int nl, .loc d, .tup (ws.map .str)] h = .ok .non h' ∧ BAt h' o p ms nf nl rv ws ∧ h.length ≤ p ∧ Fr [o] h h' := by
  obtain ⟨g, eg⟩ := words_ok (h := h) hw
  have od : o ≠ d := fun z => by subst z; rw [ho] at hd; cases hd
  have ol := lt_of_at ho
  have key : ∀ (fs : List (Str × AV)), eDc (iKeysK ks_POINTS) (PA.gName 6) tYes l_Book___init___1 l_Book___init___2 [6] [some (.loc o), some (.tup (ms.map mav)), some (.int nf), some (.int nl), some (.loc d), some (.tup (ws.map .str)), none] ((h ++ g).set o (.ins "Book" fs))
      = .ok (.loc (h ++ g).length) ((h ++ g).set o (.ins "Book" fs) ++ [.dct rv.kvs]) := fun fs => by
    refine (dc_pure (items := fun _ => some PK) (fun x => x) (fun x => match x with
      | .str z => if z = "above" then .str rv.a else if z = "back" then .str rv.b else if z = "cut" then .str rv.c else if z = "spread" then .str rv.s else .str rv.t
      | _ => .non) (by simp [ks_eq]) rfl (by simp) fun x hx => ?_).trans (by simp [dPut, keyEq, RV.kvs])
    refine ⟨_, rfl, ?_⟩
    have hd' : ((h ++ g).set o (.ins "Book" fs))[d]? = some (.dct rv.kvs) := by rw [List.getElem?_set_ne od]; simp [hd]
    simp at hx
    rcases hx with rfl | rfl | rfl | rfl | rfl <;> simp [l_Book___init___1, l_Book___init___2, wipeA, hd', RV.kvs, dGet, keyEq]
  let fs : List (Str × AV) := [("tops", .tup (ms.map mav)), ("many_fields", .int nf), ("many_values", .int nl)]
  refine ⟨((h ++ g).set o (.ins "Book" fs) ++ [AO.dct rv.kvs]).set o (AO.ins "Book" (fs ++ [(Str.ofString "points", AV.loc (h ++ g).length), (Str.ofString "told_words", AV.tup (ws.map AV.str))])), (h ++ g).length, ?_, ?_⟩
  · unfold f_Book___init__ b_Book___init__
    simp [masters_ok hm, hf, hl, rule_look hd hr, eg, ho, key, putF]
    simp [fs]
  · have e0 : ((h ++ g).set o (AO.ins "Book" fs))[o]? = some (AO.ins "Book" fs) := by simp [ho]
    have f1 : Fr [o] h ((h ++ g).set o (AO.ins "Book" fs)) := (Fr.push g).trans (Fr.set)
    have f2 : Fr [o] ((h ++ g).set o (AO.ins "Book" fs)) ((h ++ g).set o (AO.ins "Book" fs) ++ [AO.dct rv.kvs]) := Fr.push _
    refine ⟨⟨?_, ?_⟩, by simp, (f1.trans f2).trans Fr.set⟩
    · rw [get_set (by rw [get_app (by rw [e0]; rfl), e0]; rfl)]
      rfl
    · rw [List.getElem?_set_ne (by simp; omega)]
      have : ((h ++ g).set o (AO.ins "Book" fs)).length = (h ++ g).length := by simp
      rw [← this, get_len]
      rfl
end K06
set_option maxRecDepth 100000
namespace K06
open PA
open PySem (Str)
/-- the masters that are told: the right ones, the odd ones -/
def goodM : List (List AV) := [[.non], [.non, .non], [.non, .int 0], [.non, .non, .non], [.non, .non, .int 0], [.non, .non, .int 1], [.non, .int 0, .non], [.non, .int 0, .int 0], [.non, .int 0, .int 1]]
def oddM : List (List AV) := [[], [.int 0], [.non, .int 1], [.non, .bl true], [.non, .int (-1)], [.non, .non, .non, .non], [.non, .str "0"], [.non, .int 0, .int 2]]
@[simp] theorem ab_var0 {v1 v2 : AV} {h : PA.Heap} : f_is_between [.non, v1, v2] h = .ok (.bl false) h := by
  unfold f_is_between b_is_between f_is_integer b_is_integer
  simp
@[simp] theorem ab_bl {b : Bool} {v1 v2 : AV} {h : PA.Heap} : f_is_between [.bl b, v1, v2] h = .ok (.bl false) h := by
  unfold f_is_between b_is_between f_is_integer b_is_integer
  simp
@[simp] theorem ab_str {b : Str} {v1 v2 : AV} {h : PA.Heap} : f_is_between [.str b, v1, v2] h = .ok (.bl false) h := by
  unfold f_is_between b_is_between f_is_integer b_is_integer
  simp
@[simp] theorem li_int {i a b : Int} {h : PA.Heap} : f__law_int [.int i, .int a, .int b] h = .ok (.bl (decide (a ≤ i) && decide (i ≤ b))) h := by
  unfold f__law_int b__law_int
  by_cases z : a ≤ i <;> simp [z]
@[simp] theorem li_non {v1 v2 : AV} {h : PA.Heap} : f__law_int [.non, v1, v2] h = .ok (.bl false) h := by
  unfold f__law_int b__law_int
  simp
@[simp] theorem li_bl {b : Bool} {v1 v2 : AV} {h : PA.Heap} : f__law_int [.bl b, v1, v2] h = .ok (.bl false) h := by
  unfold f__law_int b__law_int
  simp
@[simp] theorem li_str {b : Str} {v1 v2 : AV} {h : PA.Heap} : f__law_int [.str b, v1, v2] h = .ok (.bl false) h := by
  unfold f__law_int b__law_int
  simp
theorem am_good {h : PA.Heap} : ∀ xs ∈ goodM, f_are_masters [.tup xs] h = .ok (.bl true) h := by
  intro xs hx
  unfold goodM at hx
  simp only [List.mem_cons, List.not_mem_nil, or_false] at hx
  rcases hx with rfl | rfl | rfl | rfl | rfl | rfl | rfl | rfl | rfl <;> (unfold f_are_masters b_are_masters; simp [lComp, l_are_masters_1, wipeA, numbered, AV.isNon, blsOf])
theorem am_odd {h : PA.Heap} : ∀ xs ∈ oddM, f_are_masters [.tup xs] h = .ok (.bl false) h := by
  intro xs hx
  unfold oddM at hx
  simp only [List.mem_cons, List.not_mem_nil, or_false] at hx
  rcases hx with rfl | rfl | rfl | rfl | rfl | rfl | rfl | rfl <;> (unfold f_are_masters b_are_masters; simp [lComp, l_are_masters_1, wipeA, numbered, AV.isNon, blsOf])
theorem am_non {h : PA.Heap} : f_are_masters [.non] h = .ok (.bl false) h := by
  unfold f_are_masters b_are_masters
  simp
theorem am_lst {h : PA.Heap} {l : Nat} {xs : List AV} (e : h[l]? = some (.lst xs)) : f_are_masters [.loc l] h = .ok (.bl false) h := by
  unfold f_are_masters b_are_masters
  simp [e]
theorem good_of {ms : List (Option Nat)} (hm : MOK ms) : ms.map mav ∈ goodM := by
  obtain ⟨h1, h2, h3⟩ := hm
  match ms, h1, h2, h3 with
  | [a], _, _, h3 =>
    have a0 : a = none := by
      cases a with
      | none => rfl
      | some m => have := h3 0 m rfl; omega
    subst a0
    simp [goodM, mav]
  | [a, b], _, _, h3 =>
    have a0 : a = none := by
      cases a with
      | none => rfl
      | some m => have := h3 0 m rfl; omega
    have b0 : b = none ∨ b = some 0 := by
      cases b with
      | none => exact .inl rfl
      | some m => have := h3 1 m rfl; exact .inr (by congr 1; omega)
    subst a0
    rcases b0 with rfl | rfl <;> simp [goodM, mav]
  | [a, b, c], _, _, h3 =>
    have a0 : a = none := by
      cases a with
      | none => rfl
      | some m => have := h3 0 m rfl; omega
    have b0 : b = none ∨ b = some 0 := by
      cases b with
      | none => exact .inl rfl
      | some m => have := h3 1 m rfl; exact .inr (by congr 1; omega)
    have c0 : c = none ∨ c = some 0 ∨ c = some 1 := by
      cases c with
      | none => exact .inl rfl
      | some m =>
        have := h3 2 m rfl
        have : m = 0 ∨ m = 1 := by omega
        rcases this with rfl | rfl
        · exact .inr (.inl rfl)
        · exact .inr (.inr rfl)
    subst a0
    rcases b0 with rfl | rfl <;> rcases c0 with rfl | rfl | rfl <;> simp [goodM, mav]
/-! ### the law's look at masters -/
def dueM1 : SS := (sIf (tOr (tNot (tB (eCall bIsi (lCons (eBin oIx (eVar 0) (eC (.int 0))) (lCons (eC (.ty "tuple")) lNil))))) (tNot (tB (eChain oLe oLe (eC (.int 1)) (eCall bLen (lCons (eBin oIx (eVar 0) (eC (.int 0))) lNil)) (eC (.int 3)))))) (sRet (eC (.str "masters"))) sNil)
def dueM2 : SS := (sFor (iRange0 (eCall bLen (lCons (eBin oIx (eVar 0) (eC (.int 0))) lNil))) (PA.gName 1) l__law_due_1)
section
variable {h : PA.Heap} {t : Nat} {xs vs : List AV} {rest : SS}
abbrev envU (t : Nat) (x : Option AV) : PA.Env := [some (.loc t), x, none, none, none, none]
theorem due_good (ht : h[t]? = some (.lst (.tup xs :: vs))) (hx : xs ∈ goodM) : sSeq dueM1 (sSeq dueM2 rest) (envU t none) h = rest (envU t (some (.int ((xs.length : Int) - 1)))) h := by
  unfold goodM at hx
  simp only [List.mem_cons, List.not_mem_nil, or_false] at hx
  rcases hx with rfl | rfl | rfl | rfl | rfl | rfl | rfl | rfl | rfl <;> simp [dueM1, dueM2, ht, rangeL, l__law_due_1, AV.isNon, List.range, List.range.loop]
theorem due_odd (ht : h[t]? = some (.lst (.tup xs :: vs))) (hx : xs ∈ oddM) : sSeq dueM1 (sSeq dueM2 rest) (envU t none) h = .ret (.str "masters") h := by
  unfold oddM at hx
  simp only [List.mem_cons, List.not_mem_nil, or_false] at hx
  rcases hx with rfl | rfl | rfl | rfl | rfl | rfl | rfl | rfl <;> simp [dueM1, dueM2, ht, rangeL, l__law_due_1, AV.isNon, List.range, List.range.loop]
theorem due_non (ht : h[t]? = some (.lst (.non :: vs))) : sSeq dueM1 (sSeq dueM2 rest) (envU t none) h = .ret (.str "masters") h := by
  simp [dueM1, dueM2, ht]
theorem due_lst {l : Nat} {ys : List AV} (ht : h[t]? = some (.lst (.loc l :: vs))) (hl : h[l]? = some (.lst ys)) : sSeq dueM1 (sSeq dueM2 rest) (envU t none) h = .ret (.str "masters") h := by
  simp [dueM1, dueM2, ht, hl]
end
end K06
set_option maxRecDepth 100000
namespace K06
open PA
open PySem (Str)
/-- a value of a rule that is told -/
def FV (v : AV) : Prop := v = .non ∨ (∃ i, v = .int i) ∨ ∃ s, v = .str s ∧ sok s
def badV (os : List Str) : AV → Bool
  | .str s => !decide (s ∈ os)
  | _ => true
abbrev exR (p : Str) : Exc := ⟨"InvalidRule", [("point", .str p)]⟩
def os1 : List Str := ["keeps", "wins"]
def os2 : List Str := ["follows", "own"]
def os3 : List Str := ["empty", "values"]
def os4 : List Str := ["now", "one", "read"]
def os5 : List Str := ["all", "keeps", "same"]
section
variable {h : PA.Heap} {d : Nat} {kvs : List (AV × AV)} {v1 v2 v3 v4 v5 v : AV}
theorem inN : ∀ {xs : List Str}, inF .non (xs.map .str) = false
  | [] => rfl
  | x :: r => by
    have ih := @inN r
    unfold inF at *
    rw [List.map_cons, List.any_cons, ih]
    rfl
theorem inI {i : Int} : ∀ {xs : List Str}, inF (.int i) (xs.map .str) = false
  | [] => rfl
  | x :: r => by
    have ih := @inI i r
    unfold inF at *
    rw [List.map_cons, List.any_cons, ih]
    rfl
theorem look1 (hd : h[d]? = some (.dct kvs)) (e : dGet kvs (.str "above") = some v) (f : FV v) : l_look_at_rule_2 [some (.loc d), some (.str "above")] h = if badV os1 v = true then .exc (exR "above") [some (.loc d), some (.str "above")] h else .nx [some (.loc d), some (.str "above")] h := by
  rcases f with rfl | ⟨i, rfl⟩ | ⟨s, rfl, k⟩
  · simp [l_look_at_rule_2, hd, e, badV]
  · simp [l_look_at_rule_2, hd, e, badV]
  · have i : inF (.str s) [.str "keeps", .str "wins"] = decide (s ∈ os1) := (inF_str : inF (.str s) (os1.map .str) = _)
    by_cases z : s ∈ os1 <;> simp [l_look_at_rule_2, hd, e, badV, kv_POINTS, i, z]
theorem look2 (hd : h[d]? = some (.dct kvs)) (e : dGet kvs (.str "back") = some v) (f : FV v) : l_look_at_rule_2 [some (.loc d), some (.str "back")] h = if badV os2 v = true then .exc (exR "back") [some (.loc d), some (.str "back")] h else .nx [some (.loc d), some (.str "back")] h := by
  rcases f with rfl | ⟨i, rfl⟩ | ⟨s, rfl, k⟩
  · simp [l_look_at_rule_2, hd, e, badV]
  · simp [l_look_at_rule_2, hd, e, badV]
  · have i : inF (.str s) [.str "follows", .str "own"] = decide (s ∈ os2) := (inF_str : inF (.str s) (os2.map .str) = _)
    by_cases z : s ∈ os2 <;> simp [l_look_at_rule_2, hd, e, badV, kv_POINTS, i, z]
theorem look3 (hd : h[d]? = some (.dct kvs)) (e : dGet kvs (.str "cut") = some v) (f : FV v) : l_look_at_rule_2 [some (.loc d), some (.str "cut")] h = if badV os3 v = true then .exc (exR "cut") [some (.loc d), some (.str "cut")] h else .nx [some (.loc d), some (.str "cut")] h := by
  rcases f with rfl | ⟨i, rfl⟩ | ⟨s, rfl, k⟩
  · simp [l_look_at_rule_2, hd, e, badV]
  · simp [l_look_at_rule_2, hd, e, badV]
  · have i : inF (.str s) [.str "empty", .str "values"] = decide (s ∈ os3) := (inF_str : inF (.str s) (os3.map .str) = _)
    by_cases z : s ∈ os3 <;> simp [l_look_at_rule_2, hd, e, badV, kv_POINTS, i, z]
theorem look4 (hd : h[d]? = some (.dct kvs)) (e : dGet kvs (.str "spread") = some v) (f : FV v) : l_look_at_rule_2 [some (.loc d), some (.str "spread")] h = if badV os4 v = true then .exc (exR "spread") [some (.loc d), some (.str "spread")] h else .nx [some (.loc d), some (.str "spread")] h := by
  rcases f with rfl | ⟨i, rfl⟩ | ⟨s, rfl, k⟩
  · simp [l_look_at_rule_2, hd, e, badV]
  · simp [l_look_at_rule_2, hd, e, badV]
  · have i : inF (.str s) [.str "now", .str "one", .str "read"] = decide (s ∈ os4) := (inF_str : inF (.str s) (os4.map .str) = _)
    by_cases z : s ∈ os4 <;> simp [l_look_at_rule_2, hd, e, badV, kv_POINTS, i, z]
theorem look5 (hd : h[d]? = some (.dct kvs)) (e : dGet kvs (.str "tie") = some v) (f : FV v) : l_look_at_rule_2 [some (.loc d), some (.str "tie")] h = if badV os5 v = true then .exc (exR "tie") [some (.loc d), some (.str "tie")] h else .nx [some (.loc d), some (.str "tie")] h := by
  rcases f with rfl | ⟨i, rfl⟩ | ⟨s, rfl, k⟩
  · simp [l_look_at_rule_2, hd, e, badV]
  · simp [l_look_at_rule_2, hd, e, badV]
  · have i : inF (.str s) [.str "all", .str "keeps", .str "same"] = decide (s ∈ os5) := (inF_str : inF (.str s) (os5.map .str) = _)
    by_cases z : s ∈ os5 <;> simp [l_look_at_rule_2, hd, e, badV, kv_POINTS, i, z]
/-- the five words of a rule -/
structure Has (kvs : List (AV × AV)) (v1 v2 v3 v4 v5 : AV) : Prop where
  n : kvs.length = 5
  e1 : dGet kvs (.str "above") = some v1
  e2 : dGet kvs (.str "back") = some v2
  e3 : dGet kvs (.str "cut") = some v3
  e4 : dGet kvs (.str "spread") = some v4
  e5 : dGet kvs (.str "tie") = some v5
  f1 : FV v1
  f2 : FV v2
  f3 : FV v3
  f4 : FV v4
  f5 : FV v5
def Lacks (kvs : List (AV × AV)) : Prop := kvs.length ≠ 5 ∨ dGet kvs (.str "above") = none ∨ dGet kvs (.str "back") = none ∨ dGet kvs (.str "cut") = none ∨ dGet kvs (.str "spread") = none ∨ dGet kvs (.str "tie") = none
def KOk (kvs : List (AV × AV)) : Prop := ∀ p ∈ kvs, (∃ k, p.1 = .str k) ∧ FV p.2
theorem KOk.get {k v : AV} (K : KOk kvs) (e : dGet kvs k = some v) : FV v := by
  unfold dGet at e
  obtain ⟨p, hp, rfl⟩ := Option.map_eq_some_iff.mp e
  exact (K p (List.mem_of_find?_eq_some hp)).2
theorem has_or (K : KOk kvs) : Lacks kvs ∨ ∃ v1 v2 v3 v4 v5, Has kvs v1 v2 v3 v4 v5 := by
  by_cases n : kvs.length = 5
  · cases e1 : dGet kvs (.str "above") with
    | none => exact .inl (.inr (.inl e1))
    | some v1 =>
      cases e2 : dGet kvs (.str "back") with
      | none => exact .inl (.inr (.inr (.inl e2)))
      | some v2 =>
        cases e3 : dGet kvs (.str "cut") with
        | none => exact .inl (.inr (.inr (.inr (.inl e3))))
        | some v3 =>
          cases e4 : dGet kvs (.str "spread") with
          | none => exact .inl (.inr (.inr (.inr (.inr (.inl e4)))))
          | some v4 =>
            cases e5 : dGet kvs (.str "tie") with
            | none => exact .inl (.inr (.inr (.inr (.inr (.inr e5)))))
            | some v5 => exact .inr ⟨v1, v2, v3, v4, v5, n, e1, e2, e3, e4, e5, K.get e1, K.get e2, K.get e3, K.get e4, K.get e5⟩
  · exact .inl (.inl n)
/-- the first odd point -/
def firstR (v1 v2 v3 v4 v5 : AV) : Option Str := if badV os1 v1 = true then some "above" else if badV os2 v2 = true then some "back" else if badV os3 v3 = true then some "cut" else if badV os4 v4 = true then some "spread" else if badV os5 v5 = true then some "tie" else none
def outR : Option Str → PA.Heap → Res AV
  | some p, h => .exc (exR p) h
  | none, h => .ok .non h
theorem look_has (hd : h[d]? = some (.dct kvs)) (H : Has kvs v1 v2 v3 v4 v5) : f_look_at_rule [.loc d] h = outR (firstR v1 v2 v3 v4 v5) h := by
  obtain ⟨n, e1, e2, e3, e4, e5, f1, f2, f3, f4, f5⟩ := H
  have l1 := look1 hd e1 f1
  have l2 := look2 hd e2 f2
  have l3 := look3 hd e3 f3
  have l4 := look4 hd e4 f4
  have l5 := look5 hd e5 f5
  unfold f_look_at_rule b_look_at_rule firstR
  by_cases b1 : badV os1 v1 = true
  · simp [ks_eq, hd, n, lComp, wipeA, l_look_at_rule_1, e1, e2, e3, e4, e5, blsOf, l1, b1, outR, eqA_int]
  · by_cases b2 : badV os2 v2 = true
    · simp [ks_eq, hd, n, lComp, wipeA, l_look_at_rule_1, e1, e2, e3, e4, e5, blsOf, l1, b1, l2, b2, outR, eqA_int]
    · by_cases b3 : badV os3 v3 = true
      · simp [ks_eq, hd, n, lComp, wipeA, l_look_at_rule_1, e1, e2, e3, e4, e5, blsOf, l1, b1, l2, b2, l3, b3, outR, eqA_int]
      · by_cases b4 : badV os4 v4 = true
        · simp [ks_eq, hd, n, lComp, wipeA, l_look_at_rule_1, e1, e2, e3, e4, e5, blsOf, l1, b1, l2, b2, l3, b3, l4, b4, outR, eqA_int]
        · by_cases b5 : badV os5 v5 = true
          · simp [ks_eq, hd, n, lComp, wipeA, l_look_at_rule_1, e1, e2, e3, e4, e5, blsOf, l1, b1, l2, b2, l3, b3, l4, b4, l5, b5, outR, eqA_int]
          · simp [ks_eq, hd, n, lComp, wipeA, l_look_at_rule_1, e1, e2, e3, e4, e5, blsOf, l1, b1, l2, b2, l3, b3, l4, b4, l5, b5, outR, eqA_int]
theorem look_lacks (hd : h[d]? = some (.dct kvs)) (H : Lacks kvs) : f_look_at_rule [.loc d] h = outR (some "") h := by
  unfold f_look_at_rule b_look_at_rule
  by_cases n : kvs.length = 5
  · rcases H with H | H | H | H | H | H
    · exact absurd n H
    all_goals
      simp [ks_eq, hd, n, lComp, wipeA, l_look_at_rule_1, H, blsOf, outR, eqA_int]
  · have n' : ¬ (kvs.length : Int) = 5 := by omega
    simp [hd, eqA_int, n', outR]
theorem look_non : f_look_at_rule [.non] h = outR (some "") h := by
  unfold f_look_at_rule b_look_at_rule
  simp [outR]
theorem look_str {s : Str} : f_look_at_rule [.str s] h = outR (some "") h := by
  unfold f_look_at_rule b_look_at_rule
  simp [outR]
theorem look_lst {xs : List AV} (hd : h[d]? = some (.lst xs)) : f_look_at_rule [.loc d] h = outR (some "") h := by
  unfold f_look_at_rule b_look_at_rule
  simp [hd, outR]
end
end K06
set_option maxRecDepth 100000
namespace K06
open PA
open PySem (Str)
theorem set_same {h : PA.Heap} {p : Nat} {o : AO} (e : h[p]? = some o) : h.set p o = h := by
  apply List.ext_getElem?
  intro i
  by_cases z : p = i
  · subst z; rw [at_set e, e]
  · rw [List.getElem?_set_ne z]
def dueR5 : SS := (sIf (tOr (tNot (tB (eCall bIsi (lCons (eBin oIx (eVar 0) (eC (.int 3))) (lCons (eC (.ty "dict")) lNil))))) (tOr (tB (eBin oNe (eCall bLen (lCons (eBin oIx (eVar 0) (eC (.int 3))) lNil)) (eC (.int 5)))) (tNot (tB (eAllOf (xLock (pickE (eVar 2)) (lComp (iKeysL (eVar 2)) (PA.gName 3) tYes l__law_due_2 [3]))))))) (sRet (eTup (lCons (eC (.str "rule")) (lCons (eC (.str "")) lNil)))) sNil)
def dueR6 : SS := (sLock (pickE (eVar 2)) (sFor (iKeysL (eVar 2)) (PA.gName 3) l__law_due_3))
abbrev gdR (a1 a2 a3 a4 a5 : Nat) : List (AV × AV) := [(.str "above", .loc a1), (.str "back", .loc a2), (.str "cut", .loc a3), (.str "spread", .loc a4), (.str "tie", .loc a5)]
/-- the law's points -/
structure GPt (h : PA.Heap) (g a1 a2 a3 a4 a5 : Nat) : Prop where
  g : h[g]? = some (.dct (gdR a1 a2 a3 a4 a5))
  l1 : h[a1]? = some (.lst (os1.map .str))
  l2 : h[a2]? = some (.lst (os2.map .str))
  l3 : h[a3]? = some (.lst (os3.map .str))
  l4 : h[a4]? = some (.lst (os4.map .str))
  l5 : h[a5]? = some (.lst (os5.map .str))
section
variable {h : PA.Heap} {t d g a1 a2 a3 a4 a5 : Nat} {kvs : List (AV × AV)} {v0 v1 v2 v3 v4 v5 w1 w2 w4 v : AV} {x : Option AV}
abbrev envW (t g : Nat) (x y : Option AV) : PA.Env := [some (.loc t), x, some (.loc g), y, none, none]
theorem dr1 (ht : h[t]? = some (.lst [v0, w1, w2, .loc d, w4])) (hd : h[d]? = some (.dct kvs)) (hg : h[g]? = some (.lck (gdR a1 a2 a3 a4 a5))) (hl : h[a1]? = some (.lst (os1.map .str))) (e : dGet kvs (.str "above") = some v) (f : FV v) :
    l__law_due_3 (envW t g x (some (.str "above"))) h = if badV os1 v = true then .ret (.tup [.str "rule", .str "above"]) h else .nx (envW t g x (some (.str "above"))) h := by
  have q : dGet (gdR a1 a2 a3 a4 a5) (.str "above") = some (.loc a1) := by simp [dGet, keyEq]
  rcases f with rfl | ⟨i, rfl⟩ | ⟨s, rfl, k⟩
  · simp [l__law_due_3, ht, hd, hg, hl, e, q, badV, inN]
  · simp [l__law_due_3, ht, hd, hg, hl, e, q, badV, inI]
  · by_cases z : s ∈ os1 <;> simp [l__law_due_3, ht, hd, hg, hl, e, q, badV, inF_str, z]
theorem dr2 (ht : h[t]? = some (.lst [v0, w1, w2, .loc d, w4])) (hd : h[d]? = some (.dct kvs)) (hg : h[g]? = some (.lck (gdR a1 a2 a3 a4 a5))) (hl : h[a2]? = some (.lst (os2.map .str))) (e : dGet kvs (.str "back") = some v) (f : FV v) :
    l__law_due_3 (envW t g x (some (.str "back"))) h = if badV os2 v = true then .ret (.tup [.str "rule", .str "back"]) h else .nx (envW t g x (some (.str "back"))) h := by
  have q : dGet (gdR a1 a2 a3 a4 a5) (.str "back") = some (.loc a2) := by simp [dGet, keyEq]
  rcases f with rfl | ⟨i, rfl⟩ | ⟨s, rfl, k⟩
  · simp [l__law_due_3, ht, hd, hg, hl, e, q, badV, inN]
  · simp [l__law_due_3, ht, hd, hg, hl, e, q, badV, inI]
  · by_cases z : s ∈ os2 <;> simp [l__law_due_3, ht, hd, hg, hl, e, q, badV, inF_str, z]
theorem dr3 (ht : h[t]? = some (.lst [v0, w1, w2, .loc d, w4])) (hd : h[d]? = some (.dct kvs)) (hg : h[g]? = some (.lck (gdR a1 a2 a3 a4 a5))) (hl : h[a3]? = some (.lst (os3.map .str))) (e : dGet kvs (.str "cut") = some v) (f : FV v) :
    l__law_due_3 (envW t g x (some (.str "cut"))) h = if badV os3 v = true then .ret (.tup [.str "rule", .str "cut"]) h else .nx (envW t g x (some (.str "cut"))) h := by
  have q : dGet (gdR a1 a2 a3 a4 a5) (.str "cut") = some (.loc a3) := by simp [dGet, keyEq]
  rcases f with rfl | ⟨i, rfl⟩ | ⟨s, rfl, k⟩
  · simp [l__law_due_3, ht, hd, hg, hl, e, q, badV, inN]
  · simp [l__law_due_3, ht, hd, hg, hl, e, q, badV, inI]
  · by_cases z : s ∈ os3 <;> simp [l__law_due_3, ht, hd, hg, hl, e, q, badV, inF_str, z]
theorem dr4 (ht : h[t]? = some (.lst [v0, w1, w2, .loc d, w4])) (hd : h[d]? = some (.dct kvs)) (hg : h[g]? = some (.lck (gdR a1 a2 a3 a4 a5))) (hl : h[a4]? = some (.lst (os4.map .str))) (e : dGet kvs (.str "spread") = some v) (f : FV v) :
    l__law_due_3 (envW t g x (some (.str "spread"))) h = if badV os4 v = true then .ret (.tup [.str "rule", .str "spread"]) h else .nx (envW t g x (some (.str "spread"))) h := by
  have q : dGet (gdR a1 a2 a3 a4 a5) (.str "spread") = some (.loc a4) := by simp [dGet, keyEq]
  rcases f with rfl | ⟨i, rfl⟩ | ⟨s, rfl, k⟩
  · simp [l__law_due_3, ht, hd, hg, hl, e, q, badV, inN]
  · simp [l__law_due_3, ht, hd, hg, hl, e, q, badV, inI]
  · by_cases z : s ∈ os4 <;> simp [l__law_due_3, ht, hd, hg, hl, e, q, badV, inF_str, z]
theorem dr5 (ht : h[t]? = some (.lst [v0, w1, w2, .loc d, w4])) (hd : h[d]? = some (.dct kvs)) (hg : h[g]? = some (.lck (gdR a1 a2 a3 a4 a5))) (hl : h[a5]? = some (.lst (os5.map .str))) (e : dGet kvs (.str "tie") = some v) (f : FV v) :
    l__law_due_3 (envW t g x (some (.str "tie"))) h = if badV os5 v = true then .ret (.tup [.str "rule", .str "tie"]) h else .nx (envW t g x (some (.str "tie"))) h := by
  have q : dGet (gdR a1 a2 a3 a4 a5) (.str "tie") = some (.loc a5) := by simp [dGet, keyEq]
  rcases f with rfl | ⟨i, rfl⟩ | ⟨s, rfl, k⟩
  · simp [l__law_due_3, ht, hd, hg, hl, e, q, badV, inN]
  · simp [l__law_due_3, ht, hd, hg, hl, e, q, badV, inI]
  · by_cases z : s ∈ os5 <;> simp [l__law_due_3, ht, hd, hg, hl, e, q, badV, inF_str, z]
theorem due5_has (ht : h[t]? = some (.lst [v0, w1, w2, .loc d, w4])) (hd : h[d]? = some (.dct kvs)) (G : GPt h g a1 a2 a3 a4 a5) (n1 : t ≠ g) (n2 : d ≠ g) (H : Has kvs v1 v2 v3 v4 v5) : dueR5 (envW t g x none) h = .nx (envW t g x none) h := by
  have hg := G.g
  obtain ⟨n, e1, e2, e3, e4, e5, f1, f2, f3, f4, f5⟩ := H
  have ht' : (h.set g (.lck (gdR a1 a2 a3 a4 a5)))[t]? = some (.lst [v0, w1, w2, .loc d, w4]) := by rw [List.getElem?_set_ne n1.symm, ht]
  have hd' : (h.set g (.lck (gdR a1 a2 a3 a4 a5)))[d]? = some (.dct kvs) := by rw [List.getElem?_set_ne n2.symm, hd]
  have hg' : (h.set g (.lck (gdR a1 a2 a3 a4 a5)))[g]? = some (.lck (gdR a1 a2 a3 a4 a5)) := at_set hg
  have hs := set_same hg
  simp [dueR5, ht, hd, eqA_int, n, xLock, pickE, hg, lComp, iKeysL, keysOf, wipeA, hg', ht', hd', l__law_due_2, e1, e2, e3, e4, e5, unlockR, blsOf, hs]
theorem due5_lacks (ht : h[t]? = some (.lst [v0, w1, w2, .loc d, w4])) (hd : h[d]? = some (.dct kvs)) (G : GPt h g a1 a2 a3 a4 a5) (n1 : t ≠ g) (n2 : d ≠ g) (H : Lacks kvs) : dueR5 (envW t g x none) h = .ret (.tup [.str "rule", .str ""]) h := by
  have hg := G.g
  have ht' : (h.set g (.lck (gdR a1 a2 a3 a4 a5)))[t]? = some (.lst [v0, w1, w2, .loc d, w4]) := by rw [List.getElem?_set_ne n1.symm, ht]
  have hd' : (h.set g (.lck (gdR a1 a2 a3 a4 a5)))[d]? = some (.dct kvs) := by rw [List.getElem?_set_ne n2.symm, hd]
  have hg' : (h.set g (.lck (gdR a1 a2 a3 a4 a5)))[g]? = some (.lck (gdR a1 a2 a3 a4 a5)) := at_set hg
  have hs := set_same hg
  by_cases n : kvs.length = 5
  · rcases H with H | H | H | H | H | H
    · exact absurd n H
    all_goals simp [dueR5, ht, hd, eqA_int, n, xLock, pickE, hg, lComp, iKeysL, keysOf, wipeA, hg', ht', hd', l__law_due_2, H, unlockR, blsOf, hs]
  · have n' : ¬ (kvs.length : Int) = 5 := by omega
    simp [dueR5, ht, hd, eqA_int, n']
theorem due5_non (ht : h[t]? = some (.lst [v0, w1, w2, .non, w4])) : dueR5 (envW t g x none) h = .ret (.tup [.str "rule", .str ""]) h := by
  simp [dueR5, ht]
theorem due5_str {s : Str} (ht : h[t]? = some (.lst [v0, w1, w2, .str s, w4])) : dueR5 (envW t g x none) h = .ret (.tup [.str "rule", .str ""]) h := by
  simp [dueR5, ht]
theorem due5_lst {xs : List AV} (ht : h[t]? = some (.lst [v0, w1, w2, .loc d, w4])) (hd : h[d]? = some (.lst xs)) : dueR5 (envW t g x none) h = .ret (.tup [.str "rule", .str ""]) h := by
  simp [dueR5, ht, hd]
theorem due6_has (ht : h[t]? = some (.lst [v0, w1, w2, .loc d, w4])) (hd : h[d]? = some (.dct kvs)) (G : GPt h g a1 a2 a3 a4 a5) (n1 : t ≠ g) (n2 : d ≠ g) (H : Has kvs v1 v2 v3 v4 v5) : dueR6 (envW t g x none) h = match firstR v1 v2 v3 v4 v5 with
    | some p => .ret (.tup [.str "rule", .str p]) h
    | none => .nx (envW t g x (some (.str "tie"))) h := by
  obtain ⟨hg, l1, l2, l3, l4, l5⟩ := G
  obtain ⟨n, e1, e2, e3, e4, e5, f1, f2, f3, f4, f5⟩ := H
  have ht' : (h.set g (.lck (gdR a1 a2 a3 a4 a5)))[t]? = some (.lst [v0, w1, w2, .loc d, w4]) := by rw [List.getElem?_set_ne n1.symm, ht]
  have hd' : (h.set g (.lck (gdR a1 a2 a3 a4 a5)))[d]? = some (.dct kvs) := by rw [List.getElem?_set_ne n2.symm, hd]
  have hg' : (h.set g (.lck (gdR a1 a2 a3 a4 a5)))[g]? = some (.lck (gdR a1 a2 a3 a4 a5)) := at_set hg
  have keep : ∀ (a : Nat) (os : List Str), h[a]? = some (.lst (os.map .str)) → (h.set g (.lck (gdR a1 a2 a3 a4 a5)))[a]? = some (.lst (os.map .str)) := fun a os e => by
    rw [List.getElem?_set_ne (fun z => by subst z; rw [hg] at e; cases e), e]
  have s1 := dr1 (x := x) ht' hd' hg' (keep _ _ l1) e1 f1
  have s2 := dr2 (x := x) ht' hd' hg' (keep _ _ l2) e2 f2
  have s3 := dr3 (x := x) ht' hd' hg' (keep _ _ l3) e3 f3
  have s4 := dr4 (x := x) ht' hd' hg' (keep _ _ l4) e4 f4
  have s5 := dr5 (x := x) ht' hd' hg' (keep _ _ l5) e5 f5
  have hs := set_same hg
  unfold firstR
  by_cases b1 : badV os1 v1 = true
  · simp [dueR6, sLock, pickE, hg, iKeysL, keysOf, hg', unlockS, hs, s1, b1]
  · by_cases b2 : badV os2 v2 = true
    · simp [dueR6, sLock, pickE, hg, iKeysL, keysOf, hg', unlockS, hs, s1, b1, s2, b2]
    · by_cases b3 : badV os3 v3 = true
      · simp [dueR6, sLock, pickE, hg, iKeysL, keysOf, hg', unlockS, hs, s1, b1, s2, b2, s3, b3]
      · by_cases b4 : badV os4 v4 = true
        · simp [dueR6, sLock, pickE, hg, iKeysL, keysOf, hg', unlockS, hs, s1, b1, s2, b2, s3, b3, s4, b4]
        · by_cases b5 : badV os5 v5 = true
          · simp [dueR6, sLock, pickE, hg, iKeysL, keysOf, hg', unlockS, hs, s1, b1, s2, b2, s3, b3, s4, b4, s5, b5]
          · simp [dueR6, sLock, pickE, hg, iKeysL, keysOf, hg', unlockS, hs, s1, b1, s2, b2, s3, b3, s4, b4, s5, b5]
end
end K06
set_option maxRecDepth 100000
namespace K06
open PA
open PySem (Str)
def dueW : SS := (sSeq (sSet 4 (eLst (lCons (eC (.str "cut")) (lCons (eC (.str "drop")) (lCons (eC (.str "loose")) (lCons (eC (.str "reset")) (lCons (eC (.str "tie")) lNil))))))) (sSeq (sIf (tOr (tNot (tB (eCall bIsi (lCons (eBin oIx (eVar 0) (eC (.int 4))) (lCons (eC (.ty "tuple")) lNil))))) (tNot (tB (eAllOf (lComp (iTup (eBin oIx (eVar 0) (eC (.int 4)))) (PA.gName 5) tYes l__law_due_4 [5]))))) (sRet (eC (.str "words"))) sNil) (sRet (eIf (tB (eBin oEq (eCall bList (lCons (eBin oIx (eVar 0) (eC (.int 4))) lNil)) (eSortSet (eBin oIx (eVar 0) (eC (.int 4)))))) (eC .non) (eC (.str "words"))))))
theorem dat_lst {h : PA.Heap} {l : Nat} {ws : List Str} (e : h[l]? = some (.lst (ws.map .str))) : datH h 40 (.loc l) = some (PySem.PyData.list (ws.map PySem.PyData.str)) := by
  show (match h[l]? with
    | some (.lst xs) => (datsW (datH h 39) xs).map PySem.PyData.list
    | _ => none) = _
  rw [e]
  dsimp only
  rw [dat_strs]
  rfl
theorem shaped_strs {ws : List Str} (hk : ∀ w ∈ ws, sok w) : PySem.SeqAt.shaped (PySem.PyData.list (ws.map PySem.PyData.str)) = true := by
  have := lay_strs ws hk
  unfold PySem.SeqAt.shaped
  simp [PySem.PyData.canLay0, PySem.PyData.depth, this]
theorem eqA_lsts {h : PA.Heap} {a b : Nat} {xs ys : List Str} (e1 : h[a]? = some (.lst (xs.map .str))) (e2 : h[b]? = some (.lst (ys.map .str))) (k1 : ∀ w ∈ xs, sok w) (k2 : ∀ w ∈ ys, sok w) : eqA h (.loc a) (.loc b) = some (PySem.PyData.eqv (PySem.PyData.list (xs.map PySem.PyData.str)) (PySem.PyData.list (ys.map PySem.PyData.str))) :=
  eqA_of (dat_lst e1) (dat_lst e2) (shaped_strs k1) (shaped_strs k2)
theorem lst_eq {h : PA.Heap} {a b : Nat} {xs : List Str} (e1 : h[a]? = some (.lst (xs.map .str))) (e2 : h[b]? = some (.lst (xs.map .str))) (k1 : ∀ w ∈ xs, sok w) : eqA h (.loc a) (.loc b) = some true :=
  eqA_same (dat_lst e1) (dat_lst e2) (shaped_strs k1)
/-- tuples of words that are told oddly -/
def oddW : List (List AV) := [[.str "tie", .str "cut"], [.str "cut", .str "cut"], [.str "change"], [.int 1]]
section
variable {h : PA.Heap} {t g : Nat} {v0 w1 w2 v3 : AV} {x y : Option AV} {ws : List Str}
theorem aw_odd : ∀ xs ∈ oddW, ∃ k, f_are_words [.tup xs] h = .ok (.bl false) (h ++ k) := by
  intro xs hx
  have s1 : sortD (["tie", "cut"] : List Str) = (["cut", "tie"] : List Str) := by decide +kernel
  have s2 : sortD (["cut", "cut"] : List Str) = (["cut"] : List Str) := by decide +kernel
  have i1 : inF (.str "tie") [.str "cut", .str "drop", .str "loose", .str "reset", .str "tie"] = true := inF_in (os := WORDS) (by decide +kernel)
  have i2 : inF (.str "cut") [.str "cut", .str "drop", .str "loose", .str "reset", .str "tie"] = true := inF_in (os := WORDS) (by decide +kernel)
  have i3 : inF (.str "change") [.str "cut", .str "drop", .str "loose", .str "reset", .str "tie"] = false := by decide +kernel
  have k1 : ∀ w ∈ (["tie", "cut"] : List Str), sok w := by decide +kernel
  have k2 : ∀ w ∈ (["cut", "tie"] : List Str), sok w := by decide +kernel
  have k3 : ∀ w ∈ (["cut", "cut"] : List Str), sok w := by decide +kernel
  have k4 : ∀ w ∈ (["cut"] : List Str), sok w := by decide +kernel
  have q1 : PySem.PyData.eqv (PySem.PyData.list ((["tie", "cut"] : List Str).map PySem.PyData.str)) (PySem.PyData.list ((["cut", "tie"] : List Str).map PySem.PyData.str)) = false := by decide +kernel
  have q2 : PySem.PyData.eqv (PySem.PyData.list ((["cut", "cut"] : List Str).map PySem.PyData.str)) (PySem.PyData.list ((["cut"] : List Str).map PySem.PyData.str)) = false := by decide +kernel
  have e1 := eqA_lsts (h := h ++ [.lst ((["tie", "cut"] : List Str).map .str), .lst ((["cut", "tie"] : List Str).map .str)]) (a := h.length) (b := h.length + 1) (by simp) (by simp) k1 k2
  have e2 := eqA_lsts (h := h ++ [.lst ((["cut", "cut"] : List Str).map .str), .lst ((["cut"] : List Str).map .str)]) (a := h.length) (b := h.length + 1) (by simp) (by simp) k3 k4
  rw [q1] at e1
  rw [q2] at e2
  simp at s1 s2 i1 i2 i3 e1 e2
  unfold oddW at hx
  simp only [List.mem_cons, List.not_mem_nil, or_false] at hx
  unfold f_are_words b_are_words
  rcases hx with rfl | rfl | rfl | rfl
  · exact ⟨[.lst [.str "tie", .str "cut"], .lst [.str "cut", .str "tie"]], by simp [lComp, wipeA, l_are_words_1, i1, i2, flat, blsOf, eSortSet, strsOf, s1, e1]⟩
  · exact ⟨[.lst [.str "cut", .str "cut"], .lst [.str "cut"]], by simp [lComp, wipeA, l_are_words_1, i1, i2, flat, blsOf, eSortSet, strsOf, s2, e2]⟩
  · exact ⟨[], by simp [lComp, wipeA, l_are_words_1, i3, flat, blsOf]⟩
  · exact ⟨[], by simp [lComp, wipeA, l_are_words_1, flat, blsOf]⟩
theorem aw_non : f_are_words [.non] h = .ok (.bl false) h := by
  unfold f_are_words b_are_words
  simp
theorem aw_lst {l : Nat} {xs : List AV} (e : h[l]? = some (.lst xs)) : f_are_words [.loc l] h = .ok (.bl false) h := by
  unfold f_are_words b_are_words
  simp [e]
theorem dw_non (ht : h[t]? = some (.lst [v0, w1, w2, v3, .non])) : ∃ h', dueW (envW t g x y) h = .ret (.str "words") h' := by
  have ht' : ∀ k : PA.Heap, (h ++ k)[t]? = some (.lst [v0, w1, w2, v3, .non]) := fun k => by rw [get_app (by rw [ht]; rfl), ht]
  exact ⟨_, by simp [dueW, ht, ht']; rfl⟩
theorem dw_lst {l : Nat} {xs : List AV} (ht : h[t]? = some (.lst [v0, w1, w2, v3, .loc l])) (hl : h[l]? = some (.lst xs)) : ∃ h', dueW (envW t g x y) h = .ret (.str "words") h' := by
  have ht' : ∀ k : PA.Heap, (h ++ k)[t]? = some (.lst [v0, w1, w2, v3, .loc l]) := fun k => by rw [get_app (by rw [ht]; rfl), ht]
  have hl' : ∀ k : PA.Heap, (h ++ k)[l]? = some (.lst xs) := fun k => by rw [get_app (by rw [hl]; rfl), hl]
  exact ⟨_, by simp [dueW, ht, ht', hl']; rfl⟩
theorem dw_odd {xs : List AV} (hx : xs ∈ oddW) (ht : h[t]? = some (.lst [v0, w1, w2, v3, .tup xs])) : ∃ h', dueW (envW t g x y) h = .ret (.str "words") h' := by
  have ht' : ∀ k : PA.Heap, (h ++ k)[t]? = some (.lst [v0, w1, w2, v3, .tup xs]) := fun k => by rw [get_app (by rw [ht]; rfl), ht]
  have s1 : sortD (["tie", "cut"] : List Str) = (["cut", "tie"] : List Str) := by decide +kernel
  have s2 : sortD (["cut", "cut"] : List Str) = (["cut"] : List Str) := by decide +kernel
  have i1 : inF (.str "tie") [.str "cut", .str "drop", .str "loose", .str "reset", .str "tie"] = true := inF_in (os := WORDS) (by decide +kernel)
  have i2 : inF (.str "cut") [.str "cut", .str "drop", .str "loose", .str "reset", .str "tie"] = true := inF_in (os := WORDS) (by decide +kernel)
  have i3 : inF (.str "change") [.str "cut", .str "drop", .str "loose", .str "reset", .str "tie"] = false := by decide +kernel
  have k1 : ∀ w ∈ (["tie", "cut"] : List Str), sok w := by decide +kernel
  have k2 : ∀ w ∈ (["cut", "tie"] : List Str), sok w := by decide +kernel
  have k3 : ∀ w ∈ (["cut", "cut"] : List Str), sok w := by decide +kernel
  have k4 : ∀ w ∈ (["cut"] : List Str), sok w := by decide +kernel
  have q1 : PySem.PyData.eqv (PySem.PyData.list ((["tie", "cut"] : List Str).map PySem.PyData.str)) (PySem.PyData.list ((["cut", "tie"] : List Str).map PySem.PyData.str)) = false := by decide +kernel
  have q2 : PySem.PyData.eqv (PySem.PyData.list ((["cut", "cut"] : List Str).map PySem.PyData.str)) (PySem.PyData.list ((["cut"] : List Str).map PySem.PyData.str)) = false := by decide +kernel
  have e1 := eqA_lsts (h := h ++ [.lst (WORDS.map .str), .lst ((["tie", "cut"] : List Str).map .str), .lst ((["cut", "tie"] : List Str).map .str)]) (a := h.length + 1) (b := h.length + 2) (by simp) (by simp) k1 k2
  have e2 := eqA_lsts (h := h ++ [.lst (WORDS.map .str), .lst ((["cut", "cut"] : List Str).map .str), .lst ((["cut"] : List Str).map .str)]) (a := h.length + 1) (b := h.length + 2) (by simp) (by simp) k3 k4
  rw [q1] at e1
  rw [q2] at e2
  simp at s1 s2 i1 i2 i3 e1 e2
  unfold oddW at hx
  simp only [List.mem_cons, List.not_mem_nil, or_false] at hx
  rcases hx with rfl | rfl | rfl | rfl
  · exact ⟨_, by simp [dueW, ht, ht', lComp, wipeA, l__law_due_4, i1, i2, flat, blsOf, eSortSet, strsOf, s1, e1]; rfl⟩
  · exact ⟨_, by simp [dueW, ht, ht', lComp, wipeA, l__law_due_4, i1, i2, flat, blsOf, eSortSet, strsOf, s2, e2]; rfl⟩
  · exact ⟨_, by simp [dueW, ht, ht', lComp, wipeA, l__law_due_4, i3, flat, blsOf]; rfl⟩
  · exact ⟨_, by simp [dueW, ht, ht', lComp, wipeA, l__law_due_4, flat, blsOf]; rfl⟩
theorem dw_ok (hw : ws.Sublist WORDS) (ht : h[t]? = some (.lst [v0, w1, w2, v3, .tup (ws.map .str)])) : ∃ h', dueW (envW t g x y) h = .ret .non h' := by
  have ht' : ∀ k : PA.Heap, (h ++ k)[t]? = some (.lst [v0, w1, w2, v3, .tup (ws.map .str)]) := fun k => by rw [get_app (by rw [ht]; rfl), ht]
  have hmem := mem_subl hw
  have hs := sort_words ws hmem
  have hl : ws.length ≤ 5 := hw.length_le
  let h1 : PA.Heap := h ++ [.lst (WORDS.map .str)]
  have key : lComp (iTup (eBin oIx (eVar 0) (eC (.int 4)))) (PA.gName 5) tYes l__law_due_4 [5] [some (.loc t), x, some (.loc g), y, some (.loc h.length), none] h1 = .ok ((ws.map AV.str).map fun _ => .bl true) h1 := by
    refine lcomp_map (items := fun _ => some (ws.map .str)) _ (by simp [h1, ht']) rfl (by simp; omega) fun x hx => ?_
    obtain ⟨w, hx2, rfl⟩ := List.mem_map.mp hx
    have e1 : inF (.str w) [.str "cut", .str "drop", .str "loose", .str "reset", .str "tie"] = true := inF_in (os := WORDS) (hw.subset hx2)
    refine ⟨_, rfl, ?_⟩
    simp [l__law_due_4, wipeA, e1, flat, h1]
  rw [List.map_const', ← List.map_replicate] at key
  have he := lst_eq (h := h ++ [.lst (WORDS.map .str), .lst (ws.map .str), .lst (ws.map .str)]) (a := h.length + 1) (b := h.length + 2) (xs := ws) (by simp) (by simp) fun w hx => words_sok w (hw.subset hx)
  have h63 : ws.length < 64 := by omega
  refine ⟨h ++ [.lst (WORDS.map .str), .lst (ws.map .str), .lst (ws.map .str)], ?_⟩
  dsimp only [h1] at key
  simp at key he
  simp [dueW, ht, ht', key, bls_rep, eSortSet, strs_map, hs, h63, he]
end
end K06
set_option maxRecDepth 100000
namespace K06
open PA
open PySem (Str)
section
variable {h : PA.Heap} {t d o : Nat} {kvs : List (AV × AV)} {v0 v1 v2 v3 v4 x1 x2 x3 x4 x5 : AV} {g : PA.Heap}
abbrev bookF (v0 v1 v2 : AV) (p : Nat) (v4 : AV) : List (Str × AV) := [("tops", v0), ("many_fields", v1), ("many_values", v2), ("points", .loc p), ("told_words", v4)]
abbrev ruleF (x1 x2 x3 x4 x5 : AV) : List (AV × AV) := [(.str "above", x1), (.str "back", x2), (.str "cut", x3), (.str "spread", x4), (.str "tie", x5)]
theorem init_all (ho : h[o]? = some (.ins "Book" [])) (hd : h[d]? = some (.dct kvs)) (H : Has kvs x1 x2 x3 x4 x5) (hm : f_are_masters [v0] h = .ok (.bl true) h) (hb1 : f_is_between [v1, .int 1, .int 2] h = .ok (.bl true) h) (hb2 : f_is_between [v2, .int 2, .int 3] h = .ok (.bl true) h)
    (hr : f_look_at_rule [.loc d] h = .ok .non h) (hw : f_are_words [v4] h = .ok (.bl true) (h ++ g)) :
    ∃ h' p, f_Book___init__ [.loc o, v0, v1, v2, .loc d, v4] h = .ok .non h' ∧ h'[o]? = some (.ins "Book" (bookF v0 v1 v2 p v4)) ∧ h'[p]? = some (.dct (ruleF x1 x2 x3 x4 x5)) ∧ h.length ≤ p ∧ Fr [o] h h' := by
  have od : o ≠ d := fun z => by subst z; rw [ho] at hd; cases hd
  have ol := lt_of_at ho
  obtain ⟨n, e1, e2, e3, e4, e5, _, _, _, _, _⟩ := H
  have key : ∀ (fs : List (Str × AV)), eDc (iKeysK ks_POINTS) (PA.gName 6) tYes l_Book___init___1 l_Book___init___2 [6] [some (.loc o), some v0, some v1, some v2, some (.loc d), some v4, none] ((h ++ g).set o (.ins "Book" fs))
      = .ok (.loc (h ++ g).length) ((h ++ g).set o (.ins "Book" fs) ++ [.dct (ruleF x1 x2 x3 x4 x5)]) := fun fs => by
    refine (dc_pure (items := fun _ => some PK) (fun x => x) (fun x => match x with
      | .str z => if z = "above" then x1 else if z = "back" then x2 else if z = "cut" then x3 else if z = "spread" then x4 else x5
      | _ => .non) (by simp [ks_eq]) rfl (by simp) fun x hx => ?_).trans (by simp [dPut, keyEq])
    refine ⟨_, rfl, ?_⟩
    have hd' : ((h ++ g).set o (.ins "Book" fs))[d]? = some (.dct kvs) := by rw [List.getElem?_set_ne od]; simp [hd]
    simp at hx
    rcases hx with rfl | rfl | rfl | rfl | rfl <;> simp [l_Book___init___1, l_Book___init___2, wipeA, hd', e1, e2, e3, e4, e5]
  let fs : List (Str × AV) := [("tops", v0), ("many_fields", v1), ("many_values", v2)]
  refine ⟨((h ++ g).set o (.ins "Book" fs) ++ [AO.dct (ruleF x1 x2 x3 x4 x5)]).set o (AO.ins "Book" (fs ++ [(Str.ofString "points", AV.loc (h ++ g).length), (Str.ofString "told_words", v4)])), (h ++ g).length, ?_, ?_⟩
  · unfold f_Book___init__ b_Book___init__
    simp [hm, hb1, hb2, hr, hw, ho, key, putF]
    simp [fs]
  · have e0 : ((h ++ g).set o (AO.ins "Book" fs))[o]? = some (AO.ins "Book" fs) := by simp [ho]
    have f1 : Fr [o] h ((h ++ g).set o (AO.ins "Book" fs)) := (Fr.push g).trans (Fr.set)
    have f2 : Fr [o] ((h ++ g).set o (AO.ins "Book" fs)) ((h ++ g).set o (AO.ins "Book" fs) ++ [AO.dct (ruleF x1 x2 x3 x4 x5)]) := Fr.push _
    refine ⟨?_, ?_, by simp, (f1.trans f2).trans Fr.set⟩
    · rw [get_set (by rw [get_app (by rw [e0]; rfl), e0]; rfl)]
      rfl
    · rw [List.getElem?_set_ne (by simp; omega)]
      have : ((h ++ g).set o (AO.ins "Book" fs)).length = (h ++ g).length := by simp
      rw [← this, get_len]
      rfl
theorem init_m (hm : f_are_masters [v0] h = .ok (.bl false) h) : f_Book___init__ [.loc o, v0, v1, v2, v3, v4] h = .exc ⟨"InvalidMasters", []⟩ h := by
  unfold f_Book___init__ b_Book___init__
  simp [hm]
theorem init_s {b1 b2 : Bool} (hm : f_are_masters [v0] h = .ok (.bl true) h) (hb1 : f_is_between [v1, .int 1, .int 2] h = .ok (.bl b1) h) (hb2 : f_is_between [v2, .int 2, .int 3] h = .ok (.bl b2) h) (hb : (b1 && b2) = false) : f_Book___init__ [.loc o, v0, v1, v2, v3, v4] h = .exc ⟨"InvalidSize", []⟩ h := by
  unfold f_Book___init__ b_Book___init__
  cases b1 <;> cases b2 <;> simp at hb <;> simp [hm, hb1, hb2]
theorem init_r {p : Str} (hm : f_are_masters [v0] h = .ok (.bl true) h) (hb1 : f_is_between [v1, .int 1, .int 2] h = .ok (.bl true) h) (hb2 : f_is_between [v2, .int 2, .int 3] h = .ok (.bl true) h) (hr : f_look_at_rule [v3] h = .exc (exR p) h) : f_Book___init__ [.loc o, v0, v1, v2, v3, v4] h = .exc (exR p) h := by
  unfold f_Book___init__ b_Book___init__
  simp [hm, hb1, hb2, hr]
theorem init_w (hm : f_are_masters [v0] h = .ok (.bl true) h) (hb1 : f_is_between [v1, .int 1, .int 2] h = .ok (.bl true) h) (hb2 : f_is_between [v2, .int 2, .int 3] h = .ok (.bl true) h) (hr : f_look_at_rule [v3] h = .ok .non h) (hw : f_are_words [v4] h = .ok (.bl false) (h ++ g)) : f_Book___init__ [.loc o, v0, v1, v2, v3, v4] h = .exc ⟨"InvalidWords", []⟩ (h ++ g) := by
  unfold f_Book___init__ b_Book___init__
  simp [hm, hb1, hb2, hr, hw]
/-! ### what is told of a book's parts -/
inductive MV (h : PA.Heap) : AV → Bool → Prop
  | good {xs : List AV} : xs ∈ goodM → MV h (.tup xs) true
  | odd {xs : List AV} : xs ∈ oddM → MV h (.tup xs) false
  | non : MV h .non false
  | lst {l : Nat} {ys : List AV} : h[l]? = some (.lst ys) → MV h (.loc l) false
inductive SV : AV → Prop
  | int (i : Int) : SV (.int i)
  | bl (b : Bool) : SV (.bl b)
  | non : SV .non
  | str (s : Str) : SV (.str s)
def btw (a b : Int) : AV → Bool
  | .int i => decide (a ≤ i) && decide (i ≤ b)
  | _ => false
inductive RlV (h : PA.Heap) : AV → Prop
  | dct {d : Nat} {kvs : List (AV × AV)} : h[d]? = some (.dct kvs) → KOk kvs → RlV h (.loc d)
  | lst {d : Nat} {ys : List AV} : h[d]? = some (.lst ys) → RlV h (.loc d)
  | non : RlV h .non
  | str (s : Str) : RlV h (.str s)
inductive WV (h : PA.Heap) : AV → Bool → Prop
  | ok {ws : List Str} : ws.Sublist WORDS → WV h (.tup (ws.map .str)) true
  | odd {xs : List AV} : xs ∈ oddW → WV h (.tup xs) false
  | non : WV h .non false
  | lst {l : Nat} {ys : List AV} : h[l]? = some (.lst ys) → WV h (.loc l) false
theorem MV.run {b : Bool} (m : MV h v0 b) : f_are_masters [v0] h = .ok (.bl b) h := by
  cases m with
  | good hx => exact am_good _ hx
  | odd hx => exact am_odd _ hx
  | non => exact am_non
  | lst e => exact am_lst e
theorem SV.run {a b : Int} (m : SV v0) : f_is_between [v0, .int a, .int b] h = .ok (.bl (btw a b v0)) h := by
  cases m <;> simp [btw]
theorem SV.law {a b : Int} (m : SV v0) : f__law_int [v0, .int a, .int b] h = .ok (.bl (btw a b v0)) h := by
  cases m <;> simp [btw]
theorem WV.run {b : Bool} (m : WV h v0 b) : ∃ g, f_are_words [v0] h = .ok (.bl b) (h ++ g) := by
  cases m with
  | ok hw => exact words_ok hw
  | odd hx => exact aw_odd _ hx
  | non => exact ⟨[], by rw [aw_non, List.append_nil]⟩
  | lst e => exact ⟨[], by rw [aw_lst e, List.append_nil]⟩
/-- a rule's fault, or its words -/
def RlR (h : PA.Heap) (v : AV) (r : Option Str) : Prop := f_look_at_rule [v] h = outR r h ∧ (r = none → ∃ d kvs x1 x2 x3 x4 x5, v = .loc d ∧ h[d]? = some (.dct kvs) ∧ Has kvs x1 x2 x3 x4 x5)
theorem RlV.run (m : RlV h v0) : ∃ r, RlR h v0 r := by
  cases m with
  | @dct d kvs e K =>
    rcases has_or K with L | ⟨x1, x2, x3, x4, x5, H⟩
    · exact ⟨some "", look_lacks e L, fun z => nomatch z⟩
    · exact ⟨_, look_has e H, fun _ => ⟨d, kvs, x1, x2, x3, x4, x5, rfl, e, H⟩⟩
  | lst e => exact ⟨some "", look_lst e, fun z => nomatch z⟩
  | non => exact ⟨some "", look_non, fun z => nomatch z⟩
  | str s => exact ⟨some "", look_str, fun z => nomatch z⟩
def tellV (bm bs : Bool) (r : Option Str) (bw : Bool) : AV := if bm = false then .str "masters" else if bs = false then .str "size" else match r with
  | some p => .tup [.str "rule", .str p]
  | none => if bw = true then .non else .str "words"
/-- the parts of a book that is told, as they lie in a list -/
structure Tl (h : PA.Heap) (t : Nat) (v0 v1 v2 v3 v4 : AV) (bm bw : Bool) : Prop where
  t : h[t]? = some (.lst [v0, v1, v2, v3, v4])
  m : MV h v0 bm
  s1 : SV v1
  s2 : SV v2
  r : RlV h v3
  w : WV h v4 bw
variable {bm bw : Bool}
/-- told, asked twice: the program, the law -/
theorem RlR.keep {h' : PA.Heap} {r : Option Str} (hr : RlR h v3 r) (T4 : RlV h v3) (f : Fr [] h h') : RlR h' v3 r := by
    have up : ∀ {l : Nat} {o : AO}, h[l]? = some o → h'[l]? = some o := fun {l o} e => f.at_ _ _ (by simp) e
    obtain ⟨q1, q2⟩ := hr
    have q3 : f_look_at_rule [v3] h' = outR r h' := by
      cases T4 with
      | @dct d kvs e K =>
        rcases has_or K with L | ⟨x1, x2, x3, x4, x5, H⟩
        · rw [look_lacks (up e) L]
          rw [look_lacks e L] at q1
          cases r with
          | none => cases q1
          | some p => cases q1; rfl
        · rw [look_has (up e) H]
          rw [look_has e H] at q1
          cases z : firstR x1 x2 x3 x4 x5 with
          | none =>
            rw [z] at q1
            cases r with
            | none => rfl
            | some p => cases q1
          | some p' =>
            rw [z] at q1
            cases r with
            | none => cases q1
            | some p => cases q1; rfl
      | lst e =>
        rw [look_lst (up e)]
        rw [look_lst e] at q1
        cases r with
        | none => cases q1
        | some p => cases q1; rfl
      | non =>
        rw [look_non]
        rw [look_non] at q1
        cases r with
        | none => cases q1
        | some p => cases q1; rfl
      | str s =>
        rw [look_str]
        rw [look_str] at q1
        cases r with
        | none => cases q1
        | some p => cases q1; rfl
    refine ⟨q3, fun z => ?_⟩
    obtain ⟨d, kvs, x1, x2, x3, x4, x5, a, b, c⟩ := q2 z
    exact ⟨d, kvs, x1, x2, x3, x4, x5, a, up b, c⟩
theorem told_ok (T : Tl h t v0 v1 v2 v3 v4 bm bw) {r : Option Str} (hr : RlR h v3 r) : ∃ h', f__law_told [.loc t] h = .ok (tellV bm (btw 1 2 v1 && btw 2 3 v2) r bw) h' ∧ Fr [] h h' := by
  obtain ⟨T0, T1, T2, T3, T4, T5⟩ := T
  let g : PA.Heap := h ++ [.ins "Book" []]
  have ho : g[h.length]? = some (.ins "Book" []) := by simp [g]
  have up : ∀ {l : Nat} {o : AO}, h[l]? = some o → g[l]? = some o := fun {l o} e => by
    show (h ++ _)[l]? = _
    rw [get_app (by rw [e]; rfl), e]
  have m1 : MV g v0 bm := by
    cases T1 with
    | good hx => exact .good hx
    | odd hx => exact .odd hx
    | non => exact .non
    | lst e => exact .lst (up e)
  have w1 : WV g v4 bw := by
    cases T5 with
    | ok hx => exact .ok hx
    | odd hx => exact .odd hx
    | non => exact .non
    | lst e => exact .lst (up e)
  have r1 : RlV g v3 := by
    cases T4 with
    | dct e K => exact .dct (up e) K
    | lst e => exact .lst (up e)
    | non => exact .non
    | str s => exact .str s
  have hr1 : RlR g v3 r := hr.keep T4 (Fr.push _)
  have hm := m1.run
  have hs1 := T2.run (h := g) (a := 1) (b := 2)
  have hs2 := T3.run (h := g) (a := 2) (b := 3)
  obtain ⟨k, hw⟩ := w1.run
  obtain ⟨q1, q2⟩ := hr1
  cases bm with
  | false =>
    have i := init_m (o := h.length) (v1 := v1) (v2 := v2) (v3 := v3) (v4 := v4) hm
    refine ⟨g, ?_, Fr.push _⟩
    dsimp only [g] at i
    unfold f__law_told b__law_told tellV
    simp [l__law_told_1, T0, i, catchA, offE, offS, g]
  | true =>
    cases sb : (btw 1 2 v1 && btw 2 3 v2) with
    | false =>
      have i := init_s (o := h.length) (v3 := v3) (v4 := v4) hm hs1 hs2 sb
      refine ⟨g, ?_, Fr.push _⟩
      dsimp only [g] at i
      unfold f__law_told b__law_told tellV
      simp [l__law_told_1, T0, i, catchA, offE, offS, g]
    | true =>
      rw [Bool.and_eq_true] at sb
      obtain ⟨sb1, sb2⟩ := sb
      rw [sb1] at hs1
      rw [sb2] at hs2
      cases r with
      | some p =>
        have i := init_r (o := h.length) (v4 := v4) hm hs1 hs2 q1
        refine ⟨g, ?_, Fr.push _⟩
        dsimp only [g] at i
        unfold f__law_told b__law_told tellV
        simp [l__law_told_1, T0, i, catchA, offE, offS, g, xTup2, xFld]
      | none =>
        cases bw with
        | false =>
          have i := init_w (o := h.length) hm hs1 hs2 q1 hw
          refine ⟨g ++ k, ?_, (Fr.push _).trans (Fr.push _)⟩
          dsimp only [g] at i
          unfold f__law_told b__law_told tellV
          simp at i
          simp [l__law_told_1, T0, i, catchA, offE, offS, g]
        | true =>
          obtain ⟨d, kvs, x1, x2, x3, x4, x5, rfl, hd, H⟩ := q2 rfl
          obtain ⟨h', p, e, _, _, _, fi⟩ := init_all ho hd H hm hs1 hs2 q1 hw
          refine ⟨h', ?_, (Fr.push (S := []) _).comp fi fun l hl hlt => by rw [List.mem_singleton.mp hl] at hlt; omega⟩
          dsimp only [g] at e
          unfold f__law_told b__law_told tellV
          simp [l__law_told_1, T0, e]
theorem due_ok (T : Tl h t v0 v1 v2 v3 v4 bm bw) {r : Option Str} (hr : RlR h v3 r) : ∃ h', f__law_due [.loc t] h = .ok (tellV bm (btw 1 2 v1 && btw 2 3 v2) r bw) h' := by
  obtain ⟨T0, T1, T2, T3, T4, T5⟩ := T
  obtain ⟨q1, q2⟩ := hr
  -- what follows the look at masters
  let D3 : SS := (sIf (tOr (tNot (tB (eCall f__law_int (lCons (eBin oIx (eVar 0) (eC (.int 1))) (lCons (eC (.int 1)) (lCons (eC (.int 2)) lNil)))))) (tNot (tB (eCall f__law_int (lCons (eBin oIx (eVar 0) (eC (.int 2))) (lCons (eC (.int 2)) (lCons (eC (.int 3)) lNil))))))) (sRet (eC (.str "size"))) sNil)
  let D : SS := sSeq D3 (sSeq (sSet 2 (eCall f__law_points lNil)) (sSeq dueR5 (sSeq dueR6 dueW)))
  have body : b__law_due = sSeq dueM1 (sSeq dueM2 D) := rfl
  suffices S : ∃ h', b__law_due (envU t none) h = .ret (tellV bm (btw 1 2 v1 && btw 2 3 v2) r bw) h' by
    obtain ⟨h', e⟩ := S
    refine ⟨h', ?_⟩
    unfold f__law_due
    dsimp only [envU] at e
    simp [e]
  rw [body]
  have fin : bm = true → ∀ x, ∃ h', D (envU t x) h = .ret (tellV true (btw 1 2 v1 && btw 2 3 v2) r bw) h' := by
    intro _ x
    have l1 := T2.law (h := h) (a := 1) (b := 2)
    have l2 := T3.law (h := h) (a := 2) (b := 3)
    cases sb1 : btw 1 2 v1 with
    | false =>
      rw [sb1] at l1
      exact ⟨h, by simp [D, D3, T0, l1, tellV]⟩
    | true =>
      rw [sb1] at l1
      cases sb2 : btw 2 3 v2 with
      | false =>
        rw [sb2] at l2
        exact ⟨h, by simp [D, D3, T0, l1, l2, tellV]⟩
      | true =>
        rw [sb2] at l2
        let hP : PA.Heap := h ++ [.lst (os1.map .str), .lst (os2.map .str), .lst (os3.map .str), .dct (gdR h.length (h.length + 1) (h.length + 2) (h.length + 4) (h.length + 5)), .lst (os4.map .str), .lst (os5.map .str), .dct [(.str "spread", .loc (h.length + 4)), (.str "tie", .loc (h.length + 5))]]
        have up : ∀ {l : Nat} {o : AO}, h[l]? = some o → hP[l]? = some o := fun {l o} e => by
          show (h ++ _)[l]? = _
          rw [get_app (by rw [e]; rfl), e]
        have pts : f__law_points [] h = .ok (.loc (h.length + 3)) hP := points_ok
        have st : D (envU t x) h = sSeq dueR5 (sSeq dueR6 dueW) (envW t (h.length + 3) x none) hP := by
          simp [D, D3, T0, l1, l2, pts]
        rw [st]
        have G : GPt hP (h.length + 3) h.length (h.length + 1) (h.length + 2) (h.length + 4) (h.length + 5) := ⟨by simp [hP], by simp [hP, os1], by simp [hP, os2], by simp [hP, os3], by simp [hP, os4], by simp [hP, os5]⟩
        have tl : t < h.length := lt_of_at T0
        have n1 : t ≠ h.length + 3 := by omega
        have T0' := up T0
        have five : ∀ p : Str, r = some p → (dueR5 (envW t (h.length + 3) x none) hP = .ret (.tup [.str "rule", .str p]) hP) → ∃ h', sSeq dueR5 (sSeq dueR6 dueW) (envW t (h.length + 3) x none) hP = .ret (tellV true (true && true) r bw) h' := fun p e1 e2 => ⟨hP, by
          subst e1
          simp [e2, tellV]⟩
        have words : ∀ y, ∃ h', dueW (envW t (h.length + 3) x y) hP = .ret (if bw = true then .non else .str "words") h' := fun y => by
          cases T5 with
          | ok hw => exact dw_ok hw T0'
          | odd hx => exact dw_odd hx T0'
          | non => exact dw_non T0'
          | lst e => exact dw_lst T0' (up e)
        cases T4 with
        | @dct d kvs e K =>
          have n2 : d ≠ h.length + 3 := by have := lt_of_at e; omega
          rcases has_or K with L | ⟨x1, x2, x3, x4, x5, H⟩
          · rw [look_lacks e L] at q1
            cases r with
            | none => cases q1
            | some p =>
              cases q1
              exact five "" rfl (due5_lacks T0' (up e) G n1 n2 L)
          · have e5 := due5_has (x := x) T0' (up e) G n1 n2 H
            have e6 := due6_has (x := x) T0' (up e) G n1 n2 H
            rw [look_has e H] at q1
            have er : firstR x1 x2 x3 x4 x5 = r := by
              cases z : firstR x1 x2 x3 x4 x5 with
              | none =>
                rw [z] at q1
                cases r with
                | none => rfl
                | some p => cases q1
              | some p' =>
                rw [z] at q1
                cases r with
                | none => cases q1
                | some p => cases q1; rfl
            rw [er] at e6
            cases r with
            | some p => exact ⟨hP, by simp [e5, e6, tellV]⟩
            | none =>
              obtain ⟨h', ew⟩ := words (some (.str "tie"))
              exact ⟨h', by simp [e5, e6, ew, tellV]⟩
        | lst e =>
          rw [look_lst e] at q1
          cases r with
          | none => cases q1
          | some p => cases q1; exact five "" rfl (due5_lst T0' (up e))
        | non =>
          rw [look_non] at q1
          cases r with
          | none => cases q1
          | some p => cases q1; exact five "" rfl (due5_non T0')
        | str s =>
          rw [look_str] at q1
          cases r with
          | none => cases q1
          | some p => cases q1; exact five "" rfl (due5_str T0')
  cases T1 with
  | good hx => rw [due_good T0 hx]; exact fin rfl _
  | odd hx => exact ⟨h, due_odd T0 hx⟩
  | non => exact ⟨h, due_non T0⟩
  | lst e => exact ⟨h, due_lst T0 e⟩
end
end K06
set_option maxRecDepth 100000
namespace K06
open PA
open PySem (Str)
section
variable {h h' : PA.Heap} {l c t : Nat} {S : List Nat} {v v0 v1 v2 v3 v4 : AV} {b bm bw : Bool}
def Off (S : List Nat) (v : AV) : Prop := ∀ a, v = .loc a → a ∉ S
theorem MV.keep (m : MV h v b) (f : Fr S h h') (o : Off S v) : MV h' v b := by
  cases m with
  | good hx => exact .good hx
  | odd hx => exact .odd hx
  | non => exact .non
  | lst e => exact .lst (f.at_ _ _ (o _ rfl) e)
theorem WV.keep (m : WV h v b) (f : Fr S h h') (o : Off S v) : WV h' v b := by
  cases m with
  | ok hx => exact .ok hx
  | odd hx => exact .odd hx
  | non => exact .non
  | lst e => exact .lst (f.at_ _ _ (o _ rfl) e)
/-- a rule that is told, of at most n words -/
inductive RlN (h : PA.Heap) (n : Nat) : AV → Prop
  | dct {d : Nat} {kvs : List (AV × AV)} : h[d]? = some (.dct kvs) → KOk kvs → kvs.length ≤ n → RlN h n (.loc d)
  | lst {d : Nat} {ys : List AV} : h[d]? = some (.lst ys) → RlN h n (.loc d)
  | non : RlN h n .non
  | str (s : Str) : RlN h n (.str s)
theorem RlN.rl {n : Nat} (m : RlN h n v) : RlV h v := by
  cases m with
  | dct e K _ => exact .dct e K
  | lst e => exact .lst e
  | non => exact .non
  | str s => exact .str s
theorem RlN.keep {n n' : Nat} (m : RlN h n v) (f : Fr S h h') (o : Off S v) (hn : n ≤ n') : RlN h' n' v := by
  cases m with
  | dct e K q => exact .dct (f.at_ _ _ (o _ rfl) e) K (Nat.le_trans q hn)
  | lst e => exact .lst (f.at_ _ _ (o _ rfl) e)
  | non => exact .non
  | str s => exact .str s
/-- what stands while a book is spoilt -/
structure Sp (h : PA.Heap) (l c t n : Nat) (v0 v1 v2 v3 v4 : AV) (bm bw : Bool) : Prop where
  d : Draw h l c
  at_ : h[t]? = some (.lst [v0, v1, v2, v3, v4])
  tl : t ≠ l
  tc : t ≠ c
  m : MV h v0 bm
  s1 : SV v1
  s2 : SV v2
  r : RlN h n v3
  w : WV h v4 bw
  o0 : Off [l, c, t] v0
  o3 : Off [l, c, t] v3
  o4 : Off [l, c, t] v4
theorem Sp.tell {n : Nat} (P : Sp h l c t n v0 v1 v2 v3 v4 bm bw) : Tl h t v0 v1 v2 v3 v4 bm bw := ⟨P.at_, P.m, P.s1, P.s2, P.r.rl, P.w⟩
def St (h : PA.Heap) (l c t n : Nat) : Prop := ∃ v0 v1 v2 v3 v4 bm bw, Sp h l c t n v0 v1 v2 v3 v4 bm bw
theorem Sp.put {n : Nat} {xs : List AV} (d : Draw h l c) (ht : h[t]? = some (.lst xs)) (tl : t ≠ l) (tc : t ≠ c) (m : MV h v0 bm) (s1 : SV v1) (s2 : SV v2) (r : RlN h n v3) (w : WV h v4 bw) (o0 : Off [l, c, t] v0) (o3 : Off [l, c, t] v3) (o4 : Off [l, c, t] v4) : St (h.set t (.lst [v0, v1, v2, v3, v4])) l c t n := by
  have f : Fr [t] h (h.set t (.lst [v0, v1, v2, v3, v4])) := Fr.set
  have o : ∀ {v : AV}, Off [l, c, t] v → Off [t] v := fun q a e z => q a e (by rw [List.mem_singleton.mp z]; simp)
  exact ⟨v0, v1, v2, v3, v4, bm, bw, d.keep f (by simpa using tl.symm) (by simpa using tc.symm), at_set ht, tl, tc, m.keep f (o o0), s1, s2, r.keep f (o o3) (Nat.le_refl _), w.keep f (o o4), o0, o3, o4⟩
theorem off_any {S : List Nat} (hv : ∀ a, v ≠ .loc a) : Off S v := fun a e => absurd e (hv a)
theorem off_loc {S : List Nat} {a : Nat} (ha : a ∉ S) : Off S (.loc a) := fun b e => by cases e; exact ha
theorem off2 (o : Off [l, c, t] v) : Off [l, c] v := fun a e z => o a e (by simp at z ⊢; rcases z with z | z <;> simp [z])
theorem KOk.drop {kvs : List (AV × AV)} {k : AV} (K : KOk kvs) : KOk (dDrop kvs k) := fun p hp => K p (List.mem_filter.mp hp).1
theorem KOk.put {kvs : List (AV × AV)} {k : Str} {v : AV} (K : KOk kvs) (f : FV v) : KOk (dPut kvs (.str k) v) := by
  unfold dPut
  intro p hp
  split at hp
  · obtain ⟨q, hq, rfl⟩ := List.mem_map.mp hp
    split
    · exact ⟨(K q hq).1, f⟩
    · exact K q hq
  · rcases List.mem_append.mp hp with hp | hp
    · exact K p hp
    · rw [List.mem_singleton.mp hp]
      exact ⟨⟨k, rfl⟩, f⟩
theorem put_len {kvs : List (AV × AV)} {k v : AV} : (dPut kvs k v).length ≤ kvs.length + 1 := by
  unfold dPut
  split <;> simp
theorem atI_mem {xs : List AV} {i : Int} (h0 : 0 ≤ i) (h1 : i < xs.length) : ∃ v ∈ xs, atI xs i = some v := by
  obtain ⟨v, a, b⟩ := atI_in h0 h1
  exact ⟨v, List.mem_of_getElem? b, a⟩
def sp4 : SS := (sSet 4 (eIf (tB (eCall bIsi (lCons (eBin oIx (eVar 1) (eC (.int 3))) (lCons (eC (.ty "dict")) lNil)))) (eCall bDict (lCons (eBin oIx (eVar 1) (eC (.int 3))) lNil)) eNewD))
def sp6 : SS := (sIf (tB (eBin oEq (eVar 3) (eC (.int 0)))) (sExpr (eDPop2 (eVar 4) (eVar 5) (eC .non))) (sDPut (eVar 4) (eVar 5) (eBin oIx (eLst (lCons (eC (.str "")) (lCons (eC (.str "keeps")) (lCons (eC .non) (lCons (eC (.str "own")) lNil))))) (eVar 3))))
def sp7 : SS := (sIx (eVar 1) (eC (.int 3)) (eIf (tB (eBin oGt (eCall f__law_next (lCons (eVar 0) (lCons (eC (.int 4)) lNil))) (eC (.int 0)))) (eVar 4) (eBin oIx (eLst (lCons (eC .non) (lCons eNewD (lCons (eLst lNil) (lCons (eC (.str "rule")) lNil))))) (eVar 3))))
def spR : SS := (sSeq (sSet 5 (eBin oIx (eLst (lCons (eC (.str "above")) (lCons (eC (.str "back")) (lCons (eC (.str "cut")) (lCons (eC (.str "spread")) (lCons (eC (.str "tie")) (lCons (eC (.str "more")) lNil))))))) (eCall f__law_next (lCons (eVar 0) (lCons (eC (.int 6)) lNil))))) (sSeq (sSet 3 (eCall f__law_next (lCons (eVar 0) (lCons (eC (.int 4)) lNil)))) (sSeq sp6 sp7)))
theorem sp_body : ∃ A B C E, b__law_spoil = sSeq (sSet 2 (eCall f__law_next (lCons (eVar 0) (lCons (eC (.int 5)) lNil)))) (sIf (tB (eBin oEq (eVar 2) (eC (.int 0)))) A (sIf (tB (eBin oEq (eVar 2) (eC (.int 1)))) B (sIf (tB (eBin oEq (eVar 2) (eC (.int 2)))) C (sIf (tB (eBin oEq (eVar 2) (eC (.int 3)))) (sSeq sp4 spR) E)))) := ⟨_, _, _, _, rfl⟩
theorem spoil_ok {n : Nat} (P : Sp h l c t n v0 v1 v2 v3 v4 bm bw) (hn : n ≤ 90) : ∃ h', f__law_spoil [.loc l, .loc t] h = .ok .non h' ∧ St h' l c t (n + 1) := by
  obtain ⟨D, ht, tl, tc, m, s1, s2, r, w, o0, o3, o4⟩ := P
  have nt : t ∉ [l, c] := by simp [tl, tc]
  obtain ⟨pk, h1, e1, p0, p1, D1, f1⟩ := next_ok (b := 5) D (by omega) (by omega)
  have ht1 := f1.at_ _ _ nt ht
  have pks : pk = 0 ∨ pk = 1 ∨ pk = 2 ∨ pk = 3 ∨ pk = 4 := by omega
  have nls : ∀ {g : PA.Heap} {a : Nat}, Draw g l c → t < g.length → g.length ≤ a → a ∉ [l, c, t] := fun {g a} D hl hle => by
    have := D.lt
    simp; omega
  have tl1 := lt_of_at ht1
  rcases pks with rfl | rfl | rfl | rfl | rfl
  · let n0 := h1.length
    let od : List AV := [.tup [], .non, .loc n0, .tup [.int 0], .tup [.non, .int 1], .tup [.non, .bl true], .tup [.non, .int (-1)], .tup [.non, .non, .non, .non], .tup [.non, .str "0"]]
    let tw : List AV := [.tup [.non, .int 0, .int 2], .tup [.non, .int 0, .int 1]]
    let g : PA.Heap := h1 ++ [.lst [.non], .lst od, .lst tw, .lst (od ++ tw)]
    have fg : Fr [] h1 g := Fr.push _
    obtain ⟨k, h2, e2, k0, k1, D2, f2⟩ := next_ok (b := 11) (D1.keep (h' := g) fg (by simp) (by simp)) (by omega) (by omega)
    have n3 : n0 + 3 ∉ [l, c] := by have := D1.lt; simp [n0]; omega
    have n1 : n0 ∉ [l, c] := by have := D1.lt; simp [n0]; omega
    have ea := f2.at_ (n0 + 3) _ n3 (show g[n0 + 3]? = some (.lst (od ++ tw)) by simp [g, n0])
    have eb := f2.at_ n0 _ n1 (show g[n0]? = some (.lst [.non]) by simp [g, n0])
    have ht2 := f2.at_ _ _ nt (fg.at_ _ _ (by simp) ht1)
    obtain ⟨v, hv, ev⟩ := atI_mem (xs := od ++ tw) k0 (by simpa [od, tw] using k1)
    have fa : Fr [l, c] h h2 := (f1.trans (fg.of0)).trans f2
    have nn : n0 ∉ [l, c, t] := nls D1 tl1 (Nat.le_refl _)
    have good : ∃ b, MV h2 v b ∧ Off [l, c, t] v := by
      simp only [od, tw, List.cons_append, List.nil_append, List.mem_cons, List.not_mem_nil, or_false] at hv
      rcases hv with rfl | rfl | rfl | rfl | rfl | rfl | rfl | rfl | rfl | rfl | rfl
      · exact ⟨_, .odd (by simp [oddM]), off_any (by simp)⟩
      · exact ⟨_, .non, off_any (by simp)⟩
      · exact ⟨_, .lst eb, off_loc nn⟩
      · exact ⟨_, .odd (by simp [oddM]), off_any (by simp)⟩
      · exact ⟨_, .odd (by simp [oddM]), off_any (by simp)⟩
      · exact ⟨_, .odd (by simp [oddM]), off_any (by simp)⟩
      · exact ⟨_, .odd (by simp [oddM]), off_any (by simp)⟩
      · exact ⟨_, .odd (by simp [oddM]), off_any (by simp)⟩
      · exact ⟨_, .odd (by simp [oddM]), off_any (by simp)⟩
      · exact ⟨_, .odd (by simp [oddM]), off_any (by simp)⟩
      · exact ⟨_, .good (by simp [goodM]), off_any (by simp)⟩
    obtain ⟨b, mv, ov⟩ := good
    refine ⟨_, ?_, Sp.put D2 ht2 tl tc mv s1 s2 (r.keep fa (off2 o3) (Nat.le_succ _)) (w.keep fa (off2 o4)) ov o3 o4⟩
    dsimp only [g, od, tw, n0] at e2 ea ev
    try simp at e2 ea ev
    unfold f__law_spoil b__law_spoil
    simp [e1, eqA_int, e2, ea, ev, ht2, List.replicate]
  · obtain ⟨k, h2, e2, k0, k1, D2, f2⟩ := next_ok (b := 6) (D1.keep (h' := h1 ++ [.lst [.int 0, .int 3, .bl true, .non, .str "1", .int 2]]) (S := []) (Fr.push _) (by simp) (by simp)) (by omega) (by omega)
    have n1 : h1.length ∉ [l, c] := by have := D1.lt; simp; omega
    have ea := f2.at_ h1.length _ n1 (show (h1 ++ [AO.lst [.int 0, .int 3, .bl true, .non, .str "1", .int 2]])[h1.length]? = some (.lst [.int 0, .int 3, .bl true, .non, .str "1", .int 2]) by simp)
    have ht2 := f2.at_ _ _ nt ((Fr.push (S := []) _).at_ _ _ (by simp) ht1)
    obtain ⟨v, hv, ev⟩ := atI_mem (xs := [.int 0, .int 3, .bl true, .non, .str "1", .int 2]) k0 (by simpa using k1)
    have fa : Fr [l, c] h h2 := (f1.trans (Fr.push _)).trans f2
    have good : SV v := by
      simp only [List.mem_cons, List.not_mem_nil, or_false] at hv
      rcases hv with rfl | rfl | rfl | rfl | rfl | rfl
      · exact .int _
      · exact .int _
      · exact .bl _
      · exact .non
      · exact .str _
      · exact .int _
    refine ⟨_, ?_, Sp.put D2 ht2 tl tc (m.keep fa (off2 o0)) good s2 (r.keep fa (off2 o3) (Nat.le_succ _)) (w.keep fa (off2 o4)) o0 o3 o4⟩
    try simp at e2 ea ev
    unfold f__law_spoil b__law_spoil
    simp [e1, eqA_int, e2, ea, ev, ht2, List.replicate]
  · obtain ⟨k, h2, e2, k0, k1, D2, f2⟩ := next_ok (b := 6) (D1.keep (h' := h1 ++ [.lst [.int 1, .int 4, .bl true, .non, .str "2", .int 3]]) (S := []) (Fr.push _) (by simp) (by simp)) (by omega) (by omega)
    have n1 : h1.length ∉ [l, c] := by have := D1.lt; simp; omega
    have ea := f2.at_ h1.length _ n1 (show (h1 ++ [AO.lst [.int 1, .int 4, .bl true, .non, .str "2", .int 3]])[h1.length]? = some (.lst [.int 1, .int 4, .bl true, .non, .str "2", .int 3]) by simp)
    have ht2 := f2.at_ _ _ nt ((Fr.push (S := []) _).at_ _ _ (by simp) ht1)
    obtain ⟨v, hv, ev⟩ := atI_mem (xs := [.int 1, .int 4, .bl true, .non, .str "2", .int 3]) k0 (by simpa using k1)
    have fa : Fr [l, c] h h2 := (f1.trans (Fr.push _)).trans f2
    have good : SV v := by
      simp only [List.mem_cons, List.not_mem_nil, or_false] at hv
      rcases hv with rfl | rfl | rfl | rfl | rfl | rfl
      · exact .int _
      · exact .int _
      · exact .bl _
      · exact .non
      · exact .str _
      · exact .int _
    refine ⟨_, ?_, Sp.put D2 ht2 tl tc (m.keep fa (off2 o0)) s1 good (r.keep fa (off2 o3) (Nat.le_succ _)) (w.keep fa (off2 o4)) o0 o3 o4⟩
    try simp at e2 ea ev
    unfold f__law_spoil b__law_spoil
    simp [e1, eqA_int, e2, ea, ev, ht2, List.replicate]
  · have o31 : Off [l, c] v3 := off2 o3
    -- the copied rule
    obtain ⟨kvs, K, kn, ecp⟩ : ∃ kvs, KOk kvs ∧ kvs.length ≤ n ∧ sp4 [some (.loc l), some (.loc t), some (.int 3), none, none, none] h1 = .nx [some (.loc l), some (.loc t), some (.int 3), none, some (.loc h1.length), none] (h1 ++ [.dct kvs]) := by
      have r1 := r.keep f1 o31 (Nat.le_refl n)
      cases r1 with
      | @dct d kvs e K q => exact ⟨kvs, K, q, by simp [sp4, ht1, e]⟩
      | @lst d ys e => exact ⟨[], (fun p hp => nomatch hp), Nat.zero_le _, by simp [sp4, ht1, e]⟩
      | non => exact ⟨[], (fun p hp => nomatch hp), Nat.zero_le _, by simp [sp4, ht1]⟩
      | str s => exact ⟨[], (fun p hp => nomatch hp), Nat.zero_le _, by simp [sp4, ht1]⟩
    let ps : List AV := [.str "above", .str "back", .str "cut", .str "spread", .str "tie", .str "more"]
    let g : PA.Heap := h1 ++ [.dct kvs, .lst ps]
    have fg : Fr [] h1 g := Fr.push _
    obtain ⟨k, h2, e2, k0, k1, D2, f2⟩ := next_ok (b := 6) (D1.keep (h' := g) fg (by simp) (by simp)) (by omega) (by omega)
    have nlc := D1.lt
    have n3 : h1.length + 1 ∉ [l, c] := by simp; omega
    have n1 : h1.length ∉ [l, c] := by simp; omega
    have ea := f2.at_ (h1.length + 1) _ n3 (show g[h1.length + 1]? = some (.lst ps) by simp [g])
    have ed2 := f2.at_ h1.length _ n1 (show g[h1.length]? = some (.dct kvs) by simp [g])
    have ht2 := f2.at_ _ _ nt (fg.at_ _ _ (by simp) ht1)
    obtain ⟨pv, hpv, epv⟩ := atI_mem (xs := ps) k0 (by simpa [ps] using k1)
    obtain ⟨p, rfl⟩ : ∃ p, pv = .str p := by
      simp only [ps, List.mem_cons, List.not_mem_nil, or_false] at hpv
      rcases hpv with rfl | rfl | rfl | rfl | rfl | rfl <;> exact ⟨_, rfl⟩
    obtain ⟨od, h3, e3, q0, q1, D3, f3⟩ := next_ok (b := 4) D2 (by omega) (by omega)
    have ed3 := f3.at_ _ _ n1 ed2
    have ht3 := f3.at_ _ _ nt ht2
    have f03 : Fr [l, c] h h3 := ((f1.trans (fg.of0)).trans f2).trans f3
    have le3 : h1.length < h3.length := lt_of_at ed3
    have tn : t ≠ h1.length := by omega
    have nn : h1.length ∉ [l, c, t] := nls D1 tl1 (Nat.le_refl _)
    have kl : kvs.length < 100000 := by omega
    -- the rule, spoilt
    obtain ⟨h4, kvs4, K4, kn4, h4e, f4, ed4⟩ : ∃ h4 kvs4, KOk kvs4 ∧ kvs4.length ≤ n + 1 ∧ sp6 [some (.loc l), some (.loc t), some (.int 3), some (.int od), some (.loc h1.length), some (.str p)] h3 = .nx [some (.loc l), some (.loc t), some (.int 3), some (.int od), some (.loc h1.length), some (.str p)] h4 ∧ Fr [h1.length] h3 h4 ∧ h4[h1.length]? = some (.dct kvs4) := by
      by_cases z : od = 0
      · subst z
        cases eg : dGet kvs (.str p) with
        | none => exact ⟨h3, kvs, K, by omega, by simp [sp6, eqA_int, ed3, eg], Fr.refl, ed3⟩
        | some w0 => exact ⟨h3.set h1.length (.dct (dDrop kvs (.str p))), dDrop kvs (.str p), K.drop, by have : (dDrop kvs (.str p)).length ≤ kvs.length := List.length_filter_le _ _; omega, by simp [sp6, eqA_int, ed3, eg], Fr.set, at_set ed3⟩
      · obtain ⟨v, hv, ev⟩ := atI_mem (xs := [.str "", .str "keeps", .non, .str "own"]) q0 (by simpa using q1)
        have fv : FV v := by
          simp only [List.mem_cons, List.not_mem_nil, or_false] at hv
          rcases hv with rfl | rfl | rfl | rfl
          · exact .inr (.inr ⟨_, rfl, by decide +kernel⟩)
          · exact .inr (.inr ⟨_, rfl, by decide +kernel⟩)
          · exact .inl rfl
          · exact .inr (.inr ⟨_, rfl, by decide +kernel⟩)
        have edp : (h3 ++ [AO.lst [.str "", .str "keeps", .non, .str "own"]])[h1.length]? = some (.dct kvs) := by rw [get_app (by rw [ed3]; rfl), ed3]
        refine ⟨(h3 ++ [AO.lst [.str "", .str "keeps", .non, .str "own"]]).set h1.length (.dct (dPut kvs (.str p) v)), dPut kvs (.str p) v, K.put fv, by have := @put_len kvs (.str p) v; omega, ?_, (Fr.push _).trans Fr.set, at_set edp⟩
        try simp at edp ev
        simp [sp6, eqA_int, z, ev, edp, kl]
    have n4 : ∀ x ∈ [l, c], x ∉ [h1.length] := fun x hx => by simp at hx ⊢; rcases hx with rfl | rfl <;> omega
    have D4 := D3.keep f4 (n4 l (by simp)) (n4 c (by simp))
    have ht4 := f4.at_ _ _ (by simpa using tn) ht3
    obtain ⟨y, h5, e5, y0, y1, D5, f5⟩ := next_ok (b := 4) D4 (by omega) (by omega)
    have ht5 := f5.at_ _ _ nt ht4
    have ed5 := f5.at_ _ _ n1 ed4
    have f05 : ∀ {v : AV}, Off [l, c, t] v → Off [l, c, h1.length] v ∨ ∃ a, v = .loc a := fun {v} o => by
      cases v with
      | loc a => exact .inr ⟨a, rfl⟩
      | _ => exact .inl (off_any (by simp))
    have fa : Fr [l, c, h1.length] h h5 := ((f03.mono (by simp +contextual)).trans (f4.mono (by simp))).trans (f5.mono (by simp +contextual))
    have old : ∀ {v : AV}, Off [l, c, t] v → (∀ a, v = .loc a → a < h.length) → Off [l, c, h1.length] v := fun o lt a e => by
      have := o a e
      have := lt a e
      have := f1.le
      simp at *
      omega
    have lm : ∀ a, v0 = .loc a → a < h.length := fun a e => by
      subst e
      cases m with | lst e => exact lt_of_at e
    have lw : ∀ a, v4 = .loc a → a < h.length := fun a e => by
      subst e
      cases w with | lst e => exact lt_of_at e
    obtain ⟨A, B, C', E, body⟩ := sp_body
    dsimp only [g, ps] at e2 ea epv
    by_cases z : 0 < y
    · refine ⟨_, ?_, Sp.put D5 ht5 tl tc (m.keep fa (old o0 lm)) s1 s2 (.dct ed5 K4 kn4) (w.keep fa (old o4 lw)) o0 (off_loc nn) o4⟩
      unfold f__law_spoil
      rw [body]
      simp [e1, eqA_int, ecp, spR, e2, ea, epv, e3, h4e, sp7, e5, z, ht5]
    · let qs : List AV := [.non, .loc h5.length, .loc (h5.length + 1), .str "rule"]
      let g5 : PA.Heap := h5 ++ [.dct [], .lst [], .lst qs]
      have fg5 : Fr [] h5 g5 := Fr.push _
      have ht6 := fg5.at_ _ _ (by simp) ht5
      obtain ⟨v, hv, ev⟩ := atI_mem (xs := qs) q0 (by simpa [qs] using q1)
      have le5 := fg5.le
      have tl5 := lt_of_at ht5
      have good : RlN g5 (n + 1) v ∧ Off [l, c, t] v := by
        simp only [qs, List.mem_cons, List.not_mem_nil, or_false] at hv
        rcases hv with rfl | rfl | rfl | rfl
        · exact ⟨.non, off_any (by simp)⟩
        · exact ⟨.dct (kvs := []) (by simp [g5]) (fun p hp => nomatch hp) (Nat.zero_le _), off_loc (nls D5 tl5 (Nat.le_refl _))⟩
        · exact ⟨.lst (ys := []) (by simp [g5]), off_loc (nls D5 tl5 (Nat.le_succ _))⟩
        · exact ⟨.str _, off_any (by simp)⟩
      have fa5 : Fr [l, c, h1.length] h g5 := fa.trans fg5.of0
      refine ⟨_, ?_, Sp.put (D5.keep fg5 (by simp) (by simp)) ht6 tl tc (m.keep fa5 (old o0 lm)) s1 s2 good.1 (w.keep fa5 (old o4 lw)) o0 good.2 o4⟩
      dsimp only [qs] at ev
      dsimp only [g5, qs] at ht6
      try simp at ht6 ev
      unfold f__law_spoil
      rw [body]
      simp [e1, eqA_int, ecp, spR, e2, ea, epv, e3, h4e, sp7, e5, z, ht6, ev, g5, qs]
  · let n0 := h1.length
    let od : List AV := [.non, .loc n0, .tup [.str "tie", .str "cut"], .tup [.str "cut", .str "cut"], .tup [.str "change"], .tup [.int 1], .tup []]
    let g : PA.Heap := h1 ++ [.lst [.str "cut"], .lst od]
    have fg : Fr [] h1 g := Fr.push _
    obtain ⟨k, h2, e2, k0, k1, D2, f2⟩ := next_ok (b := 7) (D1.keep (h' := g) fg (by simp) (by simp)) (by omega) (by omega)
    have n3 : n0 + 1 ∉ [l, c] := by have := D1.lt; simp [n0]; omega
    have n1 : n0 ∉ [l, c] := by have := D1.lt; simp [n0]; omega
    have ea := f2.at_ (n0 + 1) _ n3 (show g[n0 + 1]? = some (.lst od) by simp [g, n0])
    have eb := f2.at_ n0 _ n1 (show g[n0]? = some (.lst [.str "cut"]) by simp [g, n0])
    have ht2 := f2.at_ _ _ nt (fg.at_ _ _ (by simp) ht1)
    obtain ⟨v, hv, ev⟩ := atI_mem (xs := od) k0 (by simpa [od] using k1)
    have fa : Fr [l, c] h h2 := (f1.trans (fg.of0)).trans f2
    have nn : n0 ∉ [l, c, t] := nls D1 tl1 (Nat.le_refl _)
    have good : ∃ b, WV h2 v b ∧ Off [l, c, t] v := by
      simp only [od, List.mem_cons, List.not_mem_nil, or_false] at hv
      rcases hv with rfl | rfl | rfl | rfl | rfl | rfl | rfl
      · exact ⟨_, .non, off_any (by simp)⟩
      · exact ⟨_, .lst eb, off_loc nn⟩
      · exact ⟨_, .odd (by simp [oddW]), off_any (by simp)⟩
      · exact ⟨_, .odd (by simp [oddW]), off_any (by simp)⟩
      · exact ⟨_, .odd (by simp [oddW]), off_any (by simp)⟩
      · exact ⟨_, .odd (by simp [oddW]), off_any (by simp)⟩
      · exact ⟨_, .ok (ws := []) (List.nil_sublist _), off_any (by simp)⟩
    obtain ⟨b, mv, ov⟩ := good
    refine ⟨_, ?_, Sp.put D2 ht2 tl tc (m.keep fa (off2 o0)) s1 s2 (r.keep fa (off2 o3) (Nat.le_succ _)) mv o0 o3 ov⟩
    dsimp only [g, od, n0] at e2 ea ev
    try simp at e2 ea ev
    unfold f__law_spoil b__law_spoil
    simp [e1, eqA_int, e2, ea, ev, ht2, List.replicate]
end
end K06
set_option maxRecDepth 100000
namespace K06
open PA
open PySem (Str)
section
variable {ms : List (Option Nat)} {nf nl : Int} {rv : RV} {ws : List Str}
def md : Option Nat → PySem.PyData
  | none => .none
  | some m => .int m
theorem dat_ms {h : PA.Heap} (n : Nat) : ∀ ms : List (Option Nat), datsW (datH h n) (ms.map mav) = some (ms.map md)
  | [] => rfl
  | o :: r => by
    show (match datH h n (mav o), datsW (datH h n) (r.map mav) with
      | some d, some ds => some (d :: ds)
      | _, _ => none) = _
    rw [dat_ms n r]
    cases o <;> cases n <;> rfl
theorem lay_ms : ∀ ms : List (Option Nat), PySem.PyData.canLayAll0 (ms.map md) = true ∧ PySem.PyData.depthAll (ms.map md) = 0
  | [] => ⟨rfl, rfl⟩
  | o :: r => by
    have := lay_ms r
    constructor
    · show (PySem.PyData.canLay0 (md o) && PySem.PyData.canLayAll0 (r.map md)) = true
      rw [this.1]
      cases o <;> rfl
    · show max (PySem.PyData.depth (md o)) (PySem.PyData.depthAll (r.map md)) = 0
      rw [this.2]
      cases o <;> simp [PySem.PyData.depth, md]
theorem dat_tupms {h : PA.Heap} : datH h 40 (.tup (ms.map mav)) = some (.tuple (ms.map md)) := by
  show (datsW (datH h 39) (ms.map mav)).map PySem.PyData.tuple = _
  rw [dat_ms]; rfl
theorem shaped_ms : PySem.SeqAt.shaped (.tuple (ms.map md)) = true := by
  have := lay_ms ms
  unfold PySem.SeqAt.shaped
  simp [PySem.PyData.canLay0, PySem.PyData.depth, this]
theorem dat_tupws {h : PA.Heap} : datH h 40 (.tup (ws.map .str)) = some (.tuple (ws.map .str)) := by
  show (datsW (datH h 39) (ws.map .str)).map PySem.PyData.tuple = _
  rw [dat_strs]; rfl
theorem shaped_ws (hw : ∀ w ∈ ws, sok w) : PySem.SeqAt.shaped (.tuple (ws.map .str)) = true := by
  have := lay_strs ws hw
  unfold PySem.SeqAt.shaped
  simp [PySem.PyData.canLay0, PySem.PyData.depth, this]
theorem frame_eq {h : PA.Heap} (hw : ∀ w ∈ ws, sok w) : eqA h (.tup [.tup (ms.map mav), .int nf, .int nl, .tup (ws.map .str)]) (.tup [.tup (ms.map mav), .int nf, .int nl, .tup (ws.map .str)]) = some true := by
  have e : datH h 40 (.tup [.tup (ms.map mav), .int nf, .int nl, .tup (ws.map .str)]) = some (.tuple [.tuple (ms.map md), .int nf, .int nl, .tuple (ws.map .str)]) := by
    have e1 : datH h 39 (.tup (ms.map mav)) = some (.tuple (ms.map md)) := by
      show (datsW (datH h 38) (ms.map mav)).map PySem.PyData.tuple = _
      rw [dat_ms]; rfl
    have e2 : datH h 39 (.tup (ws.map .str)) = some (.tuple (ws.map .str)) := by
      show (datsW (datH h 38) (ws.map .str)).map PySem.PyData.tuple = _
      rw [dat_strs]; rfl
    show (match datH h 39 (.tup (ms.map mav)), (match datH h 39 (.int nf), (match datH h 39 (.int nl), (match datH h 39 (.tup (ws.map .str)), some [] with
        | some d, some ds => some (d :: ds)
        | _, _ => none) with
        | some d, some ds => some (d :: ds)
        | _, _ => none) with
        | some d, some ds => some (d :: ds)
        | _, _ => none) with
        | some d, some ds => some (d :: ds)
        | _, _ => none).map PySem.PyData.tuple = _
    rw [e1, e2]
    rfl
  refine eqA_same e e ?_
  have a := lay_ms ms
  have b := lay_strs ws hw
  unfold PySem.SeqAt.shaped
  simp [PySem.PyData.canLay0, PySem.PyData.depth, PySem.PyData.canLayAll0, PySem.PyData.depthAll, a, b]

def PSx : List Str := ["above", "back", "cut", "spread", "tie"]
def RV.get (r : RV) (p : Str) : Str := if p = "above" then r.a else if p = "back" then r.b else if p = "cut" then r.c else if p = "spread" then r.s else r.t
def RV.put (r : RV) (p w : Str) : RV := if p = "above" then ⟨w, r.b, r.c, r.s, r.t⟩ else if p = "back" then ⟨r.a, w, r.c, r.s, r.t⟩ else if p = "cut" then ⟨r.a, r.b, w, r.s, r.t⟩ else if p = "spread" then ⟨r.a, r.b, r.c, w, r.t⟩ else ⟨r.a, r.b, r.c, r.s, w⟩
def opts (p : Str) : List Str := if p = "above" then os1 else if p = "back" then os2 else if p = "cut" then os3 else if p = "spread" then os4 else os5
theorem ps_cases {p : Str} (h : p ∈ PSx) : p = "above" ∨ p = "back" ∨ p = "cut" ∨ p = "spread" ∨ p = "tie" := by simpa [PSx] using h
theorem put_kvs {p w : Str} (hp : p ∈ PSx) : dPut rv.kvs (.str p) (.str w) = (rv.put p w).kvs := by
  rcases ps_cases hp with rfl | rfl | rfl | rfl | rfl <;> simp [dPut, keyEq, RV.kvs, RV.put]
theorem get_kvs {p : Str} (hp : p ∈ PSx) : dGet rv.kvs (.str p) = some (.str (rv.get p)) := by
  rcases ps_cases hp with rfl | rfl | rfl | rfl | rfl <;> simp [dGet, keyEq, RV.kvs, RV.get]
theorem put_get {p w : Str} (hp : p ∈ PSx) : (rv.put p w).get p = w := by
  rcases ps_cases hp with rfl | rfl | rfl | rfl | rfl <;> simp [RV.put, RV.get]
theorem put_hits {p w : Str} (hp : p ∈ PSx) : hitsA rv.kvs (rv.put p w).kvs = some (w == rv.get p) := by
  rcases ps_cases hp with rfl | rfl | rfl | rfl | rfl <;> simp [hitsA, dGet, keyEq, RV.kvs, RV.get, RV.put]
theorem same_hits : hitsA rv.kvs rv.kvs = some true := by simp [hitsA, dGet, keyEq, RV.kvs]
theorem RV.Ok.put {p w : Str} (o : RV.Ok rv) (hp : p ∈ PSx) (hw : w ∈ opts p) : RV.Ok (rv.put p w) := by
  obtain ⟨a, b, c, d, e⟩ := o
  rcases ps_cases hp with rfl | rfl | rfl | rfl | rfl
  · exact ⟨by simpa [RV.put, opts, os1] using hw, b, c, d, e⟩
  · exact ⟨a, by simpa [RV.put, opts, os2] using hw, c, d, e⟩
  · exact ⟨a, b, by simpa [RV.put, opts, os3] using hw, d, e⟩
  · exact ⟨a, b, c, by simpa [RV.put, opts, os4] using hw, e⟩
  · exact ⟨a, b, c, d, by simpa [RV.put, opts, os5] using hw⟩
theorem sok_of {os : List Str} (h : ∀ w ∈ os, sok w) {w : Str} (hw : w ∈ os) : sok w := h w hw
theorem ok_sok (o : RV.Ok rv) : sok rv.a ∧ sok rv.b ∧ sok rv.c ∧ sok rv.s ∧ sok rv.t :=
  ⟨(by decide +kernel : ∀ w ∈ (["keeps", "wins"] : List Str), sok w) _ o.a, (by decide +kernel : ∀ w ∈ (["follows", "own"] : List Str), sok w) _ o.b, (by decide +kernel : ∀ w ∈ (["empty", "values"] : List Str), sok w) _ o.c, (by decide +kernel : ∀ w ∈ (["now", "one", "read"] : List Str), sok w) _ o.s, (by decide +kernel : ∀ w ∈ (["all", "keeps", "same"] : List Str), sok w) _ o.t⟩
theorem fv_str {s : Str} (k : sok s) : FV (.str s) := .inr (.inr ⟨s, rfl, k⟩)
theorem has_kvs (o : RV.Ok rv) : Has rv.kvs (.str rv.a) (.str rv.b) (.str rv.c) (.str rv.s) (.str rv.t) := by
  obtain ⟨k1, k2, k3, k4, k5⟩ := ok_sok o
  exact ⟨rfl, by simp [RV.kvs, dGet, keyEq], by simp [RV.kvs, dGet, keyEq], by simp [RV.kvs, dGet, keyEq], by simp [RV.kvs, dGet, keyEq], by simp [RV.kvs, dGet, keyEq], fv_str k1, fv_str k2, fv_str k3, fv_str k4, fv_str k5⟩
theorem has_rev (o : RV.Ok rv) : Has rv.kvs.reverse (.str rv.a) (.str rv.b) (.str rv.c) (.str rv.s) (.str rv.t) := by
  obtain ⟨k1, k2, k3, k4, k5⟩ := ok_sok o
  exact ⟨rfl, by simp [RV.kvs, dGet, keyEq], by simp [RV.kvs, dGet, keyEq], by simp [RV.kvs, dGet, keyEq], by simp [RV.kvs, dGet, keyEq], by simp [RV.kvs, dGet, keyEq], fv_str k1, fv_str k2, fv_str k3, fv_str k4, fv_str k5⟩
theorem rev_kvs : rv.kvs.reverse.foldl (fun acc p => dPut acc p.1 p.2) [] = rv.kvs.reverse := by simp [RV.kvs, dPut, keyEq]
theorem first_ok (o : RV.Ok rv) : firstR (.str rv.a) (.str rv.b) (.str rv.c) (.str rv.s) (.str rv.t) = none := by
  have h1 : badV os1 (.str rv.a) = false := by have q : rv.a ∈ os1 := o.a; simp [badV, q]
  have h2 : badV os2 (.str rv.b) = false := by have q : rv.b ∈ os2 := o.b; simp [badV, q]
  have h3 : badV os3 (.str rv.c) = false := by have q : rv.c ∈ os3 := o.c; simp [badV, q]
  have h4 : badV os4 (.str rv.s) = false := by have q : rv.s ∈ os4 := o.s; simp [badV, q]
  have h5 : badV os5 (.str rv.t) = false := by have q : rv.t ∈ os5 := o.t; simp [badV, q]
  simp [firstR, h1, h2, h3, h4, h5]
variable {h : PA.Heap} {b p' b2 p2 d o : Nat}
/-- a book is made -/
theorem init_rv {kvs : List (AV × AV)} (ho : h[o]? = some (.ins "Book" [])) (hd : h[d]? = some (.dct kvs)) (H : Has kvs (.str rv.a) (.str rv.b) (.str rv.c) (.str rv.s) (.str rv.t)) (hr : RV.Ok rv) (hm : MOK ms) (hf : 1 ≤ nf ∧ nf ≤ 2) (hl : 2 ≤ nl ∧ nl ≤ 3) (hw : ws.Sublist WORDS) :
    ∃ h' p, f_Book___init__ [.loc o, .tup (ms.map mav), .int nf, .int nl, .loc d, .tup (ws.map .str)] h = .ok .non h' ∧ BAt h' o p ms nf nl rv ws ∧ h.length ≤ p ∧ Fr [o] h h' := by
  obtain ⟨g, eg⟩ := words_ok (h := h) hw
  obtain ⟨h', p, e, a, c, l, f⟩ := init_all (v1 := .int nf) (v2 := .int nl) ho hd H (am_good _ (good_of hm)) (by simp [hf]) (by simp [hl]) (by rw [look_has hd H, first_ok hr]; rfl) eg
  exact ⟨h', p, e, ⟨a, c⟩, l, f⟩
/-- == of books with the same frame -/
theorem eq_any {rv' : RV} {k : Bool} (B : BAt h b p' ms nf nl rv ws) (B2 : BAt h b2 p2 ms nf nl rv' ws) (hw : ∀ w ∈ ws, sok w) (hk : hitsA rv'.kvs rv.kvs = some k) : oOwnEq "Book" f_Book___eq__ (.loc b) (.loc b2) h = .ok (.bl k) h := by
  have Bb := B.b
  have Bp := B.p
  have Cb := B2.b
  have Cp := B2.p
  have hn : rv.kvs.length = 5 := rfl
  have hn' : rv'.kvs.length = 5 := rfl
  unfold oOwnEq f_Book___eq__ b_Book___eq__
  cases k <;> simp [Bb, Cb, Bp, Cp, hk, hn, hn', f_Book_frame, b_Book_frame, frame_eq hw]
theorem rule_prop (B : BAt h b p' ms nf nl rv ws) : f_Book_rule [.loc b] h = .ok (.loc h.length) (h ++ [.dct rv.kvs]) := by
  have Bb := B.b
  have Bp := B.p
  unfold f_Book_rule b_Book_rule
  simp [Bb, Bp]
@[simp] theorem o_kni {kvs : List (Str × AV)} {z : Str} {x : AV} : oKNotIn kvs (.str z) x h = .ok (.bl !(kvs.lookup z).isSome) h := rfl
theorem kp_ok {p : Str} (hp : p ∈ PSx) : (kv_POINTS.lookup p).isSome = true := by
  rcases ps_cases hp with rfl | rfl | rfl | rfl | rfl <;> decide +kernel
theorem turned_ok {p w : Str} (B : BAt h b p' ms nf nl rv ws) (hp : p ∈ PSx) (hw : w ∈ opts p) (hr : RV.Ok rv) (hm : MOK ms) (hf : 1 ≤ nf ∧ nf ≤ 2) (hl : 2 ≤ nl ∧ nl ≤ 3) (hws : ws.Sublist WORDS) :
    ∃ h' p2, f_Book_turned [.loc b, .str p, .str w] h = .ok (.loc (h.length + 1)) h' ∧ BAt h' (h.length + 1) p2 ms nf nl (rv.put p w) ws ∧ Fr [] h h' := by
  have Bb := B.b
  have Bp := B.p
  have hr' := hr.put hp hw
  let g : PA.Heap := h ++ [.dct (rv.put p w).kvs, .ins "Book" []]
  obtain ⟨h', p2, e, B2, l, f⟩ := init_rv (h := g) (o := h.length + 1) (d := h.length) (by simp [g]) (by simp [g]) (has_kvs hr') hr' hm hf hl hws
  refine ⟨h', p2, ?_, B2, ?_⟩
  · have kp := kp_ok hp
    have pk := put_kvs (rv := rv) (w := w) hp
    have hn : rv.kvs.length < 100000 := by show 5 < 100000; decide
    dsimp only [g] at e
    unfold f_Book_turned b_Book_turned
    have kn : ∃ v, kv_POINTS.lookup p = some v := Option.isSome_iff_exists.mp kp
    obtain ⟨v, kn⟩ := kn
    simp [Bb, Bp, kn, hn, pk, e]
  · refine (Fr.push (S := []) _).comp f fun l hl hlt => ?_
    rw [List.mem_singleton.mp hl] at hlt
    omega
theorem turned_bad {p : Str} {v : AV} (B : BAt h b p' ms nf nl rv ws) (hp : p ∈ PSx) (fv : FV v) (bv : badV (opts p) v = true) (hr : RV.Ok rv) (hm : MOK ms) (hf : 1 ≤ nf ∧ nf ≤ 2) (hl : 2 ≤ nl ∧ nl ≤ 3) :
    ∃ h', f_Book_turned [.loc b, .str p, v] h = .exc (exR p) h' ∧ Fr [] h h' := by
  have Bb := B.b
  have Bp := B.p
  obtain ⟨k1, k2, k3, k4, k5⟩ := ok_sok hr
  have h1 : badV os1 (.str rv.a) = false := by have q : rv.a ∈ os1 := hr.a; simp [badV, q]
  have h2 : badV os2 (.str rv.b) = false := by have q : rv.b ∈ os2 := hr.b; simp [badV, q]
  have h3 : badV os3 (.str rv.c) = false := by have q : rv.c ∈ os3 := hr.c; simp [badV, q]
  have h4 : badV os4 (.str rv.s) = false := by have q : rv.s ∈ os4 := hr.s; simp [badV, q]
  have h5 : badV os5 (.str rv.t) = false := by have q : rv.t ∈ os5 := hr.t; simp [badV, q]
  let g : PA.Heap := h ++ [.dct (dPut rv.kvs (.str p) v), .ins "Book" []]
  have hd : g[h.length]? = some (.dct (dPut rv.kvs (.str p) v)) := by simp [g]
  have look : f_look_at_rule [.loc h.length] g = .exc (exR p) g := by
    rcases ps_cases hp with rfl | rfl | rfl | rfl | rfl
    · have H : Has (dPut rv.kvs (.str "above") v) v (.str rv.b) (.str rv.c) (.str rv.s) (.str rv.t) := ⟨by simp [dPut, RV.kvs, keyEq], by simp [RV.kvs, dPut, dGet, keyEq], by simp [RV.kvs, dPut, dGet, keyEq], by simp [RV.kvs, dPut, dGet, keyEq], by simp [RV.kvs, dPut, dGet, keyEq], by simp [RV.kvs, dPut, dGet, keyEq], fv, fv_str k2, fv_str k3, fv_str k4, fv_str k5⟩
      have bv' : badV os1 v = true := bv
      rw [look_has hd H]; simp [firstR, bv', outR]
    · have H : Has (dPut rv.kvs (.str "back") v) (.str rv.a) v (.str rv.c) (.str rv.s) (.str rv.t) := ⟨by simp [dPut, RV.kvs, keyEq], by simp [RV.kvs, dPut, dGet, keyEq], by simp [RV.kvs, dPut, dGet, keyEq], by simp [RV.kvs, dPut, dGet, keyEq], by simp [RV.kvs, dPut, dGet, keyEq], by simp [RV.kvs, dPut, dGet, keyEq], fv_str k1, fv, fv_str k3, fv_str k4, fv_str k5⟩
      have bv' : badV os2 v = true := bv
      rw [look_has hd H]; simp [firstR, bv', h1, outR]
    · have H : Has (dPut rv.kvs (.str "cut") v) (.str rv.a) (.str rv.b) v (.str rv.s) (.str rv.t) := ⟨by simp [dPut, RV.kvs, keyEq], by simp [RV.kvs, dPut, dGet, keyEq], by simp [RV.kvs, dPut, dGet, keyEq], by simp [RV.kvs, dPut, dGet, keyEq], by simp [RV.kvs, dPut, dGet, keyEq], by simp [RV.kvs, dPut, dGet, keyEq], fv_str k1, fv_str k2, fv, fv_str k4, fv_str k5⟩
      have bv' : badV os3 v = true := bv
      rw [look_has hd H]; simp [firstR, bv', h1, h2, outR]
    · have H : Has (dPut rv.kvs (.str "spread") v) (.str rv.a) (.str rv.b) (.str rv.c) v (.str rv.t) := ⟨by simp [dPut, RV.kvs, keyEq], by simp [RV.kvs, dPut, dGet, keyEq], by simp [RV.kvs, dPut, dGet, keyEq], by simp [RV.kvs, dPut, dGet, keyEq], by simp [RV.kvs, dPut, dGet, keyEq], by simp [RV.kvs, dPut, dGet, keyEq], fv_str k1, fv_str k2, fv_str k3, fv, fv_str k5⟩
      have bv' : badV os4 v = true := bv
      rw [look_has hd H]; simp [firstR, bv', h1, h2, h3, outR]
    · have H : Has (dPut rv.kvs (.str "tie") v) (.str rv.a) (.str rv.b) (.str rv.c) (.str rv.s) v := ⟨by simp [dPut, RV.kvs, keyEq], by simp [RV.kvs, dPut, dGet, keyEq], by simp [RV.kvs, dPut, dGet, keyEq], by simp [RV.kvs, dPut, dGet, keyEq], by simp [RV.kvs, dPut, dGet, keyEq], by simp [RV.kvs, dPut, dGet, keyEq], fv_str k1, fv_str k2, fv_str k3, fv_str k4, fv⟩
      have bv' : badV os5 v = true := bv
      rw [look_has hd H]; simp [firstR, bv', h1, h2, h3, h4, outR]
  have i := init_r (o := h.length + 1) (v4 := .tup (ws.map .str)) (am_good (h := g) _ (good_of hm)) (show f_is_between [.int nf, .int 1, .int 2] g = .ok (.bl true) g by simp [hf]) (show f_is_between [.int nl, .int 2, .int 3] g = .ok (.bl true) g by simp [hl]) look
  refine ⟨g, ?_, Fr.push _⟩
  obtain ⟨v', kn⟩ : ∃ v, kv_POINTS.lookup p = some v := Option.isSome_iff_exists.mp (kp_ok hp)
  have hn : rv.kvs.length < 100000 := by show 5 < 100000; decide
  dsimp only [g] at i
  unfold f_Book_turned b_Book_turned
  simp [Bb, Bp, kn, hn, i, g]
theorem turned_none {v : AV} (hv : v = .str "none" ∨ v = .non ∨ v = .tup []) : f_Book_turned [.loc b, v, .str "now"] h = .exc (exR "") h := by
  have kn : (kv_POINTS.lookup ("none" : Str)).isSome = false := by decide +kernel
  unfold f_Book_turned b_Book_turned
  rcases hv with rfl | rfl | rfl <;> simp [kn]
theorem lt_exc {v w : AV} {p : Str} {h' : PA.Heap} (hb : isIns "Book" h (.loc b) = true) (e : f_Book_turned [.loc b, v, w] h = .exc (exR p) h') : f__law_turned [.loc b, v, w] h = .ok (.str p) h' := by
  unfold f__law_turned b__law_turned
  simp [l__law_turned_1, hb, e, catchA, offE, offS, xFld]
end
end K06
set_option maxRecDepth 100000
namespace K06
open PA
open PySem (Str)
theorem tell_eq {h : PA.Heap} {bm bs bw : Bool} {r : Option Str} (hr : ∀ p, r = some p → sok p) : eqA h (tellV bm bs r bw) (tellV bm bs r bw) = some true := by
  have s : ∀ x : Str, sok x → eqA h (.str x) (.str x) = some true := fun x k => by rw [eqA_str k k]; simp
  unfold tellV
  cases bm with
  | false => exact s "masters" (by decide +kernel)
  | true =>
    cases bs with
    | false => exact s "size" (by decide +kernel)
    | true =>
      cases r with
      | none =>
        cases bw with
        | true => exact eqA_same (d := .none) rfl rfl rfl
        | false => exact s "words" (by decide +kernel)
      | some p =>
        refine eqA_same (d := .tuple [.str "rule", .str p]) rfl rfl ?_
        have k : PySem.PyData.strOk p = true := hr p rfl
        have k2 : PySem.PyData.strOk "rule" = true := by decide +kernel
        unfold PySem.SeqAt.shaped
        simp [PySem.PyData.canLay0, PySem.PyData.canLayAll0, PySem.PyData.depth, PySem.PyData.depthAll, k, k2]
theorem rl_sok {h : PA.Heap} {v : AV} (m : RlV h v) {r : Option Str} (q : RlR h v r) : ∀ p, r = some p → sok p := by
  intro p e
  subst e
  obtain ⟨q1, _⟩ := q
  have emp : sok ("" : Str) := by decide +kernel
  have key : ∀ {s : Option Str}, f_look_at_rule [v] h = outR s h → (∀ x, s = some x → sok x) → sok p := fun {s} e f => by
    rw [q1] at e
    cases s with
    | none => cases e
    | some x => cases e; exact f _ rfl
  cases m with
  | @dct d kvs e K =>
    rcases has_or K with L | ⟨x1, x2, x3, x4, x5, H⟩
    · exact key (look_lacks e L) fun x z => by cases z; exact emp
    · refine key (look_has e H) fun x z => ?_
      unfold firstR at z
      split at z
      · cases z; decide +kernel
      · split at z
        · cases z; decide +kernel
        · split at z
          · cases z; decide +kernel
          · split at z
            · cases z; decide +kernel
            · split at z
              · cases z; decide +kernel
              · cases z
  | lst e => exact key (look_lst e) fun x z => by cases z; exact emp
  | non => exact key look_non fun x z => by cases z; exact emp
  | str s => exact key look_str fun x z => by cases z; exact emp
/-- the law's last part -/
theorem last_ok {h : PA.Heap} {l c t n : Nat} (S : St h l c t n) : ∃ h1 h2 v, f__law_told [.loc t] h = .ok v h1 ∧ f__law_due [.loc t] h1 = .ok v h2 ∧ eqA h2 v v = some true := by
  obtain ⟨v0, v1, v2, v3, v4, bm, bw, P⟩ := S
  obtain ⟨r, hr⟩ := P.r.rl.run
  obtain ⟨h1, e1, f1⟩ := told_ok P.tell hr
  have any : ∀ v, Off [] v := fun v a _ z => nomatch z
  have T1 : Tl h1 t v0 v1 v2 v3 v4 bm bw := ⟨f1.at_ _ _ (by simp) P.at_, P.m.keep f1 (any _), P.s1, P.s2, (P.r.keep f1 (any _) (Nat.le_refl _)).rl, P.w.keep f1 (any _)⟩
  obtain ⟨h2, e2⟩ := due_ok T1 (hr.keep P.r.rl f1)
  exact ⟨h1, h2, _, e1, e2, tell_eq (rl_sok P.r.rl hr)⟩
end K06
set_option maxRecDepth 100000
namespace K06
open PA
open PySem (Str)
def lw1 (ns : List Int) : SS := (sSet 1 (eCall (f__law_mix ns) (lCons (eVar 0) (lCons (eC (.int 6)) lNil))))
def lw2 (ns : List Int) : SS := (sSet 2 (eCall f__law_book (lCons (eVar 1) (lCons (eC (.int 3)) (lCons (eC (.int 2)) (lCons (eC (.int 2)) (lCons (eLst (lCons (eC (.str "cut")) (lCons (eC (.str "drop")) (lCons (eC (.str "loose")) (lCons (eC (.str "reset")) (lCons (eC (.str "tie")) lNil)))))) lNil)))))))
def lw3 (ns : List Int) : SS := (sSet 3 (eRevIt (eBin oIx (eVar 2) (eC (.int 3)))))
def lw4 (ns : List Int) : SS := (sSet 4 (eMake "Book" f_Book___init__ (lCons (eBin oIx (eVar 2) (eC (.int 0))) (lCons (eBin oIx (eVar 2) (eC (.int 1))) (lCons (eBin oIx (eVar 2) (eC (.int 2))) (lCons (eVar 3) (lCons (eBin oIx (eVar 2) (eC (.int 4))) lNil)))))))
def lw5 (ns : List Int) : SS := (sExpr (eDClear (eVar 3)))
def lw6 (ns : List Int) : SS := (sExpr (eDClear (eProp "Book" f_Book_rule (eVar 4))))
def lw7 (ns : List Int) : SS := (sIf (tB (eBin oNeV (eLst (lCons (eProp "Book" f_Book_masters (eVar 4)) (lCons (eProp "Book" f_Book_fields (eVar 4)) (lCons (eProp "Book" f_Book_levels (eVar 4)) (lCons (eProp "Book" f_Book_rule (eVar 4)) (lCons (eProp "Book" f_Book_words (eVar 4)) lNil)))))) (eVar 2))) (sRet (eC (.bl false))) sNil)
def lw8 (ns : List Int) : SS := (sIf (tOr (tB (eBin oNe (eCall bListD (lCons (eProp "Book" f_Book_rule (eVar 4)) lNil)) (eCall bSorted (lCons (eCall bListD (lCons (eBin oIx (eVar 2) (eC (.int 3))) lNil)) lNil)))) (tOr (tB (eBin (oOwnEqL "Book" f_Book___eq__) (eVar 4) (eVar 2))) (tNot (tB (eBin (oOwnEq "Book" f_Book___eq__) (eVar 4) (eMake "Book" f_Book___init__ (lCons (eBin oIx (eVar 2) (eC (.int 0))) (lCons (eBin oIx (eVar 2) (eC (.int 1))) (lCons (eBin oIx (eVar 2) (eC (.int 2))) (lCons (eBin oIx (eVar 2) (eC (.int 3))) (lCons (eBin oIx (eVar 2) (eC (.int 4))) lNil))))))))))) (sRet (eC (.bl false))) sNil)
def lw9 (ns : List Int) : SS := (sSet 5 (eCall f__law_points lNil))
def lw10 (ns : List Int) : SS := (sSet 6 (eBin oIx (eCall bListD (lCons (eVar 5) lNil)) (eCall f__law_next (lCons (eVar 1) (lCons (eC (.int 5)) lNil)))))
def lw11 (ns : List Int) : SS := (sFor (iLoc (eBin oDGet (eVar 5) (eVar 6))) (PA.gName 7) (l_law_1 ns))
def lw12 (ns : List Int) : SS := (sIf (tB (eBin oNe (eKeep (lComp (iTmp (lDisp (lCons (eC (.str "none")) (lCons (eC .non) (lCons (eC (.int 5)) lNil))))) (PA.gName 10) tYes (l_law_2 ns) [10])) (eBin oMulL (eLst (lCons (eVar 6) lNil)) (eC (.int 3))))) (sRet (eC (.bl false))) sNil)
def lw13 (ns : List Int) : SS := (sIf (tB (eBin oNe (eKeep (lComp (iTmp (lDisp (lCons (eC (.str "none")) (lCons (eC .non) (lCons (eTup lNil) lNil))))) (PA.gName 10) tYes (l_law_3 ns) [10])) (eBin oMulL (eLst (lCons (eC (.str "")) lNil)) (eC (.int 3))))) (sRet (eC (.bl false))) sNil)
def lw14 (ns : List Int) : SS := (sFor (iRange0 (eCall f__law_next (lCons (eVar 1) (lCons (eC (.int 3)) lNil)))) (PA.gName 8) (l_law_4 ns))
def lw15 (ns : List Int) : SS := (sRet (eBin oEq (eCall f__law_told (lCons (eVar 2) lNil)) (eCall f__law_due (lCons (eVar 2) lNil))))
theorem law_body (ns : List Int) : b_law ns = sSeq (lw1 ns) (sSeq (lw2 ns) (sSeq (lw3 ns) (sSeq (lw4 ns) (sSeq (lw5 ns) (sSeq (lw6 ns) (sSeq (lw7 ns) (sSeq (lw8 ns) (sSeq (lw9 ns) (sSeq (lw10 ns) (sSeq (lw11 ns) (sSeq (lw12 ns) (sSeq (lw13 ns) (sSeq (lw14 ns) (lw15 ns)))))))))))))) := rfl
section
variable {ms : List (Option Nat)} {nf nl : Int} {rv : RV} {ws : List Str} {h : PA.Heap} {b p t d g gl : Nat} {pt : Str}
abbrev envL (t r b g : Nat) (pt : Str) (x7 x9 : Option AV) : PA.Env := [some (.gl "#s"), some (.loc 1), some (.loc t), some (.loc r), some (.loc b), some (.loc g), some (.str pt), x7, none, x9, none]
structure LAt (h : PA.Heap) (t d b p : Nat) (ms : List (Option Nat)) (nf nl : Int) (rv : RV) (ws : List Str) : Prop where
  T : TAt h t d ms nf nl rv ws
  B : BAt h b p ms nf nl rv ws
  hr : RV.Ok rv
  hm : MOK ms
  hf : 1 ≤ nf ∧ nf ≤ 2
  hl : 2 ≤ nl ∧ nl ≤ 3
  hw : ws.Sublist WORDS
theorem LAt.keep {h' : PA.Heap} (A : LAt h t d b p ms nf nl rv ws) (f : Fr [] h h') : LAt h' t d b p ms nf nl rv ws :=
  ⟨⟨f.at_ _ _ (by simp) A.T.t, f.at_ _ _ (by simp) A.T.d⟩, A.B.keep f (by simp) (by simp), A.hr, A.hm, A.hf, A.hl, A.hw⟩
theorem opts_sok {w : Str} (hp : pt ∈ PSx) (hw : w ∈ opts pt) : sok w := by
  have : ∀ p ∈ PSx, ∀ w ∈ opts p, sok w := by decide +kernel
  exact this pt hp w hw
theorem get_sok (o : RV.Ok rv) (hp : pt ∈ PSx) : sok (rv.get pt) := by
  obtain ⟨k1, k2, k3, k4, k5⟩ := ok_sok o
  rcases ps_cases hp with rfl | rfl | rfl | rfl | rfl <;> simpa [RV.get]
theorem step_ok {ns : List Int} {r : Nat} {x9 : Option AV} {w : Str} (A : LAt h t d b p ms nf nl rv ws) (hp : pt ∈ PSx) (hw : w ∈ opts pt) : ∃ x9' h', l_law_1 ns (envL t r b g pt (some (.str w)) x9) h = .nx (envL t r b g pt (some (.str w)) x9') h' ∧ Fr [] h h' := by
  obtain ⟨h1, p2, e1, B1, f1⟩ := turned_ok A.B hp hw A.hr A.hm A.hf A.hl A.hw
  have hws : ∀ w ∈ ws, sok w := fun w h => words_sok w (A.hw.subset h)
  have A1 := A.keep f1
  have kw := opts_sok hp hw
  have kg := get_sok A.hr hp
  have rp := rule_prop B1
  have f2 : Fr [] h1 (h1 ++ [.dct (rv.put pt w).kvs]) := Fr.push _
  have B2 := B1.keep f2 (by simp) (by simp)
  have A2 := A1.keep f2
  have gk := get_kvs (rv := rv.put pt w) hp
  rw [put_get hp] at gk
  have gk2 := get_kvs (rv := rv) hp
  have q1 : eqA (h1 ++ [.dct (rv.put pt w).kvs]) (.str w) (.str w) = some true := by rw [eqA_str kw kw]; simp
  have q2 := eq_any B2 A2.B hws (put_hits hp)
  have q3 : eqA (h1 ++ [.dct (rv.put pt w).kvs]) (.str w) (.str (rv.get pt)) = some (w == rv.get pt) := by
    rw [eqA_str kw kg]
    congr 1
  have q4 : ∀ k : Bool, eqA (h1 ++ [.dct (rv.put pt w).kvs]) (.bl k) (.bl k) = some true := fun k => eqA_same (d := .bool k) rfl rfl rfl
  have bi : isIns "Book" h (.loc b) = true := by have := A.B.b; simp [isIns, this]
  have bi1 : isIns "Book" h1 (.loc (h.length + 1)) = true := by have := B1.b; simp [isIns, this]
  have tt := A2.T.t
  have td := A2.T.d
  refine ⟨some (.loc (h.length + 1)), h1 ++ [.dct (rv.put pt w).kvs], ?_, f1.trans f2⟩
  have B1b := B1.b
  have Bb := A.B.b
  simp [l_law_1, e1, Bb, B1b, rp, gk, q1, q2, tt, td, gk2, q3, q4]
theorem lw11_ok {ns : List Int} {r : Nat} {kvs : List (AV × AV)} (A : LAt h t d b p ms nf nl rv ws) (hp : pt ∈ PSx) (hg : h[g]? = some (.dct kvs)) (hk : dGet kvs (.str pt) = some (.loc gl)) (hgl : h[gl]? = some (.lst ((opts pt).map .str))) :
    ∃ x7 x9 h', lw11 ns (envL t r b g pt none none) h = .nx (envL t r b g pt x7 x9) h' ∧ Fr [] h h' := by
  obtain ⟨ρ', h', e, x7, x9, e2, f⟩ := iter_ok (items := fun h => lstOf h gl) (xs := (opts pt).map .str) (g := PA.gName 7) (body := l_law_1 ns) (fun _ ρ h' => ∃ x7 x9, ρ = envL t r b g pt x7 x9 ∧ Fr [] h h')
    (fun i ρ h' _ ⟨_, _, _, f⟩ => by unfold lstOf; rw [f.at_ _ _ (by simp) hgl])
    (fun i x ρ h' hx ⟨x7, x9, e, f⟩ => by
      subst e
      rw [List.getElem?_map] at hx
      obtain ⟨w, hw, rfl⟩ := Option.map_eq_some_iff.mp hx
      obtain ⟨x9', h2, e2, f2⟩ := step_ok (ns := ns) (r := r) (g := g) (x9 := x9) (A.keep f) hp (List.mem_of_getElem? hw)
      exact ⟨_, rfl, _, h2, .inl e2, some (.str w), x9', rfl, f.trans f2⟩)
    fuel 0 (envL t r b g pt none none) h (by have : (opts pt).length ≤ 3 := (by have : ∀ p ∈ PSx, (opts p).length ≤ 3 := (by decide +kernel); exact this pt hp); unfold fuel; simp; omega) (Nat.zero_le _) ⟨none, none, rfl, Fr.refl⟩
  subst e2
  refine ⟨x7, x9, h', ?_, f⟩
  dsimp only [envL] at e
  simp [lw11, hg, hk, hgl, e, -iter_const]
theorem lw12_ok {ns : List Int} {r : Nat} {x7 x9 : Option AV} (A : LAt h t d b p ms nf nl rv ws) (hp : pt ∈ PSx) : ∃ h', lw12 ns (envL t r b g pt x7 x9) h = .nx (envL t r b g pt x7 x9) h' ∧ Fr [] h h' := by
  have isb : ∀ {h' : PA.Heap}, LAt h' t d b p ms nf nl rv ws → isIns "Book" h' (.loc b) = true := fun A => by have := A.B.b; simp [isIns, this]
  have bd1 : badV (opts pt) (.str "none") = true := by
    have : ∀ p ∈ PSx, badV (opts p) (.str "none") = true := by decide +kernel
    exact this pt hp
  obtain ⟨h1, e1, f1⟩ := turned_bad A.B hp (fv_str (s := "none") (by decide +kernel)) bd1 A.hr A.hm A.hf A.hl
  have A1 := A.keep f1
  obtain ⟨h2, e2, f2⟩ := turned_bad A1.B hp (v := .non) (.inl rfl) rfl A.hr A.hm A.hf A.hl
  have A2 := A1.keep f2
  obtain ⟨h3, e3, f3⟩ := turned_bad A2.B hp (v := .int 5) (.inr (.inl ⟨5, rfl⟩)) rfl A.hr A.hm A.hf A.hl
  have t1 := lt_exc (isb A) e1
  have t2 := lt_exc (isb A1) e2
  have t3 := lt_exc (isb A2) e3
  have kp : sok pt := by
    have : ∀ p ∈ PSx, sok p := by decide +kernel
    exact this pt hp
  let g3 : PA.Heap := h3 ++ [.lst ([pt, pt, pt].map .str), .lst [.str pt], .lst ([pt, pt, pt].map .str)]
  have q := lst_eq (h := g3) (a := h3.length) (b := h3.length + 2) (xs := [pt, pt, pt]) (by simp [g3]) (by simp [g3]) (by simpa using kp)
  refine ⟨g3, ?_, ((f1.trans f2).trans f3).trans (Fr.push _)⟩
  dsimp only [g3] at q
  simp at q t1
  simp [lw12, lComp, l_law_2, wipeA, t1, t2, t3, q, g3, List.replicate]
theorem lw13_ok {ns : List Int} {r : Nat} {x7 x9 : Option AV} (A : LAt h t d b p ms nf nl rv ws) : ∃ h', lw13 ns (envL t r b g pt x7 x9) h = .nx (envL t r b g pt x7 x9) h' ∧ Fr [] h h' := by
  have isb : isIns "Book" h (.loc b) = true := by have := A.B.b; simp [isIns, this]
  have t1 := lt_exc isb (turned_none (h := h) (b := b) (v := .str "none") (.inl rfl))
  have t2 := lt_exc isb (turned_none (h := h) (b := b) (v := .non) (.inr (.inl rfl)))
  have t3 := lt_exc isb (turned_none (h := h) (b := b) (v := .tup []) (.inr (.inr rfl)))
  let g3 : PA.Heap := h ++ [.lst ((["", "", ""] : List Str).map .str), .lst [.str ""], .lst ((["", "", ""] : List Str).map .str)]
  have q := lst_eq (h := g3) (a := h.length) (b := h.length + 2) (xs := ["", "", ""]) (by simp [g3]) (by simp [g3]) (by decide +kernel)
  refine ⟨g3, ?_, Fr.push _⟩
  dsimp only [g3] at q
  simp at q t1 t2 t3
  simp [lw13, lComp, l_law_3, wipeA, t1, t2, t3, q, g3, List.replicate]
end
end K06
set_option maxRecDepth 100000
namespace K06
open PA
open PySem (Str)
section
variable {ms : List (Option Nat)} {nf nl : Int} {rv : RV} {ws : List Str} {h : PA.Heap} {b p t d r : Nat}
abbrev envM (t r b : Nat) : PA.Env := [some (.gl "#s"), some (.loc 1), some (.loc t), some (.loc r), some (.loc b), none, none, none, none, none, none]
theorem lw7_ok {ns : List Int} (A : LAt h t d b p ms nf nl rv ws) : ∃ h', lw7 ns (envM t r b) h = .nx (envM t r b) h' ∧ Fr [] h h' := by
  have hws : ∀ w ∈ ws, sok w := fun w h => words_sok w (A.hw.subset h)
  have rp := rule_prop A.B
  let h7 : PA.Heap := h ++ [.dct rv.kvs, .lst [.tup (ms.map mav), .int nf, .int nl, .loc h.length, .tup (ws.map .str)]]
  have A7 := A.keep (h' := h7) (Fr.push _)
  have e1 : eqA h7 (.tup (ms.map mav)) (.tup (ms.map mav)) = some true := eqA_same dat_tupms dat_tupms shaped_ms
  have e2 : eqA h7 (.tup (ws.map .str)) (.tup (ws.map .str)) = some true := eqA_same dat_tupws dat_tupws (shaped_ws hws)
  have hsm : sameKvs rv.kvs rv.kvs = true := by simp [sameKvs, RV.kvs, dGet, keyEq, eqF]
  have d1 : dctU h7 (.loc h.length) = some rv.kvs := by simp [dctU, h7]
  have d2 : dctU h7 (.loc d) = some rv.kvs := by have := A7.T.d; simp [dctU, this]
  have same : sameL (sameV h7) [.tup (ms.map mav), .int nf, .int nl, .loc h.length, .tup (ws.map .str)] [.tup (ms.map mav), .int nf, .int nl, .loc d, .tup (ws.map .str)] = true := by
    simp [sameL, sameV, sameF, isTup, e1, e2, d1, d2, hsm]
  have Bb := A.B.b
  have tt := A7.T.t
  have f8 : Fr [] h (h ++ [.dct rv.kvs]) := Fr.push _
  have Bb8 := (A.keep f8).B.b
  refine ⟨h7, ?_, Fr.push _⟩
  dsimp only [h7] at same tt
  try simp at same tt
  simp [lw7, Bb, f_Book_masters, b_Book_masters, f_Book_fields, b_Book_fields, f_Book_levels, b_Book_levels, rp, f_Book_words, b_Book_words, Bb8, tt, same, h7]
theorem lw8_ok {ns : List Int} (A : LAt h t d b p ms nf nl rv ws) : ∃ h', lw8 ns (envM t r b) h = .nx (envM t r b) h' ∧ Fr [] h h' := by
  have hws : ∀ w ∈ ws, sok w := fun w h => words_sok w (A.hw.subset h)
  have rp := rule_prop A.B
  have ky : keysOf rv.kvs = PSx.map .str := rfl
  have so : sortD PSx = PSx := by decide +kernel
  have nd : PSx.Nodup ∧ PSx.length < 64 := by decide +kernel
  have st : strsOf (PSx.map .str) = some PSx := strs_map PSx
  let h8 : PA.Heap := h ++ [.dct rv.kvs, .lst (PSx.map .str), .lst (PSx.map .str), .lst (PSx.map .str)]
  have A8 := A.keep (h' := h8) (Fr.push _)
  have q := lst_eq (h := h8) (a := h.length + 1) (b := h.length + 3) (xs := PSx) (by simp [h8]) (by simp [h8]) (by decide +kernel)
  have Bb8 := A8.B.b
  have tt8 := A8.T.t
  have own : f_Book___eq__ [.loc b, .loc t] h8 = .ok (.bl false) h8 := by
    unfold f_Book___eq__ b_Book___eq__
    simp [tt8, isIns]
  have td := A.T.d
  let h9 : PA.Heap := h8 ++ [.ins "Book" []]
  have A9 := A8.keep (h' := h9) (Fr.push _)
  obtain ⟨h10, p10, e10, B10, l10, f10⟩ := init_rv (h := h9) (o := h8.length) (d := d) (by simp [h9]) A9.T.d (has_kvs A.hr) A.hr A.hm A.hf A.hl A.hw
  have f89 : Fr [] h8 h10 := (Fr.push (S := []) _).comp f10 fun l hl hlt => by rw [List.mem_singleton.mp hl] at hlt; omega
  have A10 := A8.keep f89
  have eq := eq_any A10.B B10 hws same_hits
  refine ⟨h10, ?_, (Fr.push _).trans f89⟩
  dsimp only [h9, h8] at e10 eq
  dsimp only [h8] at q own tt8 Bb8
  have up : ∀ (k : PA.Heap) {l : Nat} {o : AO}, h[l]? = some o → (h ++ k)[l]? = some o := fun k {l o} e => by rw [get_app (by rw [e]; rfl), e]
  have tk := fun k => up k A.T.t
  have dk := fun k => up k A.T.d
  have Bk := fun k => up k A.B.b
  simp at e10 eq q own
  simp [lw8, Bk, A.B.b, rp, tk, dk, A.T.t, td, ky, st, so, nd, q, own, e10, eq, isIns, isLst]
end
theorem law_true : ∀ ns : List Int, ns.length ≤ 63 → ∃ h', f_law ns [.gl "#s"] [] = .ok (.bl true) h' := by
  intro ns hn
  obtain ⟨h1, e1, D1, f1⟩ := mix_ok (sd := 6) (h := []) hn
  have fw : Fr [] h1 (h1 ++ [.lst (WORDS.map .str)]) := Fr.push _
  have D1w := D1.keep fw (by simp) (by simp)
  obtain ⟨dl, dc⟩ := D1.lt
  obtain ⟨t, d, h2, ms, nf, nl, rv, ws, e2, T2, hr, hm, hR, nf1, nf2, nl2, nl3, hw, lt, ld, D2, f2⟩ := book_ok (lw := h1.length) (R := 3) (F := 2) (L := 2) (os := WORDS) D1w (by omega) (by omega) (by omega) (by simp) (by omega) (by omega) (by simp)
  have hf : 1 ≤ nf ∧ nf ≤ 2 := ⟨nf1, nf2⟩
  have hl : 2 ≤ nl ∧ nl ≤ 3 := ⟨nl2, by omega⟩
  simp at lt ld D1 D1w D2 f2 dl dc
  have lt2 := lt_of_at T2.t
  have ld2 := lt_of_at T2.d
  -- the rule turned about, the book
  let h3 : PA.Heap := h2 ++ [.dct rv.kvs.reverse, .ins "Book" []]
  obtain ⟨h4, p, e4, B4, l4, f4⟩ := init_rv (h := h3) (o := h2.length + 1) (d := h2.length) (by simp [h3]) (by simp [h3]) (has_rev hr) hr hm hf hl hw
  have f34 : Fr [] h2 h4 := (Fr.push (S := []) _).comp f4 fun l hl hlt => by rw [List.mem_singleton.mp hl] at hlt; omega
  have r4 := f4.at_ h2.length _ (by simp) (show h3[h2.length]? = some (.dct rv.kvs.reverse) by simp [h3])
  have l3 : h3.length = h2.length + 2 := by simp [h3]
  let h5 : PA.Heap := h4.set h2.length (.dct [])
  have f5 : Fr [h2.length] h4 h5 := Fr.set
  have B5 := B4.keep f5 (by simp) (by simp; omega)
  have T5 : TAt h5 t d ms nf nl rv ws := ⟨f5.at_ _ _ (by simp; omega) (f34.at_ _ _ (by simp) T2.t), f5.at_ _ _ (by simp; omega) (f34.at_ _ _ (by simp) T2.d)⟩
  have D5 := (D2.keep f34 (by simp) (by simp)).keep f5 (by simp; omega) (by simp; omega)
  have rp5 := rule_prop B5
  let h6 : PA.Heap := h5 ++ [.dct []]
  have f6 : Fr [] h5 h6 := Fr.push _
  have A6 : LAt h6 t d (h2.length + 1) p ms nf nl rv ws := ⟨⟨f6.at_ _ _ (by simp) T5.t, f6.at_ _ _ (by simp) T5.d⟩, B5.keep f6 (by simp) (by simp), hr, hm, hf, hl, hw⟩
  have D6 := D5.keep f6 (by simp) (by simp)
  obtain ⟨h7, e7, f7⟩ := lw7_ok (ns := ns) (r := h2.length) A6
  have A7 := A6.keep f7
  obtain ⟨h8, e8, f8⟩ := lw8_ok (ns := ns) (r := h2.length) A7
  have A8 := A7.keep f8
  have D8 := (D6.keep f7 (by simp) (by simp)).keep f8 (by simp) (by simp)
  -- the points
  have gk : ∀ pt ∈ PSx, ∃ gl, dGet (gdR h8.length (h8.length + 1) (h8.length + 2) (h8.length + 4) (h8.length + 5)) (.str pt) = some (.loc gl) ∧ ∀ h' : PA.Heap, h'[h8.length]? = some (.lst (os1.map .str)) → h'[h8.length + 1]? = some (.lst (os2.map .str)) → h'[h8.length + 2]? = some (.lst (os3.map .str)) → h'[h8.length + 4]? = some (.lst (os4.map .str)) → h'[h8.length + 5]? = some (.lst (os5.map .str)) → h'[gl]? = some (.lst ((opts pt).map .str)) := by
    intro pt hp
    rcases ps_cases hp with rfl | rfl | rfl | rfl | rfl
    · exact ⟨_, by simp [dGet, keyEq], fun _ a _ _ _ _ => a⟩
    · exact ⟨_, by simp [dGet, keyEq], fun _ _ a _ _ _ => a⟩
    · exact ⟨_, by simp [dGet, keyEq], fun _ _ _ a _ _ => a⟩
    · exact ⟨_, by simp [dGet, keyEq], fun _ _ _ _ a _ => a⟩
    · exact ⟨_, by simp [dGet, keyEq], fun _ _ _ _ _ a => a⟩
  let h9 : PA.Heap := h8 ++ [.lst (os1.map .str), .lst (os2.map .str), .lst (os3.map .str), .dct (gdR h8.length (h8.length + 1) (h8.length + 2) (h8.length + 4) (h8.length + 5)), .lst (os4.map .str), .lst (os5.map .str), .dct [(.str "spread", .loc (h8.length + 4)), (.str "tie", .loc (h8.length + 5))], .lst (PSx.map .str)]
  have f9 : Fr [] h8 h9 := Fr.push _
  have D9 := D8.keep f9 (by simp) (by simp)
  have l8 := D8.lt
  obtain ⟨k, h10, e10, k0, k1, D10, f10⟩ := next_ok (b := 5) D9 (by omega) (by omega)
  have lt8 := lt_of_at A8.T.t
  have nn : ∀ i, h8.length + i ∉ [1, 0] := fun i => by simp only [List.mem_cons, List.not_mem_nil, or_false]; omega
  have at10 : ∀ i o, h9[h8.length + i]? = some o → h10[h8.length + i]? = some o := fun i o e => f10.at_ _ _ (nn i) e
  obtain ⟨v, hv, ev⟩ := atI_mem (xs := PSx.map .str) k0 (by simpa [PSx] using k1)
  obtain ⟨pt, hp, rfl⟩ := List.mem_map.mp hv
  obtain ⟨gl, g1, g2⟩ := gk pt hp
  have hgl := g2 h10 (at10 0 _ (by simp [h9])) (at10 1 _ (by simp [h9])) (at10 2 _ (by simp [h9])) (at10 4 _ (by simp [h9])) (at10 5 _ (by simp [h9]))
  have hg10 := at10 3 _ (show h9[h8.length + 3]? = some (.dct (gdR h8.length (h8.length + 1) (h8.length + 2) (h8.length + 4) (h8.length + 5))) by simp [h9])
  have hk10 := at10 7 _ (show h9[h8.length + 7]? = some (.lst (PSx.map .str)) by simp [h9])
  have A9 := A8.keep f9
  have lp : p ∉ [1, 0] := by have := l4; simp; omega
  have A10 : LAt h10 t d (h2.length + 1) p ms nf nl rv ws := ⟨⟨f10.at_ _ _ (by simp; omega) A9.T.t, f10.at_ _ _ (by simp; omega) A9.T.d⟩, A9.B.keep f10 (by simp only [List.mem_cons, List.not_mem_nil, or_false]; omega) lp, hr, hm, hf, hl, hw⟩
  obtain ⟨x7, x9, h11, e11, f11⟩ := lw11_ok (ns := ns) (r := h2.length) A10 hp hg10 g1 hgl
  have A11 := A10.keep f11
  obtain ⟨h12, e12, f12⟩ := lw12_ok (ns := ns) (r := h2.length) (g := h8.length + 3) (x7 := x7) (x9 := x9) A11 hp
  have A12 := A11.keep f12
  obtain ⟨h13, e13, f13⟩ := lw13_ok (ns := ns) (r := h2.length) (g := h8.length + 3) (pt := pt) (x7 := x7) (x9 := x9) A12
  have A13 := A12.keep f13
  have D13 := ((D10.keep f11 (by simp) (by simp)).keep f12 (by simp) (by simp)).keep f13 (by simp) (by simp)
  -- spoilt
  obtain ⟨n, h14, e14, n0, n3, D14, f14⟩ := next_ok (b := 3) D13 (by omega) (by omega)
  have t14 := f14.at_ t _ (by simp; omega) A13.T.t
  have d14 := f14.at_ d _ (by simp; omega) A13.T.d
  have kok : KOk rv.kvs := by
    obtain ⟨k1, k2, k3, k4, k5⟩ := ok_sok hr
    intro q hq
    simp only [RV.kvs, List.mem_cons, List.not_mem_nil, or_false] at hq
    rcases hq with rfl | rfl | rfl | rfl | rfl
    · exact ⟨⟨_, rfl⟩, fv_str k1⟩
    · exact ⟨⟨_, rfl⟩, fv_str k2⟩
    · exact ⟨⟨_, rfl⟩, fv_str k3⟩
    · exact ⟨⟨_, rfl⟩, fv_str k4⟩
    · exact ⟨⟨_, rfl⟩, fv_str k5⟩
  have td : d ≠ t := fun z => by have a := T2.t; have b := T2.d; rw [z, a] at b; cases b
  have S14 : Sp h14 1 0 t 5 (.tup (ms.map mav)) (.int nf) (.int nl) (.loc d) (.tup (ws.map .str)) true true := ⟨D14, t14, by omega, by omega, .good (good_of hm), .int _, .int _, .dct d14 kok (by show 5 ≤ 5; decide), .ok hw, off_any (by simp), off_loc (by simp; omega), off_any (by simp)⟩
  suffices S : ∃ (x8 : Option AV) (h15 : PA.Heap) (m : Nat), lw14 ns (envL t h2.length (h2.length + 1) (h8.length + 3) pt x7 x9) h13 = .nx ((envL t h2.length (h2.length + 1) (h8.length + 3) pt x7 x9).set 8 x8) h15 ∧ St h15 1 0 t m by
    obtain ⟨x8, h15, m, e15, S15⟩ := S
    obtain ⟨ha, hb, v, ea, eb, eq⟩ := last_ok S15
    refine ⟨hb, ?_⟩
    have E1 : lw1 ns [some (.gl "#s"), none, none, none, none, none, none, none, none, none, none] [] = .nx [some (.gl "#s"), some (.loc 1), none, none, none, none, none, none, none, none, none] h1 := by
      simp at e1
      simp [lw1, e1]
    have E2 : lw2 ns [some (.gl "#s"), some (.loc 1), none, none, none, none, none, none, none, none, none] h1 = .nx [some (.gl "#s"), some (.loc 1), some (.loc t), none, none, none, none, none, none, none, none] h2 := by
      simp at e2
      simp [lw2, e2]
    have E3 : lw3 ns [some (.gl "#s"), some (.loc 1), some (.loc t), none, none, none, none, none, none, none, none] h2 = .nx [some (.gl "#s"), some (.loc 1), some (.loc t), some (.loc h2.length), none, none, none, none, none, none, none] (h2 ++ [.dct rv.kvs.reverse]) := by
      have q := @rev_kvs rv
      simp [lw3, T2.t, T2.d]
      simpa using q
    have t3 : (h2 ++ [AO.dct rv.kvs.reverse])[t]? = some (.lst [.tup (ms.map mav), .int nf, .int nl, .loc d, .tup (ws.map .str)]) := by rw [get_app (by rw [T2.t]; rfl), T2.t]
    have E4 : lw4 ns [some (.gl "#s"), some (.loc 1), some (.loc t), some (.loc h2.length), none, none, none, none, none, none, none] (h2 ++ [.dct rv.kvs.reverse]) = .nx (envM t h2.length (h2.length + 1)) h4 := by
      have t3' : (h2 ++ [AO.dct rv.kvs.reverse, AO.ins "Book" []])[t]? = some (.lst [.tup (ms.map mav), .int nf, .int nl, .loc d, .tup (ws.map .str)]) := by rw [get_app (by rw [T2.t]; rfl), T2.t]
      dsimp only [h3] at e4
      generalize rv.kvs.reverse = kk at *
      simp [lw4, t3, t3', e4]
    have E5 : lw5 ns (envM t h2.length (h2.length + 1)) h4 = .nx (envM t h2.length (h2.length + 1)) h5 := by
      generalize rv.kvs.reverse = kk at *
      simp [lw5, r4, h5]
    have E6 : lw6 ns (envM t h2.length (h2.length + 1)) h5 = .nx (envM t h2.length (h2.length + 1)) h6 := by
      simp [lw6, B5.b, rp5, h6]
    have E9 : lw9 ns (envM t h2.length (h2.length + 1)) h8 = .nx [some (.gl "#s"), some (.loc 1), some (.loc t), some (.loc h2.length), some (.loc (h2.length + 1)), some (.loc (h8.length + 3)), none, none, none, none, none] (h8 ++ [.lst (os1.map .str), .lst (os2.map .str), .lst (os3.map .str), .dct (gdR h8.length (h8.length + 1) (h8.length + 2) (h8.length + 4) (h8.length + 5)), .lst (os4.map .str), .lst (os5.map .str), .dct [(.str "spread", .loc (h8.length + 4)), (.str "tie", .loc (h8.length + 5))]]) := by
      simp [lw9, points_ok, os1, os2, os3, os4, os5]
    have E10 : lw10 ns [some (.gl "#s"), some (.loc 1), some (.loc t), some (.loc h2.length), some (.loc (h2.length + 1)), some (.loc (h8.length + 3)), none, none, none, none, none] (h8 ++ [.lst (os1.map .str), .lst (os2.map .str), .lst (os3.map .str), .dct (gdR h8.length (h8.length + 1) (h8.length + 2) (h8.length + 4) (h8.length + 5)), .lst (os4.map .str), .lst (os5.map .str), .dct [(.str "spread", .loc (h8.length + 4)), (.str "tie", .loc (h8.length + 5))]]) = .nx (envL t h2.length (h2.length + 1) (h8.length + 3) pt none none) h10 := by
      dsimp only [h9] at e10
      simp [PSx] at e10 hk10 ev
      simp [lw10, keysOf, e10, hk10, ev]
    have E15 : lw15 ns ((envL t h2.length (h2.length + 1) (h8.length + 3) pt x7 x9).set 8 x8) h15 = .ret (.bl true) hb := by
      simp [lw15, ea, eb, eq]
    have big : b_law ns [some (.gl "#s"), none, none, none, none, none, none, none, none, none, none] [] = .ret (.bl true) hb := by
      rw [law_body]
      simp only [sv_seq, E1, E2, E3, E4, E5, E6, e7, e8, E9, E10, e11, e12, e13, e15, E15]
    unfold f_law
    simp [big]
  have cs : n = 0 ∨ n = 1 ∨ n = 2 := by omega
  have R0 : rangeL 0 0 = [] := rfl
  have R1 : rangeL 0 1 = [.int 0] := rfl
  have R2 : rangeL 0 2 = [.int 0, .int 1] := rfl
  rcases cs with rfl | rfl | rfl
  · exact ⟨none, h14, 5, by simp [lw14, e14, R0], ⟨_, _, _, _, _, _, _, S14⟩⟩
  · obtain ⟨h15, e15, S15⟩ := spoil_ok S14 (by omega)
    exact ⟨some (.int 0), h15, _, by simp [lw14, e14, R1, l_law_4, e15], S15⟩
  · obtain ⟨h15, e15, S15⟩ := spoil_ok S14 (by omega)
    obtain ⟨w0, w1, w2, w3, w4, c1, c2, P15⟩ := S15
    obtain ⟨h16, e16, S16⟩ := spoil_ok P15 (by omega)
    exact ⟨some (.int 1), h16, _, by simp [lw14, e14, R2, l_law_4, e15, e16], S16⟩
end K06
set_option maxRecDepth 100000
open PySem PySem.W PyProof.Rows in
set_option maxRecDepth 100000 in
set_option maxHeartbeats 0 in
theorem PySem.Challenge.cw_copyfollows_k06_books_refused_holds : PySem.Challenge.rw_copyfollows_k06_books_refused.Holds := by
  w_on; o_law; k_head; (case hw => w_witness2)
  k_fill
  refine PL.walk_law (l := PySem.Challenge.rw_copyfollows_k06_books_refused) (k := 8) (x := "_law_script") (F := K06.f_law) rfl rfl ⟨rfl, by decide, by decide⟩ (fun w h Y => PySem.W.kIn_of Y) ?F K06.law_true
  case F =>
    intro w mg fa h KX G hmg
    refine' K06.all_mk KX G hmg ?gc_Book ?gc_CopyError ?gc_InvalidMasters ?gc_InvalidRule ?gc_InvalidSize ?gc_InvalidWords ?pg_Book ?po_Book ?sa_Book ?ic_Book ?ns_POINTS ?hd_POINTS ?hk_POINTS_0 ?hk_POINTS_1 ?hk_POINTS_2 ?hk_POINTS_3 ?hk_POINTS_4 ?lo_POINTS ?xi_InvalidMasters ?ek_InvalidMasters ?eb_InvalidMasters ?et_InvalidMasters ?xi_InvalidSize ?ek_InvalidSize ?eb_InvalidSize ?et_InvalidSize ?xi_InvalidWords ?ek_InvalidWords ?eb_InvalidWords ?et_InvalidWords ?hg_MOST_ROWS ?hg_WORDS ?hk_WORDS ?ca_Book ?cn_Book ?ct_Book ?cm_Book ?no_Book_NoneType ?no_Book_bool ?no_Book_int ?no_Book_str ?no_Book_tuple ?no_Book_list ?no_Book_dict ?nl_Book ?m_InvalidMasters__InvalidMasters ?m_InvalidMasters__InvalidRule ?m_InvalidMasters__InvalidSize ?m_InvalidMasters__InvalidWords ?m_InvalidRule__InvalidMasters ?m_InvalidRule__InvalidRule ?m_InvalidRule__InvalidSize ?m_InvalidRule__InvalidWords ?m_InvalidSize__InvalidMasters ?m_InvalidSize__InvalidRule ?m_InvalidSize__InvalidSize ?m_InvalidSize__InvalidWords ?m_InvalidWords__InvalidMasters ?m_InvalidWords__InvalidRule ?m_InvalidWords__InvalidSize ?m_InvalidWords__InvalidWords ?xl_InvalidRule ?xs_InvalidRule ?ek_InvalidRule ?eb_InvalidRule ?et_InvalidRule ?a_InvalidRule___init__ ?ty_InvalidRule___init__ ?l_InvalidRule___init__ ?c_InvalidRule___init__ ?k_InvalidRule___init__ ?no_f_InvalidRule_point ?at_Book_many_fields ?ge_Book_many_fields ?tk_Book_many_fields ?ty_Book_many_fields ?ix_Book_many_fields ?at_Book_many_values ?ge_Book_many_values ?tk_Book_many_values ?ty_Book_many_values ?ix_Book_many_values ?at_Book_points ?ge_Book_points ?tk_Book_points ?ty_Book_points ?ix_Book_points ?at_Book_told_words ?ge_Book_told_words ?tk_Book_told_words ?ty_Book_told_words ?ix_Book_told_words ?at_Book_tops ?ge_Book_tops ?tk_Book_tops ?ty_Book_tops ?ix_Book_tops ?ya_InvalidMasters ?yb_InvalidMasters ?yc_InvalidMasters ?yd_InvalidMasters ?ca_InvalidMasters ?cn_InvalidMasters ?ct_InvalidMasters ?cm_InvalidMasters ?no_x_InvalidMasters_CopyError ?ya_InvalidRule ?yb_InvalidRule ?yc_InvalidRule ?yd_InvalidRule ?yn_InvalidRule_point ?hz_all ?hz_bool ?hz_dict ?hz_enumerate ?hz_int ?hz_isinstance ?hz_len ?hz_list ?hz_max ?hz_range ?hz_set ?hz_sorted ?hz_str ?hz_tuple ?a__law_mix ?l__law_mix ?c__law_mix ?k__law_mix ?a__law_next ?l__law_next ?c__law_next ?k__law_next ?a__law_points ?l__law_points ?c__law_points ?k__law_points ?a__law_rule ?l__law_rule ?c__law_rule ?k__law_rule ?a__law_book ?l__law_book ?c__law_book ?k__law_book ?a_is_integer ?l_is_integer ?c_is_integer ?k_is_integer ?a_is_between ?l_is_between ?c_is_between ?k_is_between ?a_are_masters ?l_are_masters ?c_are_masters ?k_are_masters ?a_look_at_rule ?l_look_at_rule ?c_look_at_rule ?k_look_at_rule ?a_are_words ?l_are_words ?c_are_words ?k_are_words ?a_Book___init__ ?i_Book___init__ ?l_Book___init__ ?c_Book___init__ ?k_Book___init__ ?mk_Book ?kc_Book ?a_Book_rule ?g_Book_rule ?t_Book_rule ?r_Book_rule ?l_Book_rule ?c_Book_rule ?k_Book_rule ?a_Book_words ?g_Book_words ?t_Book_words ?r_Book_words ?l_Book_words ?c_Book_words ?k_Book_words ?a_Book_levels ?g_Book_levels ?t_Book_levels ?r_Book_levels ?l_Book_levels ?c_Book_levels ?k_Book_levels ?a_Book_fields ?g_Book_fields ?t_Book_fields ?r_Book_fields ?l_Book_fields ?c_Book_fields ?k_Book_fields ?a_Book_masters ?g_Book_masters ?t_Book_masters ?r_Book_masters ?l_Book_masters ?c_Book_masters ?k_Book_masters ?a_Book_frame ?i_Book_frame ?l_Book_frame ?c_Book_frame ?k_Book_frame ?a_Book___eq__ ?i_Book___eq__ ?l_Book___eq__ ?c_Book___eq__ ?k_Book___eq__ ?nw_Book___eq__ ?a_Book_turned ?i_Book_turned ?l_Book_turned ?c_Book_turned ?k_Book_turned ?a__law_turned ?l__law_turned ?c__law_turned ?k__law_turned ?a__law_spoil ?l__law_spoil ?c__law_spoil ?k__law_spoil ?a__law_told ?l__law_told ?c__law_told ?k__law_told ?a__law_int ?l__law_int ?c__law_int ?k__law_int ?a__law_due ?l__law_due ?c__law_due ?k__law_due ?a_law ?l_law ?c_law ?k_law
    (case gc_Book => k_is)
    (case gc_CopyError => k_is)
    (case gc_InvalidMasters => k_is)
    (case gc_InvalidRule => k_is)
    (case gc_InvalidSize => k_is)
    (case gc_InvalidWords => k_is)
    (case pg_Book => k_is)
    (case po_Book => k_is)
    (case sa_Book => k_is)
    (case ic_Book => k_is)
    (case ns_POINTS => k_is)
    (case hd_POINTS => k_is)
    (case hk_POINTS_0 => k_is)
    (case hk_POINTS_1 => k_is)
    (case hk_POINTS_2 => k_is)
    (case hk_POINTS_3 => k_is)
    (case hk_POINTS_4 => k_is)
    (case lo_POINTS => first | k_is | rfl)
    (case xi_InvalidMasters => k_exc)
    (case ek_InvalidMasters => k_is)
    (case eb_InvalidMasters => k_is)
    (case et_InvalidMasters => k_is)
    (case xi_InvalidSize => k_exc)
    (case ek_InvalidSize => k_is)
    (case eb_InvalidSize => k_is)
    (case et_InvalidSize => k_is)
    (case xi_InvalidWords => k_exc)
    (case ek_InvalidWords => k_is)
    (case eb_InvalidWords => k_is)
    (case et_InvalidWords => k_is)
    (case hg_MOST_ROWS => k_is)
    (case hg_WORDS => k_is)
    (case hk_WORDS => k_is)
    (case ca_Book => k_is)
    (case cn_Book => k_is)
    (case ct_Book => k_is)
    (case cm_Book => k_is)
    (case no_Book_NoneType => kit_is)
    (case no_Book_bool => kit_is)
    (case no_Book_int => kit_is)
    (case no_Book_str => kit_is)
    (case no_Book_tuple => kit_is)
    (case no_Book_list => kit_is)
    (case no_Book_dict => kit_is)
    (case nl_Book => k_is)
    (case m_InvalidMasters__InvalidMasters => kts_exm)
    (case m_InvalidMasters__InvalidRule => kts_exm)
    (case m_InvalidMasters__InvalidSize => kts_exm)
    (case m_InvalidMasters__InvalidWords => kts_exm)
    (case m_InvalidRule__InvalidMasters => kts_exm)
    (case m_InvalidRule__InvalidRule => kts_exm)
    (case m_InvalidRule__InvalidSize => kts_exm)
    (case m_InvalidRule__InvalidWords => kts_exm)
    (case m_InvalidSize__InvalidMasters => kts_exm)
    (case m_InvalidSize__InvalidRule => kts_exm)
    (case m_InvalidSize__InvalidSize => kts_exm)
    (case m_InvalidSize__InvalidWords => kts_exm)
    (case m_InvalidWords__InvalidMasters => kts_exm)
    (case m_InvalidWords__InvalidRule => kts_exm)
    (case m_InvalidWords__InvalidSize => kts_exm)
    (case m_InvalidWords__InvalidWords => kts_exm)
    (case xl_InvalidRule => k_is)
    (case xs_InvalidRule => k_is)
    (case ek_InvalidRule => k_is)
    (case eb_InvalidRule => k_is)
    (case et_InvalidRule => k_is)
    (case a_InvalidRule___init__ => k_is)
    (case ty_InvalidRule___init__ => k_is)
    (case l_InvalidRule___init__ => k_is)
    (case c_InvalidRule___init__ => k_is)
    (case k_InvalidRule___init__ => k_is)
    (case no_f_InvalidRule_point => k_is)
    (case at_Book_many_fields => k_is)
    (case ge_Book_many_fields => k_is)
    (case tk_Book_many_fields => k_is)
    (case ty_Book_many_fields => k_is)
    (case ix_Book_many_fields => k_is)
    (case at_Book_many_values => k_is)
    (case ge_Book_many_values => k_is)
    (case tk_Book_many_values => k_is)
    (case ty_Book_many_values => k_is)
    (case ix_Book_many_values => k_is)
    (case at_Book_points => k_is)
    (case ge_Book_points => k_is)
    (case tk_Book_points => k_is)
    (case ty_Book_points => k_is)
    (case ix_Book_points => k_is)
    (case at_Book_told_words => k_is)
    (case ge_Book_told_words => k_is)
    (case tk_Book_told_words => k_is)
    (case ty_Book_told_words => k_is)
    (case ix_Book_told_words => k_is)
    (case at_Book_tops => k_is)
    (case ge_Book_tops => k_is)
    (case tk_Book_tops => k_is)
    (case ty_Book_tops => k_is)
    (case ix_Book_tops => k_is)
    (case ya_InvalidMasters => k_is)
    (case yb_InvalidMasters => k_is)
    (case yc_InvalidMasters => k_is)
    (case yd_InvalidMasters => k_is)
    (case ca_InvalidMasters => k_is)
    (case cn_InvalidMasters => k_is)
    (case ct_InvalidMasters => k_is)
    (case cm_InvalidMasters => k_is)
    (case no_x_InvalidMasters_CopyError => kit_is)
    (case ya_InvalidRule => k_is)
    (case yb_InvalidRule => k_is)
    (case yc_InvalidRule => k_is)
    (case yd_InvalidRule => k_is)
    (case yn_InvalidRule_point => k_is)
    (case hz_all => k_is)
    (case hz_bool => k_is)
    (case hz_dict => k_is)
    (case hz_enumerate => k_is)
    (case hz_int => k_is)
    (case hz_isinstance => k_is)
    (case hz_len => k_is)
    (case hz_list => k_is)
    (case hz_max => k_is)
    (case hz_range => k_is)
    (case hz_set => k_is)
    (case hz_sorted => k_is)
    (case hz_str => k_is)
    (case hz_tuple => k_is)
    (case a__law_mix => k_is)
    (case l__law_mix => k_is)
    (case c__law_mix => k_is)
    (case k__law_mix => k_is)
    (case a__law_next => k_is)
    (case l__law_next => k_is)
    (case c__law_next => k_is)
    (case k__law_next => k_is)
    (case a__law_points => k_is)
    (case l__law_points => k_is)
    (case c__law_points => k_is)
    (case k__law_points => k_is)
    (case a__law_rule => k_is)
    (case l__law_rule => k_is)
    (case c__law_rule => k_is)
    (case k__law_rule => k_is)
    (case a__law_book => k_is)
    (case l__law_book => k_is)
    (case c__law_book => k_is)
    (case k__law_book => k_is)
    (case a_is_integer => k_is)
    (case l_is_integer => k_is)
    (case c_is_integer => k_is)
    (case k_is_integer => k_is)
    (case a_is_between => k_is)
    (case l_is_between => k_is)
    (case c_is_between => k_is)
    (case k_is_between => k_is)
    (case a_are_masters => k_is)
    (case l_are_masters => k_is)
    (case c_are_masters => k_is)
    (case k_are_masters => k_is)
    (case a_look_at_rule => k_is)
    (case l_look_at_rule => k_is)
    (case c_look_at_rule => k_is)
    (case k_look_at_rule => k_is)
    (case a_are_words => k_is)
    (case l_are_words => k_is)
    (case c_are_words => k_is)
    (case k_are_words => k_is)
    (case a_Book___init__ => k_is)
    (case i_Book___init__ => k_is)
    (case l_Book___init__ => k_is)
    (case c_Book___init__ => k_is)
    (case k_Book___init__ => k_is)
    (case mk_Book => k_is)
    (case kc_Book => k_is)
    (case a_Book_rule => k_is)
    (case g_Book_rule => k_is)
    (case t_Book_rule => k_is)
    (case r_Book_rule => k_is)
    (case l_Book_rule => k_is)
    (case c_Book_rule => k_is)
    (case k_Book_rule => k_is)
    (case a_Book_words => k_is)
    (case g_Book_words => k_is)
    (case t_Book_words => k_is)
    (case r_Book_words => k_is)
    (case l_Book_words => k_is)
    (case c_Book_words => k_is)
    (case k_Book_words => k_is)
    (case a_Book_levels => k_is)
    (case g_Book_levels => k_is)
    (case t_Book_levels => k_is)
    (case r_Book_levels => k_is)
    (case l_Book_levels => k_is)
    (case c_Book_levels => k_is)
    (case k_Book_levels => k_is)
    (case a_Book_fields => k_is)
    (case g_Book_fields => k_is)
    (case t_Book_fields => k_is)
    (case r_Book_fields => k_is)
    (case l_Book_fields => k_is)
    (case c_Book_fields => k_is)
    (case k_Book_fields => k_is)
    (case a_Book_masters => k_is)
    (case g_Book_masters => k_is)
    (case t_Book_masters => k_is)
    (case r_Book_masters => k_is)
    (case l_Book_masters => k_is)
    (case c_Book_masters => k_is)
    (case k_Book_masters => k_is)
    (case a_Book_frame => k_is)
    (case i_Book_frame => k_is)
    (case l_Book_frame => k_is)
    (case c_Book_frame => k_is)
    (case k_Book_frame => k_is)
    (case a_Book___eq__ => k_is)
    (case i_Book___eq__ => k_is)
    (case l_Book___eq__ => k_is)
    (case c_Book___eq__ => k_is)
    (case k_Book___eq__ => k_is)
    (case nw_Book___eq__ => k_is)
    (case a_Book_turned => k_is)
    (case i_Book_turned => k_is)
    (case l_Book_turned => k_is)
    (case c_Book_turned => k_is)
    (case k_Book_turned => k_is)
    (case a__law_turned => k_is)
    (case l__law_turned => k_is)
    (case c__law_turned => k_is)
    (case k__law_turned => k_is)
    (case a__law_spoil => k_is)
    (case l__law_spoil => k_is)
    (case c__law_spoil => k_is)
    (case k__law_spoil => k_is)
    (case a__law_told => k_is)
    (case l__law_told => k_is)
    (case c__law_told => k_is)
    (case k__law_told => k_is)
    (case a__law_int => k_is)
    (case l__law_int => k_is)
    (case c__law_int => k_is)
    (case k__law_int => k_is)
    (case a__law_due => k_is)
    (case l__law_due => k_is)
    (case c__law_due => k_is)
    (case k__law_due => k_is)
    (case a_law => k_is)
    (case l_law => k_is)
    (case c_law => k_is)
    (case k_law => k_is)
