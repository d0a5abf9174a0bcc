import PyProof.Rows.All
import Wide.All
import OpenK.AllK
import Wide.FinOn
import Open.SpecLaws
import KE.OsGo
import KE.KStateDown
import KE.OsHead
import HandS.ForSpec
import HandS.ForMost
import HandS.TupAny
import HandS.CallSlots
import HandS.ExcOwn
import HandS.SetFor
import HandS.Text
import HandS.Strs
import HandS.Iter
import HandS.Defaults
import HandS.Head4
import HandS.HeadHook1
import HandS.HeadHook2
import HandS.Spec
import HandS.Dict
import HandS.ExcInit
import HandS.TryOnly
import PySem.Challenge.RW_macromarkup_s03_tokens
set_option Elab.async false
set_option linter.all false
set_option maxRecDepth 100000
set_option maxHeartbeats 0
namespace MM
inductive Fn where
  | need | is_white | is_letter | is_figure | is_punctuation | is_label | sign_of | word_of | points_of | place_of | point_at | decoded | white_end | letters_end | is_paragraph | white_token | comment_end_tokens | parameter_token | math_token | literal_token | content_end | content_token | command_token | backslash_token | token_at | tokens_of | tokens | bytes_of | encoded | roman_of | told | roman
  deriving DecidableEq, Inhabited
end MM
/-! The IR: pure data, abstract heap, expressions, statements, and what they compute. -/
namespace MM

/-- data: tuples, and lists that nobody changes any more, are values; loc n is a thing of the abstract heap -/
inductive D where
  | non | bl (b : Bool) | int (i : Int) | str (s : List Nat) | tup (l : List D) | lst (l : List D) | inp (l : List D) | loc (n : Nat) | fn (f : Fn)
  deriving Inhabited
inductive HObj where
  | lst (l : List D) | ins (c : String) (fs : List (String × D)) | dct (kvs : List (List Nat × D))
  deriving Inhabited
abbrev AH := List HObj
abbrev Slots := List (Option D)
inductive Exc where
  | wrong (k p : Int) | nodoc
  deriving DecidableEq
inductive R (α : Type) where
  | ok (a : α) (h : AH) | ex (e : Exc)
abbrev Res (α : Type) := Option (R α)

def cds (s : String) : List Nat := s.toList.map Char.toNat

/-- more than a list may hold -/
def szl : Nat := 16777216

/-! ### the IR -/
inductive BinO where
  | add | sub | mul | div | mod
  deriving DecidableEq
inductive CmpO where
  | lt | le | gt | ge | eq | ne
  deriving DecidableEq
inductive BI where
  | len | tuple | list | listm | all | any | max2 | min2 | maxd | int | str | ord | dict
  deriving DecidableEq
inductive Tg where
  | one (i : Nat) | tup (is : List Nat)

mutual
inductive IE where
  | var (i : Nat) | int (z : Int) | neg (n : Nat) | str (s : String) | bl (b : Bool) | non | gl (name : String) (d : D)
  | tup (es : IEs) | lst (es : IEs) | mk (es : IEs) | mkd
  | bin (o : BinO) (a b : IE) | cmp (o : CmpO) (a b : IE) | isN (a : IE) | notN (a : IE)
  | isin (a b : IE) | notin (a b : IE) | isnil (a : IE) | notnil (a : IE)
  | gin (n : String) (t : List (D × D)) (a : IE) | gnin (n : String) (t : List (D × D)) (a : IE) | din (a b : IE) | dnin (a b : IE)
  | chain (a : IE) (o1 : CmpO) (b : IE) (o2 : CmpO) (c : IE)
  | and (a b : IE) | or (a b : IE) | not (a : IE) | ife (c a b : IE)
  | idx (a b : IE) | gget (n : String) (t : List (D × D)) (a : IE) | ggetd (n : String) (t : List (D × D)) (a d : IE) | dget (a b : IE)
  | sl2 (a lo hi : IE) | slF (a lo : IE) | slT (a hi : IE)
  | bi (b : BI) (es : IEs)
  | call (f : Fn) (es : IEs) | meth (f : Fn) (c m : String) (a : IE) (es : IEs) | make (c : String) (f : Fn) (es : IEs) | callv (i : Nat) (es : IEs)
  | fld (a : IE) (f : String)
  | app (a e : IE) | ext (a e : IE) | pop (a : IE) | cnt (a e : IE) | index (a e : IE) | join (a e : IE) | dpop (a e : IE)
  | lc (x own : Bool) (t : Tg) (s : Src) (elt cond : IE)
inductive IEs where
  | nil | cons (a : IE) (r : IEs)
inductive Src where
  | sq (e : IE) | rng (a b : IE) | rng1 (b : IE) | sgns (e : IE) | items (e : IE) | enum (e : IE) | rev (e : IE)
end

inductive IS where
  | skip | seq (a b : IS)
  | set (i : Nat) (e : IE) | setT (is : List Nat) (e : IE) | par (i j : Nat) (a b : IE) | setTF (i s : Nat) (f : String) (e : IE)
  | fset (o : IE) (f : String) (e : IE) | dset (o k e : IE)
  | expr (e : IE) | ret (e : IE) | retN
  | ife (c : IE) (a b : IS) | while (c : IE) (b : IS) | for (t : Tg) (s : Src) (b : IS)
  | raise (k p : IE) | raiseNo
  | tryw (b hd : IS) | tryn (b hd : IS) | tryas (b : IS)

structure FunDef where
  np : Nat
  ns : Nat
  body : IS

/-! ### small parts -/
def getI {α : Type} (xs : List α) (i : Int) : Option α :=
  if 0 ≤ i then xs[i.toNat]? else if -(xs.length : Int) ≤ i then xs[(i + xs.length).toNat]? else none
/-- where a slice's bound lies -/
def cutI (n : Nat) (i : Int) : Nat := if i < 0 then (i + n).toNat else min i.toNat n
def cut {α : Type} (xs : List α) (lo hi : Nat) : List α := (xs.drop lo).take (hi - lo)

def cutO (n d : Nat) : Option Int → Nat
  | none => d
  | some i => cutI n i
@[simp] theorem cutO_none (n d : Nat) : cutO n d none = d := rfl
@[simp] theorem cutO_some (n d : Nat) (i : Int) : cutO n d (some i) = cutI n i := rfl
def cutS {α : Type} (l : List α) (lo hi : Option Int) : List α := cut l (cutO l.length 0 lo) (cutO l.length l.length hi)
@[simp] def slot : Slots → Nat → Option D
  | [], _ => none
  | x :: _, 0 => x
  | _ :: r, n + 1 => slot r n
@[simp] def setS : Slots → Nat → D → Slots
  | [], _, _ => []
  | _ :: r, 0, d => some d :: r
  | x :: r, n + 1, d => x :: setS r n d
@[simp] def wipeS : Slots → Nat → Slots
  | [], _ => []
  | _ :: r, 0 => none :: r
  | x :: r, n + 1 => x :: wipeS r n

mutual
def beqD : D → D → Bool
  | .non, .non => true
  | .bl a, .bl b => a == b
  | .int a, .int b => a == b
  | .str a, .str b => a == b
  | .tup a, .tup b => beqDs a b
  | .lst a, .lst b => beqDs a b
  | .inp a, .inp b => beqDs a b
  | .loc a, .loc b => a == b
  | .fn a, .fn b => decide (a = b)
  | _, _ => false
def beqDs : List D → List D → Bool
  | [], [] => true
  | a :: x, b :: y => beqD a b && beqDs x y
  | _, _ => false
end
def beqFs : List (String × D) → List (String × D) → Bool
  | [], [] => true
  | a :: x, b :: y => decide (a.1 = b.1) && beqD a.2 b.2 && beqFs x y
  | _, _ => false
def beqKs : List (List Nat × D) → List (List Nat × D) → Bool
  | [], [] => true
  | a :: x, b :: y => a.1 == b.1 && beqD a.2 b.2 && beqKs x y
  | _, _ => false
def beqO : HObj → HObj → Bool
  | .lst a, .lst b => beqDs a b
  | .ins c f, .ins d g => decide (c = d) && beqFs f g
  | .dct a, .dct b => beqKs a b
  | _, _ => false
def beqH : AH → AH → Bool
  | [], [] => true
  | a :: x, b :: y => beqO a b && beqH x y
  | _, _ => false
/-- what a loop goes through stands as it stood -/
def lockOk (lk : Option (Nat × HObj)) (h : AH) : Bool := match lk with
  | none => true
  | some (n, o) => match h[n]? with
    | some o' => beqO o o'
    | none => false
def lockOf (h : AH) (d : D) : Option (Nat × HObj) := match d with
  | .loc n => (h[n]?).map fun o => (n, o)
  | _ => none
def isLst (h : AH) : D → Bool
  | .lst _ => true
  | .inp _ => true
  | .loc n => match h[n]? with
    | some (.lst _) => true
    | _ => false
  | _ => false
def isDct (h : AH) : D → Bool
  | .loc n => match h[n]? with
    | some (.dct _) => true
    | _ => false
  | _ => false
def isTup : D → Bool
  | .tup _ => true
  | _ => false
def isStrD : D → Bool
  | .str _ => true
  | _ => false
def isNon : D → Bool
  | .non => true
  | _ => false
def isScal : D → Bool
  | .non | .bl _ | .int _ | .str _ => true
  | _ => false
mutual
/-- no location, no function, texts of plain signs -/
def pureD : D → Bool
  | .non | .bl _ | .int _ => true
  | .str s => s.all fun c => decide (c < 128)
  | .tup l => pureDs l
  | .lst l => pureDs l
  | .inp l => pureDs l
  | .loc _ | .fn _ => false
def pureDs : List D → Bool
  | [] => true
  | d :: r => pureD d && pureDs r
end
mutual
def depthD : D → Nat
  | .tup l => depthDs l + 1
  | .lst l => depthDs l + 1
  | .inp l => depthDs l + 1
  | _ => 0
def depthDs : List D → Nat
  | [] => 0
  | d :: r => max (depthD d) (depthDs r)
end
mutual
/-- equal, as Python says it of such data -/
def eqD : D → D → Bool
  | .non, .non => true
  | .bl a, .bl b => a == b
  | .bl a, .int j => (if a then 1 else 0) == j
  | .int i, .bl b => i == (if b then 1 else 0)
  | .int i, .int j => i == j
  | .str x, .str y => x == y
  | .tup a, .tup b => eqDs a b
  | .lst a, .lst b => eqDs a b
  | .lst a, .inp b => eqDs a b
  | .inp a, .lst b => eqDs a b
  | .inp a, .inp b => eqDs a b
  | _, _ => false
def eqDs : List D → List D → Bool
  | [], [] => true
  | a :: x, b :: y => eqD a b && eqDs x y
  | _, _ => false
end
/-- what == answers -/
def eqR (a b : D) : Option Bool :=
  if isScal a && isScal b then some (eqD a b)
  else if pureD a && pureD b && decide (min (depthD a) (depthD b) ≤ 64) then some (eqD a b) else none

def seqOf (h : AH) : D → Option (List D)
  | .tup l => some l
  | .lst l => some l
  | .inp l => some l
  | .loc n => match h[n]? with
    | some (.lst l) => some l
    | _ => none
  | _ => none
/-- a list of the program's own making -/
def trkOf (h : AH) : D → Option (List D)
  | .lst l => some l
  | .loc n => match h[n]? with
    | some (.lst l) => some l
    | _ => none
  | _ => none
/-- what a list may be extended by -/
def extOf (h : AH) : D → Option (List D)
  | .tup l => some l
  | .lst l => some l
  | .loc n => match h[n]? with
    | some (.lst l) => some l
    | _ => none
  | _ => none
/-- a list's items: of a value, or of a location -/
def lstOf (h : AH) : D → Option (List D)
  | .lst l => some l
  | .inp l => some l
  | .loc n => match h[n]? with
    | some (.lst l) => some l
    | _ => none
  | _ => none
def slR (x : D) (lo hi : Option Int) (h : AH) : Option (R D) := match x with
  | .tup l => some (.ok (.tup (cutS l lo hi)) h)
  | x => (lstOf h x).map fun l => .ok (.lst (cutS l lo hi)) h
@[simp] theorem slR_tup (l : List D) (lo hi : Option Int) (h : AH) : slR (.tup l) lo hi h = some (.ok (.tup (cutS l lo hi)) h) := rfl
@[simp] theorem slR_lst (l : List D) (lo hi : Option Int) (h : AH) : slR (.lst l) lo hi h = some (.ok (.lst (cutS l lo hi)) h) := rfl
@[simp] theorem slR_inp (l : List D) (lo hi : Option Int) (h : AH) : slR (.inp l) lo hi h = some (.ok (.lst (cutS l lo hi)) h) := rfl
@[simp] def getF : List (String × D) → String → Option D
  | [], _ => none
  | (k, v) :: r, f => if k = f then some v else getF r f
def putFd : List (String × D) → String → D → List (String × D)
  | [], f, v => [(f, v)]
  | (k, w) :: r, f, v => if k = f then (k, v) :: r else (k, w) :: putFd r f v
def getK : List (List Nat × D) → List Nat → Option D
  | [], _ => none
  | (k, v) :: r, f => if k = f then some v else getK r f
def putK : List (List Nat × D) → List Nat → D → List (List Nat × D)
  | [], f, v => [(f, v)]
  | (k, w) :: r, f, v => if k = f then (k, v) :: r else (k, w) :: putK r f v
def dropK : List (List Nat × D) → List Nat → List (List Nat × D)
  | [], _ => []
  | (k, w) :: r, f => if k = f then r else (k, w) :: dropK r f
/-- a written table: keys ints or texts -/
def tabGet : List (D × D) → D → Option D
  | [], _ => none
  | (k, v) :: r, x => if eqD k x then some v else tabGet r x
def keyOk : D → Bool
  | .int _ | .str _ => true
  | _ => false

def int2 (a b : D) (f : Int → Int → Res D) : Res D := match a with
  | .int i => (match b with
    | .int j => f i j
    | _ => none)
  | _ => none
def catR (a b : D) (h : AH) : Res D := (trkOf h a).bind fun x => (trkOf h b).bind fun y => if x.length + y.length ≤ szl then some (.ok (.lst (x ++ y)) h) else none
def repR (a b : D) (h : AH) : Res D := match b with
  | .int k => (trkOf h a).bind fun x => if 0 ≤ k ∧ k < 2 ^ 62 ∧ x.length * k.toNat ≤ szl then some (.ok (.lst (List.replicate k.toNat x).flatten) h) else none
  | _ => none
def addR (a b : D) (h : AH) : Res D := match a with
  | .int i => (match b with
    | .int j => some (.ok (.int (i + j)) h)
    | _ => none)
  | .str x => (match b with
    | .str y => if x.length + y.length ≤ szl then some (.ok (.str (x ++ y)) h) else none
    | _ => none)
  | .tup x => (match b with
    | .tup y => if x.length + y.length ≤ szl then some (.ok (.tup (x ++ y)) h) else none
    | _ => none)
  | .lst x => catR (.lst x) b h
  | .loc x => catR (.loc x) b h
  | _ => none
def mulR (a b : D) (h : AH) : Res D := match a with
  | .int i => (match b with
    | .int j => if -(2 ^ 64) < i ∧ i < 2 ^ 64 then some (.ok (.int (i * j)) h) else none
    | _ => none)
  | .lst x => repR (.lst x) b h
  | .loc x => repR (.loc x) b h
  | _ => none
def binR (o : BinO) (a b : D) (h : AH) : Res D := match o with
  | .add => addR a b h
  | .sub => int2 a b fun i j => some (.ok (.int (i - j)) h)
  | .mul => mulR a b h
  | .div => int2 a b fun i j => if 0 < j ∧ j < 1073741824 then some (.ok (.int (i / j)) h) else none
  | .mod => int2 a b fun i j => if 0 < j then some (.ok (.int (i % j)) h) else none

def cmpI (a b : D) (f : Int → Int → Bool) : Option Bool := match a with
  | .int i => (match b with
    | .int j => some (f i j)
    | _ => none)
  | _ => none
def cmpR (o : CmpO) (h : AH) (a b : D) : Option Bool := match o with
  | .eq => eqR a b
  | .ne => (eqR a b).map (!·)
  | .lt => cmpI a b fun i j => decide (i < j)
  | .le => cmpI a b fun i j => decide (i ≤ j)
  | .gt => cmpI a b fun i j => decide (j < i)
  | .ge => cmpI a b fun i j => decide (j ≤ i)

def allBl : List D → Option (List Bool)
  | [] => some []
  | .bl b :: r => (allBl r).map (b :: ·)
  | _ => none
def allInt : List D → Option (List Int)
  | [] => some []
  | .int b :: r => (allInt r).map (b :: ·)
  | _ => none
def allStr : List D → Option (List (List Nat))
  | [] => some []
  | .str b :: r => (allStr r).map (b :: ·)
  | _ => none

def digits (n : Nat) : List Nat := (toString n).toList.map Char.toNat
def lenOf (h : AH) : D → Option Nat
  | .str s => if s.length ≤ szl then some s.length else none
  | d => (seqOf h d).map List.length

def bi1 (vs : List D) (f : D → Res D) : Res D := match vs with
  | [d] => f d
  | _ => none
def bi2 (vs : List D) (f : Int → Int → Res D) : Res D := match vs with
  | [x, y] => (match x with
    | .int i => (match y with
      | .int j => f i j
      | _ => none)
    | _ => none)
  | _ => none
def intR (d : D) (h : AH) : Res D := match d with
  | .int i => some (.ok (.int i) h)
  | .bl k => some (.ok (.int (if k then 1 else 0)) h)
  | _ => none
def strR (d : D) (h : AH) : Res D := match d with
  | .int i => if 0 ≤ i ∧ i < 10 ^ 18 then some (.ok (.str (digits i.toNat)) h) else none
  | _ => none
def ordR (d : D) (h : AH) : Res D := match d with
  | .str s => (match s with
    | [c] => some (.ok (.int c) h)
    | _ => none)
  | _ => none
def dictR (d : D) (h : AH) : Res D := match d with
  | .loc n => (match h[n]? with
    | some (.dct kvs) => some (.ok (.loc h.length) (h ++ [.dct kvs]))
    | _ => none)
  | _ => none
def maxL (l : List Int) : Int := match l with
  | [] => 0
  | x :: r => r.foldl max x
def biR (b : BI) (vs : List D) (h : AH) : Res D := match b with
  | .len => bi1 vs fun d => (lenOf h d).map fun (n : Nat) => .ok (.int (n : Int)) h
  | .tuple => bi1 vs fun d => (seqOf h d).map fun l => .ok (.tup l) h
  | .list => bi1 vs fun d => (seqOf h d).map fun l => .ok (.lst l) h
  | .listm => bi1 vs fun d => (seqOf h d).map fun l => .ok (.loc h.length) (h ++ [.lst l])
  | .all => bi1 vs fun d => ((lstOf h d).bind allBl).map fun l => .ok (.bl (l.all id)) h
  | .any => bi1 vs fun d => ((lstOf h d).bind allBl).map fun l => .ok (.bl (l.any id)) h
  | .max2 => bi2 vs fun i j => some (.ok (.int (if j > i then j else i)) h)
  | .min2 => bi2 vs fun i j => some (.ok (.int (if j < i then j else i)) h)
  | .maxd => bi1 vs fun d => ((lstOf h d).bind allInt).map fun l => .ok (.int (maxL l)) h
  | .int => bi1 vs fun d => intR d h
  | .str => bi1 vs fun d => strR d h
  | .ord => bi1 vs fun d => ordR d h
  | .dict => bi1 vs fun d => dictR d h

/-- a target, given a value -/
def setAll : Slots → List Nat → List D → Slots
  | δ, i :: is, d :: ds => setAll (setS δ i d) is ds
  | δ, _, _ => δ
def bindT (t : Tg) (d : D) (δ : Slots) : Option Slots := match t with
  | .one i => some (setS δ i d)
  | .tup is => match d with
    | .tup l => if l.length = is.length then some (setAll δ is l) else none
    | _ => none
def wipeT (t : Tg) (δ : Slots) : Slots := match t with
  | .one i => wipeS δ i
  | .tup is => is.foldl wipeS δ
def clampI : Int := 2 ^ 61

/-- simp leaves alone what is tied -/
structure Tie {α : Type} (a : α) : Type
def bindR {α β : Type} (x : Res α) (f : α → AH → Res β) (_ : Tie f := ⟨⟩) : Res β := match x with
  | some (.ok a h) => f a h
  | some (.ex e) => some (.ex e)
  | none => none

/-- a comprehension's turns -/
def lcGo (t : Tg) (ec ee : Slots → AH → Res D) (δ : Slots) (lk : Option (Nat × HObj)) (ds acc : List D) (h : AH) (_ : Tie ec := ⟨⟩) (_ : Tie ee := ⟨⟩) : Res (List D) := match ds with
  | [] => if lockOk lk h then some (.ok acc h) else none
  | d :: ds => if lockOk lk h then match bindT t d δ with
    | none => none
    | some δ' => bindR (ec δ' h) fun c h1 => match c with
      | .bl k => if k = true then bindR (ee δ' h1) fun v h2 => if acc.length < szl then lcGo t ec ee δ lk ds (acc ++ [v]) h2 else none else lcGo t ec ee δ lk ds acc h1
      | _ => none
    else none
def noEx {α : Type} (x : Bool) (r : Res α) : Res α := match r with
  | some (.ex e) => if x then some (.ex e) else none
  | r => r

/-! ### expressions -/
section
variable (F : Fn → List D → AH → Res D)
mutual
@[simp] def evalE : IE → Slots → AH → Res D
  | .var i, δ, h => (slot δ i).map fun d => .ok d h
  | .int z, _, h => some (.ok (.int z) h)
  | .neg n, _, h => some (.ok (.int (-(n : Int))) h)
  | .str s, _, h => some (.ok (.str (cds s)) h)
  | .bl b, _, h => some (.ok (.bl b) h)
  | .non, _, h => some (.ok .non h)
  | .gl _ d, _, h => some (.ok d h)
  | .tup es, δ, h => bindR (evalEs es δ h) fun vs h => some (.ok (.tup vs) h)
  | .lst es, δ, h => bindR (evalEs es δ h) fun vs h => some (.ok (.lst vs) h)
  | .mk es, δ, h => bindR (evalEs es δ h) fun vs h => some (.ok (.loc h.length) (h ++ [.lst vs]))
  | .mkd, _, h => some (.ok (.loc h.length) (h ++ [.dct []]))
  | .bin o a b, δ, h => bindR (evalE a δ h) fun x h => bindR (evalE b δ h) fun y h => binR o x y h
  | .cmp o a b, δ, h => bindR (evalE a δ h) fun x h => bindR (evalE b δ h) fun y h => (cmpR o h x y).map fun c => .ok (.bl c) h
  | .isN a, δ, h => bindR (evalE a δ h) fun x h => some (.ok (.bl (isNon x)) h)
  | .notN a, δ, h => bindR (evalE a δ h) fun x h => some (.ok (.bl (!isNon x)) h)
  | .isin a b, δ, h => bindR (evalE a δ h) fun x h => bindR (evalE b δ h) fun y h => match seqOf h y with
    | some l => if isScal x && l.all isScal then some (.ok (.bl (l.any fun z => eqD z x)) h) else none
    | none => none
  | .notin a b, δ, h => bindR (evalE a δ h) fun x h => bindR (evalE b δ h) fun y h => match seqOf h y with
    | some l => if isScal x && l.all isScal then some (.ok (.bl (!l.any fun z => eqD z x)) h) else none
    | none => none
  | .isnil a, δ, h => bindR (evalE a δ h) fun x h => (lstOf h x).map fun l => .ok (.bl l.isEmpty) h
  | .notnil a, δ, h => bindR (evalE a δ h) fun x h => (lstOf h x).map fun l => .ok (.bl (!l.isEmpty)) h
  | .gin _ t a, δ, h => bindR (evalE a δ h) fun x h => if keyOk x then some (.ok (.bl (tabGet t x).isSome) h) else none
  | .gnin _ t a, δ, h => bindR (evalE a δ h) fun x h => if keyOk x then some (.ok (.bl (!(tabGet t x).isSome)) h) else none
  | .din a b, δ, h => bindR (evalE a δ h) fun x h => bindR (evalE b δ h) fun y h => match x, y with
    | .str k, .loc n => match h[n]? with
      | some (.dct kvs) => some (.ok (.bl (getK kvs k).isSome) h)
      | _ => none
    | _, _ => none
  | .dnin a b, δ, h => bindR (evalE a δ h) fun x h => bindR (evalE b δ h) fun y h => match x, y with
    | .str k, .loc n => match h[n]? with
      | some (.dct kvs) => some (.ok (.bl (!(getK kvs k).isSome)) h)
      | _ => none
    | _, _ => none
  | .chain a o1 b o2 c, δ, h => bindR (evalE a δ h) fun x h => bindR (evalE b δ h) fun y h => match cmpR o1 h x y with
    | some k => if k = true then bindR (evalE c δ h) fun z h => (cmpR o2 h y z).map fun c => .ok (.bl c) h else some (.ok (.bl false) h)
    | none => none
  | .and a b, δ, h => bindR (evalE a δ h) fun x h => match x with
    | .bl k => if k = true then evalE b δ h else some (.ok (.bl false) h)
    | _ => none
  | .or a b, δ, h => bindR (evalE a δ h) fun x h => match x with
    | .bl k => if k = true then some (.ok (.bl true) h) else evalE b δ h
    | _ => none
  | .not a, δ, h => bindR (evalE a δ h) fun x h => match x with
    | .bl b => some (.ok (.bl (!b)) h)
    | _ => none
  | .ife c a b, δ, h => bindR (evalE c δ h) fun x h => match x with
    | .bl k => if k = true then evalE a δ h else evalE b δ h
    | _ => none
  | .idx a b, δ, h => bindR (evalE a δ h) fun x h => bindR (evalE b δ h) fun y h => match y with
    | .int i => match x with
      | .str s => if s.length ≤ szl then (getI s i).map fun c => .ok (.str [c]) h else none
      | x => ((seqOf h x).bind fun l => getI l i).map fun d => .ok d h
    | _ => none
  | .gget _ t a, δ, h => bindR (evalE a δ h) fun x h => if keyOk x then (tabGet t x).map fun d => .ok d h else none
  | .ggetd _ t a d, δ, h => bindR (evalE a δ h) fun x h => bindR (evalE d δ h) fun y h => if keyOk x then some (.ok ((tabGet t x).getD y) h) else none
  | .dget a b, δ, h => bindR (evalE a δ h) fun x h => bindR (evalE b δ h) fun y h => match x, y with
    | .loc n, .str k => match h[n]? with
      | some (.dct kvs) => (getK kvs k).map fun d => .ok d h
      | _ => none
    | _, _ => none
  | .sl2 a lo hi, δ, h => bindR (evalE a δ h) fun x h => bindR (evalE lo δ h) fun y h => match y with
    | .int i => bindR (evalE hi δ h) fun z h => match z with
      | .int j => slR x (some i) (some j) h
      | _ => none
    | _ => none
  | .slF a lo, δ, h => bindR (evalE a δ h) fun x h => bindR (evalE lo δ h) fun y h => match y with
    | .int i => slR x (some i) none h
    | _ => none
  | .slT a hi, δ, h => bindR (evalE a δ h) fun x h => bindR (evalE hi δ h) fun z h => match z with
    | .int j => slR x none (some j) h
    | _ => none
  | .bi b es, δ, h => bindR (evalEs es δ h) fun vs h => biR b vs h
  | .call f es, δ, h => bindR (evalEs es δ h) fun vs h => F f vs h
  | .meth f c _ a es, δ, h => bindR (evalE a δ h) fun x h => match x with
    | .loc n => match h[n]? with
      | some (.ins c' _) => if c' = c then bindR (evalEs es δ h) fun vs h => F f (.loc n :: vs) h else none
      | _ => none
    | _ => none
  | .make c f es, δ, h => bindR (evalEs es δ h) fun vs h => bindR (F f (.loc h.length :: vs) (h ++ [.ins c []])) fun d h2 => match d with
    | .non => some (.ok (.loc h.length) h2)
    | _ => none
  | .callv i es, δ, h => match slot δ i with
    | some (.fn f) => bindR (evalEs es δ h) fun vs h => F f vs h
    | _ => none
  | .fld a f, δ, h => bindR (evalE a δ h) fun x h => match x with
    | .loc n => match h[n]? with
      | some (.ins _ fs) => (getF fs f).map fun d => .ok d h
      | _ => none
    | _ => none
  | .app a e, δ, h => bindR (evalE a δ h) fun x h => if isLst h x then bindR (evalE e δ h) fun y h => match x with
    | .loc n => match h[n]? with
      | some (.lst l) => if l.length < szl then some (.ok .non (h.set n (.lst (l ++ [y])))) else none
      | _ => none
    | _ => none
    else none
  | .ext a e, δ, h => bindR (evalE a δ h) fun x h => if isLst h x then bindR (evalE e δ h) fun y h => match x with
    | .loc n => match h[n]?, extOf h y with
      | some (.lst l), some m => if l.length + m.length ≤ szl then some (.ok .non (h.set n (.lst (l ++ m)))) else none
      | _, _ => none
    | _ => none
    else none
  | .pop a, δ, h => bindR (evalE a δ h) fun x h => match x with
    | .loc n => match h[n]? with
      | some (.lst l) => (l.getLast?).map fun d => .ok d (h.set n (.lst l.dropLast))
      | _ => none
    | _ => none
  | .cnt a e, δ, h => bindR (evalE a δ h) fun x h => if isLst h x then bindR (evalE e δ h) fun y h => match (lstOf h x).bind allInt, y with
    | some l, .int k => some (.ok (.int (l.count k)) h)
    | _, _ => none
    else none
  | .index a e, δ, h => bindR (evalE a δ h) fun x h => if isTup x then bindR (evalE e δ h) fun y h => match x, y with
    | .tup l, .int k => if l.all isScal then (l.findIdx? fun z => eqD z (.int k)).map fun (i : Nat) => .ok (.int (i : Int)) h else none
    | _, _ => none
    else none
  | .join a e, δ, h => bindR (evalE a δ h) fun x h => if isStrD x then bindR (evalE e δ h) fun y h => match x, (lstOf h y).bind allStr with
    | .str [], some l => if (l.flatten).length ≤ szl ∧ l.length ≤ szl then some (.ok (.str l.flatten) h) else none
    | _, _ => none
    else none
  | .dpop a e, δ, h => bindR (evalE a δ h) fun x h => if isDct h x then bindR (evalE e δ h) fun y h => match x, y with
    | .loc n, .str k => match h[n]? with
      | some (.dct kvs) => (getK kvs k).map fun d => .ok d (h.set n (.dct (dropK kvs k)))
      | _ => none
    | _, _ => none
    else none
  | .lc x own t s elt cond, δ, h => bindR (evalSrc s δ h) fun ds h => noEx x (bindR (lcGo t (evalE cond) (evalE elt) (wipeT t δ) ds.2 ds.1 [] h) fun l h => if own then some (.ok (.loc h.length) (h ++ [.lst l])) else some (.ok (.lst l) h))
@[simp] def evalEs : IEs → Slots → AH → Res (List D)
  | .nil, _, h => some (.ok [] h)
  | .cons a r, δ, h => bindR (evalE a δ h) fun x h => bindR (evalEs r δ h) fun xs h => some (.ok (x :: xs) h)
/-- the items that a loop goes through, and what must stand meanwhile -/
@[simp] def evalSrc : Src → Slots → AH → Res (List D × Option (Nat × HObj))
  | .sq e, δ, h => bindR (evalE e δ h) fun x h => (seqOf h x).map fun l => .ok (l, lockOf h x) h
  | .rng a b, δ, h => bindR (evalE a δ h) fun x h => bindR (evalE b δ h) fun y h => match x, y with
    | .int i, .int j => if -clampI < i ∧ i < clampI ∧ -clampI < j ∧ j < clampI then some (.ok ((List.range (j - i).toNat).map fun (k : Nat) => D.int (i + k), none) h) else none
    | _, _ => none
  | .rng1 b, δ, h => bindR (evalE b δ h) fun y h => match y with
    | .int j => if -clampI < j ∧ j < clampI then some (.ok ((List.range j.toNat).map fun (k : Nat) => D.int k, none) h) else none
    | _ => none
  | .sgns e, δ, h => bindR (evalE e δ h) fun x h => match x with
    | .str s => some (.ok (s.map fun c => .str [c], none) h)
    | _ => none
  | .items e, δ, h => bindR (evalE e δ h) fun x h => match x with
    | .loc n => match h[n]? with
      | some (.dct kvs) => some (.ok (kvs.map fun p => .tup [.str p.1, p.2], some (n, .dct kvs)) h)
      | _ => none
    | _ => none
  | .enum e, δ, h => bindR (evalE e δ h) fun x h => (lstOf h x).map fun l => .ok (l.zipIdx.map fun p => .tup [.int p.2, p.1], lockOf h x) h
  | .rev e, δ, h => bindR (evalE e δ h) fun x h => (lstOf h x).map fun l => .ok (l.reverse, lockOf h x) h
end

/-! ### statements -/
inductive Out where
  | nx (δ : Slots) (h : AH) | ret (d : D) (h : AH) | ex (e : Exc)
def bindO {α : Type} (x : Res α) (f : α → AH → Option Out) (_ : Tie f := ⟨⟩) : Option Out := match x with
  | some (.ok a h) => f a h
  | some (.ex e) => some (.ex e)
  | none => none
def thenO (x : Option Out) (f : Slots → AH → Option Out) (_ : Tie f := ⟨⟩) : Option Out := match x with
  | some (.nx δ h) => f δ h
  | some (.ret d h) => some (.ret d h)
  | some (.ex e) => some (.ex e)
  | none => none
def whileF (c : Slots → AH → Res D) (b : Slots → AH → Option Out) (δ : Slots) (h : AH) (_ : Tie c := ⟨⟩) (_ : Tie b := ⟨⟩) : Option Out :=
  match c δ h with
  | some (.ok (.bl k) h1) => if k = true then (match b δ h1 with
     | some (.nx δ2 h2) => whileF c b δ2 h2
     | some (.ret d h2) => some (.ret d h2)
     | some (.ex e) => some (.ex e)
     | none => none) else some (.nx δ h1)
  | some (.ex e) => some (.ex e)
  | _ => none
partial_fixpoint
def forGo (t : Tg) (b : Slots → AH → Option Out) (lk : Option (Nat × HObj)) (ds : List D) (δ : Slots) (h : AH) (_ : Tie b := ⟨⟩) : Option Out := match ds with
  | [] => if lockOk lk h then some (.nx δ h) else none
  | d :: ds => if lockOk lk h then match bindT t d δ with
    | none => none
    | some δ' => thenO (b δ' h) fun δ2 h2 => forGo t b lk ds δ2 h2
    else none
@[simp] def evalS : IS → Slots → AH → Option Out
  | .skip, δ, h => some (.nx δ h)
  | .seq a b, δ, h => thenO (evalS a δ h) fun δ h => evalS b δ h
  | .set i e, δ, h => bindO (evalE F e δ h) fun d h => some (.nx (setS δ i d) h)
  | .setT is e, δ, h => bindO (evalE F e δ h) fun d h => match d with
    | .tup l => if l.length = is.length then some (.nx (setAll δ is l) h) else none
    | _ => none
  | .par i j a b, δ, h => bindO (evalE F a δ h) fun x h => bindO (evalE F b δ h) fun y h => some (.nx (setS (setS δ i x) j y) h)
  | .setTF i s f e, δ, h => bindO (evalE F e δ h) fun d h => match d with
    | .tup [x, y] => match slot (setS δ i x) s with
      | some (.loc n) => match h[n]? with
        | some (.ins c fs) => if fs.length < 900 then some (.nx (setS δ i x) (h.set n (.ins c (putFd fs f y)))) else none
        | _ => none
      | _ => none
    | _ => none
  | .fset o f e, δ, h => bindO (evalE F e δ h) fun d h => bindO (evalE F o δ h) fun x h => match x with
    | .loc n => match h[n]? with
      | some (.ins c fs) => if fs.length < 900 then some (.nx δ (h.set n (.ins c (putFd fs f d)))) else none
      | _ => none
    | _ => none
  | .dset o k e, δ, h => bindO (evalE F e δ h) fun d h => bindO (evalE F o δ h) fun x h => bindO (evalE F k δ h) fun y h => match x, y with
    | .loc n, .str k => match h[n]? with
      | some (.dct kvs) => if kvs.length < szl then some (.nx δ (h.set n (.dct (putK kvs k d)))) else none
      | _ => none
    | _, _ => none
  | .expr e, δ, h => bindO (evalE F e δ h) fun _ h => some (.nx δ h)
  | .ret e, δ, h => bindO (evalE F e δ h) fun d h => some (.ret d h)
  | .retN, _, h => some (.ret .non h)
  | .ife c a b, δ, h => bindO (evalE F c δ h) fun x h => match x with
    | .bl k => if k = true then evalS a δ h else evalS b δ h
    | _ => none
  | .while c b, δ, h => whileF (evalE F c) (evalS b) δ h
  | .for t s b, δ, h => bindO (evalSrc F s δ h) fun ds h => forGo t (evalS b) ds.2 ds.1 δ h
  | .raise k p, δ, h => bindO (evalE F k δ h) fun x h => bindO (evalE F p δ h) fun y _ => match x, y with
    | .int k, .int p => some (.ex (.wrong k p))
    | _, _ => none
  | .raiseNo, _, _ => some (.ex .nodoc)
  | .tryw b hd, δ, h => if h.isEmpty then match evalS b δ h with
    | some (.ex (.wrong _ _)) => evalS hd δ h
    | some (.ex .nodoc) => none
    | r => r
    else none
  | .tryn b hd, δ, h => if h.isEmpty then match evalS b δ h with
    | some (.ex .nodoc) => evalS hd δ h
    | some (.ex (.wrong _ _)) => none
    | r => r
    else none
  | .tryas b, δ, h => if h.isEmpty then match evalS b δ h with
    | some (.ex (.wrong k p)) => some (.ret (.lst [.int k, .int p]) h)
    | some (.ex .nodoc) => none
    | r => r
    else none
end

/-! ### calls -/
mutual
/-- all locations in it are older than base -/
def belowD (b : Nat) : D → Bool
  | .loc n => decide (n < b)
  | .tup l => belowDs b l
  | .lst l => belowDs b l
  | .inp l => belowDs b l
  | _ => true
def belowDs (b : Nat) : List D → Bool
  | [] => true
  | d :: r => belowD b d && belowDs b r
end
def frz1 (b : Nat) (h : AH) (d : D) : Option D := if belowD b d then some d else match d with
  | .loc n => match h[n]? with
    | some (.lst l) => if belowDs b l then some (.lst l) else none
    | _ => none
  | _ => none
def frzAll (b : Nat) (h : AH) : List D → Option (List D)
  | [] => some []
  | d :: r => match frz1 b h d, frzAll b h r with
    | some x, some y => some (x :: y)
    | _, _ => none
/-- what was made in the call and is handed back: from now on a value -/
def frz (b : Nat) (h : AH) (d : D) : Option D := if belowD b d then some d else match d with
  | .loc n => match h[n]? with
    | some (.lst l) => (frzAll b h l).map D.lst
    | _ => none
  | _ => none
def retK (h0 : AH) (d : D) (h : AH) : Res D :=
  if h.length = h0.length then some (.ok d h)
  else if beqH (h.take h0.length) h0 then (match frz h0.length h d with
    | some d' => some (.ok d' h0)
    | none => some (.ok d h))
  else some (.ok d h)
def outK (h0 : AH) (o : Option Out) : Res D := match o with
  | some (.nx _ h) => retK h0 .non h
  | some (.ret d h) => retK h0 d h
  | some (.ex e) => some (.ex e)
  | none => none
@[simp] def startS (n : Nat) (vs : List D) : Slots := vs.map some ++ List.replicate (n - vs.length) none
def callF0 (P : Fn → Option FunDef) : Nat → Fn → List D → AH → Res D
  | 0, _, _, _ => none
  | k + 1, f, vs, h => match P f with
    | none => none
    | some fd => if vs.length = fd.np then outK h (evalS (callF0 P k) fd.body (startS fd.ns vs) h) else none
theorem callX : ∃ g : (Fn → Option FunDef) → Nat → Fn → List D → AH → Res D, g = callF0 := ⟨callF0, rfl⟩
/-- sealed, so that the kernel never looks into it by itself -/
noncomputable def callF (P : Fn → Option FunDef) (k : Nat) : Fn → List D → AH → Res D := Classical.choose callX P k
theorem callF_eq (P : Fn → Option FunDef) (k : Nat) : callF P k = callF0 P k := by
  have := Classical.choose_spec callX
  unfold callF
  rw [this]
theorem callF_zero (P : Fn → Option FunDef) (f : Fn) (vs : List D) (h : AH) : callF P 0 f vs h = none := by rw [callF_eq]; rfl
theorem callF_step (P : Fn → Option FunDef) (k : Nat) (f : Fn) (vs : List D) (h : AH) : callF P (k + 1) f vs h = match P f with
    | none => none
    | some fd => if vs.length = fd.np then outK h (evalS (callF P k) fd.body (startS fd.ns vs) h) else none := by
  rw [callF_eq, callF_eq]; rfl
theorem callF_succ (P : Fn → Option FunDef) (k : Nat) (f : Fn) (vs : List D) (h : AH) {fd : FunDef} (e : P f = some fd) (hl : vs.length = fd.np) :
    callF P (k + 1) f vs h = outK h (evalS (callF P k) fd.body (startS fd.ns vs) h) := by
  simp [callF_step, e, hl]
@[simp] theorem retK_same (h : AH) (d : D) : retK h d h = some (.ok d h) := by simp [retK]
theorem beq_ok {α : Type} [BEq α] [LawfulBEq α] {a b : α} (h : (a == b) = true) : a = b := eq_of_beq h
mutual
theorem beqD_ok : ∀ {a b : D}, beqD a b = true → a = b
  | .non, b, h => by cases b <;> simp_all [beqD]
  | .bl x, b, h => by cases b <;> simp_all [beqD]
  | .int x, b, h => by cases b <;> simp_all [beqD]
  | .str x, b, h => by cases b <;> simp_all [beqD]
  | .tup x, b, h => by
    cases b <;> simp [beqD] at h
    rw [beqDs_ok h]
  | .lst x, b, h => by
    cases b <;> simp [beqD] at h
    rw [beqDs_ok h]
  | .inp x, b, h => by
    cases b <;> simp [beqD] at h
    rw [beqDs_ok h]
  | .loc x, b, h => by cases b <;> simp_all [beqD]
  | .fn x, b, h => by cases b <;> simp_all [beqD]
theorem beqDs_ok : ∀ {a b : List D}, beqDs a b = true → a = b
  | [], [], _ => rfl
  | [], _ :: _, h => by simp [beqDs] at h
  | _ :: _, [], h => by simp [beqDs] at h
  | a :: x, b :: y, h => by
    simp [beqDs] at h
    rw [beqD_ok h.1, beqDs_ok h.2]
end
theorem beqFs_ok : ∀ {a b : List (String × D)}, beqFs a b = true → a = b
  | [], [], _ => rfl
  | [], _ :: _, h => by simp [beqFs] at h
  | _ :: _, [], h => by simp [beqFs] at h
  | (a1, a2) :: x, (b1, b2) :: y, h => by
    simp [beqFs] at h
    rw [h.1.1, beqD_ok h.1.2, beqFs_ok h.2]
theorem beqKs_ok : ∀ {a b : List (List Nat × D)}, beqKs a b = true → a = b
  | [], [], _ => rfl
  | [], _ :: _, h => by simp [beqKs] at h
  | _ :: _, [], h => by simp [beqKs] at h
  | (a1, a2) :: x, (b1, b2) :: y, h => by
    simp [beqKs] at h
    rw [h.1.1, beqD_ok h.1.2, beqKs_ok h.2]
theorem beqO_ok {a b : HObj} (h : beqO a b = true) : a = b := by
  cases a <;> cases b <;> simp [beqO] at h
  · rw [beqDs_ok h]
  · rw [h.1, beqFs_ok h.2]
  · rw [beqKs_ok h]
theorem beqH_ok : ∀ {a b : AH}, beqH a b = true → a = b
  | [], [], _ => rfl
  | [], _ :: _, h => by simp [beqH] at h
  | _ :: _, [], h => by simp [beqH] at h
  | a :: x, b :: y, h => by
    simp [beqH] at h
    rw [beqO_ok h.1, beqH_ok h.2]
mutual
theorem beqD_refl : ∀ d : D, beqD d d = true
  | .non => rfl
  | .bl a => by simp [beqD]
  | .int a => by simp [beqD]
  | .str a => by simp [beqD]
  | .tup a => by simp [beqD, beqDs_refl a]
  | .lst a => by simp [beqD, beqDs_refl a]
  | .inp a => by simp [beqD, beqDs_refl a]
  | .loc a => by simp [beqD]
  | .fn a => by simp [beqD]
theorem beqDs_refl : ∀ d : List D, beqDs d d = true
  | [] => rfl
  | d :: r => by simp [beqDs, beqD_refl d, beqDs_refl r]
end
theorem beqFs_refl : ∀ d : List (String × D), beqFs d d = true
  | [] => rfl
  | d :: r => by simp [beqFs, beqD_refl d.2, beqFs_refl r]
theorem beqKs_refl : ∀ d : List (List Nat × D), beqKs d d = true
  | [] => rfl
  | d :: r => by simp [beqKs, beqD_refl d.2, beqKs_refl r]
theorem beqO_refl (o : HObj) : beqO o o = true := by
  cases o <;> simp [beqO, beqDs_refl, beqFs_refl, beqKs_refl]
@[simp] theorem beqH_refl : ∀ h : AH, beqH h h = true
  | [] => rfl
  | o :: r => by simp [beqH, beqO_refl o, beqH_refl r]
theorem while_eq (c : Slots → AH → Res D) (b : Slots → AH → Option Out) (δ : Slots) (h : AH) : whileF c b δ h =
  bindO (c δ h) fun x h1 => match x with
  | .bl k => if k = true then thenO (b δ h1) fun δ2 h2 => whileF c b δ2 h2 else some (.nx δ h1)
  | _ => none := by
  rw [whileF]
  rcases c δ h with _ | ⟨d, h1⟩ | e <;> try rfl
  cases d <;> rfl
section
variable (h : AH) (l m : List D) (n : Nat) (s t : List Nat) (i j : Int) (b c : Bool) (d e : D) (δ : Slots)
@[simp] theorem isLst_lst : isLst h (.lst l) = true := rfl
@[simp] theorem isLst_inp : isLst h (.inp l) = true := rfl
@[simp] theorem isLst_loc : isLst h (.loc n) = (match h[n]? with | some (.lst _) => true | _ => false) := rfl
@[simp] theorem isDct_loc : isDct h (.loc n) = (match h[n]? with | some (.dct _) => true | _ => false) := rfl
@[simp] theorem isTup_tup : isTup (.tup l) = true := rfl
@[simp] theorem isStrD_str : isStrD (.str s) = true := rfl
@[simp] theorem isNon_non : isNon .non = true := rfl
@[simp] theorem isNon_bl : isNon (.bl b) = false := rfl
@[simp] theorem isNon_int : isNon (.int i) = false := rfl
@[simp] theorem isNon_str : isNon (.str s) = false := rfl
@[simp] theorem isNon_tup : isNon (.tup l) = false := rfl
@[simp] theorem isNon_lst : isNon (.lst l) = false := rfl
@[simp] theorem isNon_inp : isNon (.inp l) = false := rfl
@[simp] theorem isNon_loc : isNon (.loc n) = false := rfl
@[simp] theorem isNon_fn (f : Fn) : isNon (.fn f) = false := rfl
@[simp] theorem isScal_non : isScal .non = true := rfl
@[simp] theorem isScal_bl : isScal (.bl b) = true := rfl
@[simp] theorem isScal_int : isScal (.int i) = true := rfl
@[simp] theorem isScal_str : isScal (.str s) = true := rfl
@[simp] theorem isScal_tup : isScal (.tup l) = false := rfl
@[simp] theorem isScal_lst : isScal (.lst l) = false := rfl
@[simp] theorem isScal_loc : isScal (.loc n) = false := rfl
@[simp] theorem seqOf_tup : seqOf h (.tup l) = some l := rfl
@[simp] theorem seqOf_lst : seqOf h (.lst l) = some l := rfl
@[simp] theorem trkOf_lst : trkOf h (.lst l) = some l := rfl
@[simp] theorem extOf_lst : extOf h (.lst l) = some l := rfl
@[simp] theorem extOf_tup : extOf h (.tup l) = some l := rfl
@[simp] theorem seqOf_inp : seqOf h (.inp l) = some l := rfl
@[simp] theorem lstOf_inp : lstOf h (.inp l) = some l := rfl
@[simp] theorem lenOf_inp' : seqOf h (.inp l) = some l := rfl
theorem trkOf_loc {h : AH} {n : Nat} {l : List D} (e : h[n]? = some (.lst l)) : trkOf h (.loc n) = some l := by simp [trkOf, e]
theorem extOf_loc {h : AH} {n : Nat} {l : List D} (e : h[n]? = some (.lst l)) : extOf h (.loc n) = some l := by simp [extOf, e]
@[simp] theorem lstOf_lst : lstOf h (.lst l) = some l := rfl
@[simp] theorem lstOf_tup : lstOf h (.tup l) = none := rfl
@[simp] theorem lstOf_int : lstOf h (.int i) = none := rfl
@[simp] theorem lstOf_str : lstOf h (.str s) = none := rfl
theorem seqOf_loc {h : AH} {n : Nat} {l : List D} (e : h[n]? = some (.lst l)) : seqOf h (.loc n) = some l := by simp [seqOf, e]
theorem lstOf_loc {h : AH} {n : Nat} {l : List D} (e : h[n]? = some (.lst l)) : lstOf h (.loc n) = some l := by simp [lstOf, e]
theorem seqOf_of {h : AH} {d : D} {l : List D} (e : lstOf h d = some l) : seqOf h d = some l := by
  cases d <;> simp [lstOf] at e <;> simp_all [seqOf]
@[simp] theorem eqD_non : eqD .non .non = true := rfl
@[simp] theorem eqD_bl : eqD (.bl b) (.bl c) = (b == c) := rfl
@[simp] theorem eqD_int : eqD (.int i) (.int j) = (i == j) := rfl
@[simp] theorem eqD_str : eqD (.str s) (.str t) = (s == t) := rfl
@[simp] theorem eqD_tup : eqD (.tup l) (.tup m) = eqDs l m := rfl
@[simp] theorem eqD_lst : eqD (.lst l) (.lst m) = eqDs l m := rfl
@[simp] theorem eqD_int_str : eqD (.int i) (.str s) = false := rfl
@[simp] theorem eqD_str_int : eqD (.str s) (.int i) = false := rfl
@[simp] theorem eqD_non_str : eqD .non (.str s) = false := rfl
@[simp] theorem eqD_str_non : eqD (.str s) .non = false := rfl
@[simp] theorem eqD_non_tup : eqD .non (.tup l) = false := rfl
@[simp] theorem eqD_tup_non : eqD (.tup l) .non = false := rfl
@[simp] theorem eqD_str_tup : eqD (.str s) (.tup l) = false := rfl
@[simp] theorem eqD_tup_str : eqD (.tup l) (.str s) = false := rfl
@[simp] theorem eqDs_nil : eqDs [] [] = true := rfl
@[simp] theorem eqDs_nil_cons : eqDs [] (d :: l) = false := rfl
@[simp] theorem eqDs_cons_nil : eqDs (d :: l) [] = false := rfl
@[simp] theorem eqDs_cons : eqDs (d :: l) (e :: m) = (eqD d e && eqDs l m) := rfl
@[simp] theorem pureD_non : pureD .non = true := rfl
@[simp] theorem pureD_bl : pureD (.bl b) = true := rfl
@[simp] theorem pureD_int : pureD (.int i) = true := rfl
@[simp] theorem pureD_str : pureD (.str s) = s.all fun c => decide (c < 128) := rfl
@[simp] theorem pureD_tup : pureD (.tup l) = pureDs l := rfl
@[simp] theorem pureD_lst : pureD (.lst l) = pureDs l := rfl
@[simp] theorem pureDs_nil : pureDs [] = true := rfl
@[simp] theorem pureDs_cons : pureDs (d :: l) = (pureD d && pureDs l) := rfl
@[simp] theorem depthD_non : depthD .non = 0 := rfl
@[simp] theorem depthD_int : depthD (.int i) = 0 := rfl
@[simp] theorem depthD_str : depthD (.str s) = 0 := rfl
@[simp] theorem depthD_tup : depthD (.tup l) = depthDs l + 1 := rfl
@[simp] theorem depthD_lst : depthD (.lst l) = depthDs l + 1 := rfl
@[simp] theorem depthDs_nil : depthDs [] = 0 := rfl
@[simp] theorem depthDs_cons : depthDs (d :: l) = max (depthD d) (depthDs l) := rfl
@[simp] theorem cmpR_lt : cmpR .lt h (.int i) (.int j) = some (decide (i < j)) := rfl
@[simp] theorem cmpR_le : cmpR .le h (.int i) (.int j) = some (decide (i ≤ j)) := rfl
@[simp] theorem cmpR_gt : cmpR .gt h (.int i) (.int j) = some (decide (j < i)) := rfl
@[simp] theorem cmpR_ge : cmpR .ge h (.int i) (.int j) = some (decide (j ≤ i)) := rfl
@[simp] theorem cmpR_eq : cmpR .eq h d e = eqR d e := rfl
@[simp] theorem cmpR_ne : cmpR .ne h d e = (eqR d e).map (!·) := rfl
theorem eqR_scal {d e : D} (h1 : isScal d = true) (h2 : isScal e = true) : eqR d e = some (eqD d e) := by simp [eqR, h1, h2]
@[simp] theorem eqR_int : eqR (.int i) (.int j) = some (i == j) := rfl
@[simp] theorem eqR_str : eqR (.str s) (.str t) = some (s == t) := rfl
@[simp] theorem eqR_int_non : eqR (.int i) .non = some false := rfl
@[simp] theorem eqR_str_non : eqR (.str s) .non = some false := rfl
@[simp] theorem eqR_non_str : eqR .non (.str s) = some false := rfl
theorem eqR_pure {d e : D} (h1 : pureD d = true) (h2 : pureD e = true) (h3 : min (depthD d) (depthD e) ≤ 64) : eqR d e = some (eqD d e) := by
  simp only [eqR, h1, h2]
  split
  · rfl
  · simp [h3]
@[simp] theorem binR_add : binR .add (.int i) (.int j) h = some (.ok (.int (i + j)) h) := rfl
@[simp] theorem binR_sub : binR .sub (.int i) (.int j) h = some (.ok (.int (i - j)) h) := rfl
theorem binR_mul {i j : Int} (q : -(2 ^ 64) < i ∧ i < 2 ^ 64) : binR .mul (.int i) (.int j) h = some (.ok (.int (i * j)) h) := if_pos q
theorem binR_div {i j : Int} (q : 0 < j ∧ j < 1073741824) : binR .div (.int i) (.int j) h = some (.ok (.int (i / j)) h) := if_pos q
theorem binR_mod {i j : Int} (q : 0 < j) : binR .mod (.int i) (.int j) h = some (.ok (.int (i % j)) h) := if_pos q
theorem binR_str {s t : List Nat} (q : s.length + t.length ≤ szl) : binR .add (.str s) (.str t) h = some (.ok (.str (s ++ t)) h) := if_pos q
theorem binR_tup {l m : List D} (q : l.length + m.length ≤ szl) : binR .add (.tup l) (.tup m) h = some (.ok (.tup (l ++ m)) h) := if_pos q
theorem binR_cat {h : AH} {d e : D} {l m : List D} (h1 : trkOf h d = some l) (h2 : trkOf h e = some m) (q : l.length + m.length ≤ szl) : binR .add d e h = some (.ok (.lst (l ++ m)) h) := by
  cases d <;> simp [trkOf] at h1 <;> simp_all [binR, addR, catR, trkOf]
@[simp] theorem binR_lst (l m : List D) : binR .add (.lst l) (.lst m) h = if l.length + m.length ≤ szl then some (.ok (.lst (l ++ m)) h) else none := rfl
@[simp] theorem lenOf_str : lenOf h (.str s) = if s.length ≤ szl then some s.length else none := rfl
@[simp] theorem lenOf_tup : lenOf h (.tup l) = some l.length := rfl
@[simp] theorem lenOf_inp : lenOf h (.inp l) = some l.length := rfl
@[simp] theorem lenOf_lst : lenOf h (.lst l) = some l.length := rfl
theorem lenOf_of {h : AH} {d : D} {l : List D} (e : seqOf h d = some l) : lenOf h d = some l.length := by
  cases d <;> simp [seqOf] at e <;> simp_all [lenOf, seqOf]
@[simp] theorem biR_len : biR .len [d] h = (lenOf h d).map fun (n : Nat) => .ok (.int (n : Int)) h := rfl
@[simp] theorem biR_tuple : biR .tuple [d] h = (seqOf h d).map fun l => .ok (.tup l) h := rfl
@[simp] theorem biR_list : biR .list [d] h = (seqOf h d).map fun l => .ok (.lst l) h := rfl
@[simp] theorem biR_listm : biR .listm [d] h = (seqOf h d).map fun l => .ok (.loc h.length) (h ++ [.lst l]) := rfl
@[simp] theorem biR_all : biR .all [d] h = ((lstOf h d).bind allBl).map fun l => .ok (.bl (l.all id)) h := rfl
@[simp] theorem biR_any : biR .any [d] h = ((lstOf h d).bind allBl).map fun l => .ok (.bl (l.any id)) h := rfl
@[simp] theorem biR_max2 : biR .max2 [.int i, .int j] h = some (.ok (.int (if j > i then j else i)) h) := rfl
@[simp] theorem biR_min2 : biR .min2 [.int i, .int j] h = some (.ok (.int (if j < i then j else i)) h) := rfl
@[simp] theorem biR_maxd : biR .maxd [d] h = ((lstOf h d).bind allInt).map fun l => .ok (.int (maxL l)) h := rfl
@[simp] theorem biR_int_int : biR .int [.int i] h = some (.ok (.int i) h) := rfl
@[simp] theorem biR_int_bl : biR .int [.bl b] h = some (.ok (.int (if b then 1 else 0)) h) := rfl
@[simp] theorem biR_str : biR .str [.int i] h = if 0 ≤ i ∧ i < 10 ^ 18 then some (.ok (.str (digits i.toNat)) h) else none := rfl
@[simp] theorem biR_ord : biR .ord [.str [n]] h = some (.ok (.int n) h) := rfl
@[simp] theorem keyOk_int : keyOk (.int i) = true := rfl
@[simp] theorem keyOk_str : keyOk (.str s) = true := rfl
@[simp] theorem tabGet_nil : tabGet [] d = none := rfl
@[simp] theorem tabGet_cons (v : D) (r : List (D × D)) : tabGet ((e, v) :: r) d = if eqD e d then some v else tabGet r d := rfl
@[simp] theorem bindT_one (k : Nat) : bindT (.one k) d δ = some (setS δ k d) := rfl
@[simp] theorem bindT_tup (is : List Nat) : bindT (.tup is) (.tup l) δ = if l.length = is.length then some (setAll δ is l) else none := rfl
@[simp] theorem setAll_nil : setAll δ [] [] = δ := rfl
@[simp] theorem setAll_cons (k : Nat) (is : List Nat) : setAll δ (k :: is) (d :: l) = setAll (setS δ k d) is l := rfl
@[simp] theorem wipeT_one (k : Nat) : wipeT (.one k) δ = wipeS δ k := rfl
@[simp] theorem wipeT_tup (is : List Nat) : wipeT (.tup is) δ = is.foldl wipeS δ := rfl
@[simp] theorem noEx_ok {α : Type} (x : Bool) (a : α) : noEx x (some (.ok a h)) = some (.ok a h) := rfl
@[simp] theorem noEx_true {α : Type} (r : Res α) : noEx true r = r := by rcases r with _ | ⟨_ | _⟩ <;> rfl
@[simp] theorem lockOk_none : lockOk none h = true := rfl
@[simp] theorem lockOf_lst : lockOf h (.lst l) = none := rfl
@[simp] theorem lockOf_inp : lockOf h (.inp l) = none := rfl
@[simp] theorem lockOf_tup : lockOf h (.tup l) = none := rfl
@[simp] theorem allBl_nil : allBl [] = some [] := rfl
@[simp] theorem allBl_cons : allBl (.bl b :: l) = (allBl l).map (b :: ·) := rfl
@[simp] theorem allInt_nil : allInt [] = some [] := rfl
@[simp] theorem allInt_cons : allInt (.int i :: l) = (allInt l).map (i :: ·) := rfl
@[simp] theorem allStr_nil : allStr [] = some [] := rfl
@[simp] theorem allStr_cons : allStr (.str s :: l) = (allStr l).map (s :: ·) := rfl
@[simp] theorem getI_nat {α : Type} (xs : List α) (n : Nat) : getI xs (n : Int) = xs[n]? := by simp [getI]
end
section
variable {α β : Type}
@[simp] theorem bindR_ok (a : α) (h : AH) (f : α → AH → Res β) : bindR (some (.ok a h)) f = f a h := rfl
@[simp] theorem bindR_ex (e : Exc) (f : α → AH → Res β) : bindR (some (.ex e)) f = some (.ex e) := rfl
@[simp] theorem bindR_no (f : α → AH → Res β) : bindR none f = none := rfl
@[simp] theorem bindO_ok (a : α) (h : AH) (f : α → AH → Option Out) : bindO (some (.ok a h)) f = f a h := rfl
@[simp] theorem bindO_ex (e : Exc) (f : α → AH → Option Out) : bindO (some (.ex e)) f = some (.ex e) := rfl
@[simp] theorem bindO_no (f : α → AH → Option Out) : bindO none f = none := rfl
@[simp] theorem thenO_nx (δ : Slots) (h : AH) (f : Slots → AH → Option Out) : thenO (some (.nx δ h)) f = f δ h := rfl
@[simp] theorem thenO_ret (d : D) (h : AH) (f : Slots → AH → Option Out) : thenO (some (.ret d h)) f = some (.ret d h) := rfl
@[simp] theorem thenO_ex (e : Exc) (f : Slots → AH → Option Out) : thenO (some (.ex e)) f = some (.ex e) := rfl
@[simp] theorem thenO_no (f : Slots → AH → Option Out) : thenO none f = none := rfl
@[simp] theorem outK_nx (h0 : AH) (δ : Slots) (h : AH) : outK h0 (some (.nx δ h)) = retK h0 .non h := rfl
@[simp] theorem outK_ret (h0 : AH) (d : D) (h : AH) : outK h0 (some (.ret d h)) = retK h0 d h := rfl
@[simp] theorem outK_ex (h0 : AH) (e : Exc) : outK h0 (some (.ex e)) = some (.ex e) := rfl
@[simp] theorem outK_no (h0 : AH) : outK h0 none = none := rfl
@[simp] theorem bindR_ite (c : Prop) [Decidable c] (x y : Res α) (f : α → AH → Res β) : bindR (if c then x else y) f = if c then bindR x f else bindR y f := by split <;> rfl
@[simp] theorem bindO_ite (c : Prop) [Decidable c] (x y : Res α) (f : α → AH → Option Out) : bindO (if c then x else y) f = if c then bindO x f else bindO y f := by split <;> rfl
@[simp] theorem thenO_ite (c : Prop) [Decidable c] (x y : Option Out) (f : Slots → AH → Option Out) : thenO (if c then x else y) f = if c then thenO x f else thenO y f := by split <;> rfl
@[simp] theorem outK_ite (h0 : AH) (c : Prop) [Decidable c] (x y : Option Out) : outK h0 (if c then x else y) = if c then outK h0 x else outK h0 y := by split <;> rfl
theorem ite_and {c : Prop} [Decidable c] {h : AH} {b : Bool} : (if c then (some (.ok (.bl b) h) : Res D) else some (.ok (.bl false) h)) = some (.ok (.bl (decide c && b)) h) := by
  by_cases q : c <;> simp [q]
theorem ite_or {c : Prop} [Decidable c] {h : AH} {b : Bool} : (if c then (some (.ok (.bl true) h) : Res D) else some (.ok (.bl b) h)) = some (.ok (.bl (decide c || b)) h) := by
  by_cases q : c <;> simp [q]
end
/-- numbers that are not below 0, as data -/
def dn (n : Nat) : D := .int n
def dns (l : List Nat) : List D := l.map dn
end MM
namespace MM
/-- need(right, kind, position): slots right kind position -/
def fd_need : FunDef := ⟨3, 3,
    .ife (.not (.var 0)) (.raise (.var 1) (.var 2)) .skip⟩
/-- is_white(point): slots point -/
def fd_is_white : FunDef := ⟨1, 1,
    .ret (.isin (.var 0) (.gl "WHITE" (.tup [.int 32, .int 9, .int 10, .int 13])))⟩
/-- is_letter(point): slots point -/
def fd_is_letter : FunDef := ⟨1, 1,
    .ret (.or (.chain (.int 97) .le (.var 0) .le (.int 122)) (.chain (.int 65) .le (.var 0) .le (.int 90)))⟩
/-- is_figure(point): slots point -/
def fd_is_figure : FunDef := ⟨1, 1,
    .ret (.chain (.int 48) .le (.var 0) .le (.int 57))⟩
/-- is_punctuation(point): slots point -/
def fd_is_punctuation : FunDef := ⟨1, 1,
    .ret (.and (.chain (.int 33) .le (.var 0) .le (.int 126)) (.and (.not (.call .is_letter (.cons (.var 0) .nil))) (.not (.call .is_figure (.cons (.var 0) .nil)))))⟩
/-- is_label(points): slots points point -/
def fd_is_label : FunDef := ⟨1, 2,
    .seq (.ife (.not (.chain (.int 1) .le (.bi .len (.cons (.var 0) .nil)) .le (.gl "LONGEST_LABEL" (.int 40)))) (.ret (.bl false)) .skip)
    (.ret (.bi .all (.cons (.lc false false (.one 1) (.sq (.var 0)) (.or (.call .is_letter (.cons (.var 1) .nil)) (.or (.call .is_figure (.cons (.var 1) .nil)) (.isin (.var 1) (.gl "MARK_POINTS" (.tup [.int 45, .int 95, .int 46, .int 58]))))) (.bl true)) .nil)))⟩
/-- sign_of(point): slots point -/
def fd_sign_of : FunDef := ⟨1, 1,
    .seq (.ife (.chain (.int 97) .le (.var 0) .le (.int 122)) (.ret (.idx (.gl "LOWER" (.str (cds "abcdefghijklmnopqrstuvwxyz"))) (.bin .sub (.var 0) (.int 97)))) .skip)
    (.seq (.ife (.chain (.int 65) .le (.var 0) .le (.int 90)) (.ret (.idx (.gl "UPPER" (.str (cds "ABCDEFGHIJKLMNOPQRSTUVWXYZ"))) (.bin .sub (.var 0) (.int 65)))) .skip)
    (.seq (.ife (.call .is_figure (.cons (.var 0) .nil)) (.ret (.idx (.gl "FIGURES" (.str (cds "0123456789"))) (.bin .sub (.var 0) (.int 48)))) .skip)
    (.ret (.idx (.gl "MARKS" (.str (cds "-_.:"))) (.index (.gl "MARK_POINTS" (.tup [.int 45, .int 95, .int 46, .int 58])) (.var 0))))))⟩
/-- word_of(points): slots points point -/
def fd_word_of : FunDef := ⟨1, 2,
    .ret (.join (.str "") (.lc false false (.one 1) (.sq (.var 0)) (.call .sign_of (.cons (.var 1) .nil)) (.bl true)))⟩
/-- points_of(text): slots text sign -/
def fd_points_of : FunDef := ⟨1, 2,
    .ret (.lc false false (.one 1) (.sgns (.var 0)) (.bi .ord (.cons (.var 1) .nil)) (.bl true))⟩
/-- place_of(points, point, begin): slots points point begin at -/
def fd_place_of : FunDef := ⟨3, 4,
    .seq (.for (.one 3) (.rng (.var 2) (.bi .len (.cons (.var 0) .nil))) (.ife (.cmp .eq (.idx (.var 0) (.var 3)) (.var 1)) (.ret (.var 3)) .skip))
    (.ret .non)⟩
/-- point_at(data, at): slots data at more least most off low behind point byte -/
def fd_point_at : FunDef := ⟨2, 10,
    .seq (.for (.tup [2, 3, 4, 5, 6]) (.sq (.gl "LEADS" (.tup [.tup [.int 0, .int 0, .int 127, .int 0, .int 0], .tup [.int 1, .int 194, .int 223, .int 192, .int 128], .tup [.int 2, .int 224, .int 239, .int 224, .int 2048], .tup [.int 3, .int 240, .int 244, .int 240, .int 65536]]))) (.ife (.chain (.var 3) .le (.idx (.var 0) (.var 1)) .le (.var 4)) (.seq (.set 7 (.sl2 (.var 0) (.bin .add (.var 1) (.int 1)) (.bin .add (.bin .add (.var 1) (.int 1)) (.var 2))))
    (.seq (.ife (.or (.cmp .lt (.bi .len (.cons (.var 7) .nil)) (.var 2)) (.not (.bi .all (.cons (.lc false false (.one 9) (.sq (.var 7)) (.chain (.int 128) .le (.var 9) .le (.int 191)) (.bl true)) .nil)))) (.ret .non) .skip)
    (.seq (.set 8 (.bin .sub (.idx (.var 0) (.var 1)) (.var 5)))
    (.seq (.for (.one 9) (.sq (.var 7)) (.set 8 (.bin .sub (.bin .add (.bin .mul (.int 64) (.var 8)) (.var 9)) (.int 128))))
    (.seq (.ife (.or (.cmp .lt (.var 8) (.var 6)) (.or (.chain (.int 55296) .le (.var 8) .le (.int 57343)) (.cmp .gt (.var 8) (.gl "LAST_POINT" (.int 1114111))))) (.ret .non) .skip)
    (.ret (.tup (.cons (.var 8) (.cons (.var 2) .nil))))))))) .skip))
    (.ret .non)⟩
/-- decoded(data): slots data found at told -/
def fd_decoded : FunDef := ⟨1, 4,
    .seq (.set 1 (.mk .nil))
    (.seq (.set 2 (.int 0))
    (.seq (.while (.cmp .lt (.var 2) (.bi .len (.cons (.var 0) .nil))) (.seq (.set 3 (.call .point_at (.cons (.var 0) (.cons (.var 2) .nil))))
    (.seq (.ife (.isN (.var 3)) (.ret .non) .skip)
    (.seq (.expr (.app (.var 1) (.idx (.var 3) (.int 0))))
    (.set 2 (.bin .add (.bin .add (.var 2) (.int 1)) (.idx (.var 3) (.int 1))))))))
    (.ret (.var 1))))⟩
/-- white_end(points, at): slots points at -/
def fd_white_end : FunDef := ⟨2, 2,
    .seq (.while (.and (.cmp .lt (.var 1) (.bi .len (.cons (.var 0) .nil))) (.call .is_white (.cons (.idx (.var 0) (.var 1)) .nil))) (.set 1 (.bin .add (.var 1) (.int 1))))
    (.ret (.var 1))⟩
/-- letters_end(points, at): slots points at -/
def fd_letters_end : FunDef := ⟨2, 2,
    .seq (.while (.and (.cmp .lt (.var 1) (.bi .len (.cons (.var 0) .nil))) (.call .is_letter (.cons (.idx (.var 0) (.var 1)) .nil))) (.set 1 (.bin .add (.var 1) (.int 1))))
    (.ret (.var 1))⟩
/-- is_paragraph(points, begin, end): slots points begin end -/
def fd_is_paragraph : FunDef := ⟨3, 3,
    .ret (.cmp .ge (.cnt (.sl2 (.var 0) (.var 1) (.var 2)) (.gl "LINE_FEED" (.int 10))) (.int 2))⟩
/-- white_token(points, at): slots points at end kind -/
def fd_white_token : FunDef := ⟨2, 4,
    .seq (.set 2 (.call .white_end (.cons (.var 0) (.cons (.var 1) .nil))))
    (.seq (.set 3 (.ife (.call .is_paragraph (.cons (.var 0) (.cons (.var 1) (.cons (.var 2) .nil)))) (.gl "PARAGRAPH" (.int 5)) (.gl "BLANK" (.int 4))))
    (.ret (.tup (.cons (.tup (.cons (.var 3) (.cons (.var 1) (.cons (.int 0) .nil)))) (.cons (.var 2) .nil)))))⟩
/-- comment_end_tokens(points, at): slots points at feed -/
def fd_comment_end_tokens : FunDef := ⟨2, 3,
    .seq (.set 2 (.call .place_of (.cons (.var 0) (.cons (.gl "LINE_FEED" (.int 10)) (.cons (.var 1) .nil)))))
    (.seq (.ife (.isN (.var 2)) (.ret (.bi .len (.cons (.var 0) .nil))) .skip)
    (.seq (.set 1 (.bin .add (.var 2) (.int 1)))
    (.seq (.while (.and (.cmp .lt (.var 1) (.bi .len (.cons (.var 0) .nil))) (.isin (.idx (.var 0) (.var 1)) (.tup (.cons (.gl "SPACE" (.int 32)) (.cons (.int 9) .nil))))) (.set 1 (.bin .add (.var 1) (.int 1))))
    (.ret (.var 1)))))⟩
/-- parameter_token(points, at): slots points at right -/
def fd_parameter_token : FunDef := ⟨2, 3,
    .seq (.set 2 (.and (.cmp .lt (.bin .add (.var 1) (.int 1)) (.bi .len (.cons (.var 0) .nil))) (.chain (.int 49) .le (.idx (.var 0) (.bin .add (.var 1) (.int 1))) .le (.int 57))))
    (.seq (.expr (.call .need (.cons (.var 2) (.cons (.gl "BAD_DEFINITION" (.int 7)) (.cons (.var 1) .nil)))))
    (.ret (.tup (.cons (.tup (.cons (.gl "PARAMETER" (.int 8)) (.cons (.var 1) (.cons (.bin .sub (.idx (.var 0) (.bin .add (.var 1) (.int 1))) (.int 48)) .nil)))) (.cons (.bin .add (.var 1) (.int 2)) .nil)))))⟩
/-- math_token(points, at): slots points at end -/
def fd_math_token : FunDef := ⟨2, 3,
    .seq (.set 2 (.call .place_of (.cons (.var 0) (.cons (.gl "DOLLAR" (.int 36)) (.cons (.bin .add (.var 1) (.int 1)) .nil)))))
    (.seq (.expr (.call .need (.cons (.notN (.var 2)) (.cons (.gl "NOT_CLOSED" (.int 1)) (.cons (.var 1) .nil)))))
    (.seq (.expr (.call .need (.cons (.cmp .gt (.var 2) (.bin .add (.var 1) (.int 1))) (.cons (.gl "INVALID" (.int 5)) (.cons (.var 1) .nil)))))
    (.ret (.tup (.cons (.tup (.cons (.gl "MATH" (.int 10)) (.cons (.var 1) (.cons (.bi .tuple (.cons (.sl2 (.var 0) (.bin .add (.var 1) (.int 1)) (.var 2)) .nil)) .nil)))) (.cons (.bin .add (.var 2) (.int 1)) .nil))))))⟩
/-- literal_token(points, at, end): slots points at end sign last -/
def fd_literal_token : FunDef := ⟨3, 5,
    .seq (.expr (.call .need (.cons (.and (.cmp .lt (.var 2) (.bi .len (.cons (.var 0) .nil))) (.not (.call .is_white (.cons (.idx (.var 0) (.var 2)) .nil)))) (.cons (.gl "MISSING" (.int 4)) (.cons (.var 1) .nil)))))
    (.seq (.set 3 (.idx (.var 0) (.var 2)))
    (.seq (.set 4 (.bin .add (.var 2) (.int 1)))
    (.seq (.while (.and (.cmp .lt (.var 4) (.bi .len (.cons (.var 0) .nil))) (.notin (.idx (.var 0) (.var 4)) (.tup (.cons (.var 3) (.cons (.gl "LINE_FEED" (.int 10)) .nil))))) (.set 4 (.bin .add (.var 4) (.int 1))))
    (.seq (.expr (.call .need (.cons (.and (.cmp .lt (.var 4) (.bi .len (.cons (.var 0) .nil))) (.cmp .eq (.idx (.var 0) (.var 4)) (.var 3))) (.cons (.gl "NOT_CLOSED" (.int 1)) (.cons (.var 1) .nil)))))
    (.ret (.tup (.cons (.tup (.cons (.gl "LITERAL" (.int 11)) (.cons (.var 1) (.cons (.bi .tuple (.cons (.sl2 (.var 0) (.bin .add (.var 2) (.int 1)) (.var 4)) .nil)) .nil)))) (.cons (.bin .add (.var 4) (.int 1)) .nil))))))))⟩
/-- content_end(points, begin, ending): slots points begin ending at -/
def fd_content_end : FunDef := ⟨3, 4,
    .seq (.for (.one 3) (.rng (.var 1) (.bi .len (.cons (.var 0) .nil))) (.ife (.and (.cmp .eq (.idx (.var 0) (.bin .sub (.var 3) (.int 1))) (.gl "LINE_FEED" (.int 10))) (.cmp .eq (.sl2 (.var 0) (.var 3) (.bin .add (.var 3) (.bi .len (.cons (.var 2) .nil)))) (.var 2))) (.ret (.var 3)) .skip))
    (.ret .non)⟩
/-- content_token(points, at, name, kind): slots points at name kind begin first close label ending end content -/
def fd_content_token : FunDef := ⟨4, 11,
    .seq (.set 4 (.call .points_of (.cons (.bin .add (.bin .add (.str "\\begin{") (.var 2)) (.str "}{")) .nil)))
    (.seq (.set 5 (.bin .add (.var 1) (.bi .len (.cons (.var 4) .nil))))
    (.seq (.ife (.cmp .ne (.sl2 (.var 0) (.var 1) (.var 5)) (.var 4)) (.ret .non) .skip)
    (.seq (.set 6 (.call .place_of (.cons (.var 0) (.cons (.gl "CLOSING_SIGN" (.int 125)) (.cons (.var 5) .nil)))))
    (.seq (.ife (.or (.isN (.var 6)) (.cmp .ne (.sl2 (.var 0) (.bin .add (.var 6) (.int 1)) (.bin .add (.var 6) (.int 2))) (.lst (.cons (.gl "LINE_FEED" (.int 10)) .nil)))) (.ret .non) .skip)
    (.seq (.set 7 (.sl2 (.var 0) (.var 5) (.var 6)))
    (.seq (.ife (.and (.notnil (.var 7)) (.not (.call .is_label (.cons (.var 7) .nil)))) (.ret .non) .skip)
    (.seq (.set 8 (.call .points_of (.cons (.bin .add (.bin .add (.str "\\end{") (.var 2)) (.str "}")) .nil)))
    (.seq (.set 9 (.call .content_end (.cons (.var 0) (.cons (.bin .add (.var 6) (.int 2)) (.cons (.var 8) .nil)))))
    (.seq (.expr (.call .need (.cons (.notN (.var 9)) (.cons (.gl "NOT_CLOSED" (.int 1)) (.cons (.var 1) .nil)))))
    (.seq (.set 10 (.sl2 (.var 0) (.bin .add (.var 6) (.int 2)) (.bi .max2 (.cons (.bin .add (.var 6) (.int 2)) (.cons (.bin .sub (.var 9) (.int 1)) .nil)))))
    (.ret (.tup (.cons (.tup (.cons (.var 3) (.cons (.var 1) (.cons (.tup (.cons (.bi .tuple (.cons (.var 7) .nil)) (.cons (.bi .tuple (.cons (.var 10) .nil)) .nil))) .nil)))) (.cons (.bin .add (.var 9) (.bi .len (.cons (.var 8) .nil))) .nil))))))))))))))⟩
/-- command_token(points, at): slots points at end name behind -/
def fd_command_token : FunDef := ⟨2, 5,
    .seq (.set 2 (.call .letters_end (.cons (.var 0) (.cons (.bin .add (.var 1) (.int 1)) .nil))))
    (.seq (.set 3 (.call .word_of (.cons (.sl2 (.var 0) (.bin .add (.var 1) (.int 1)) (.var 2)) .nil)))
    (.seq (.ife (.cmp .eq (.var 3) (.str "verb")) (.ret (.call .literal_token (.cons (.var 0) (.cons (.var 1) (.cons (.var 2) .nil))))) .skip)
    (.seq (.set 4 (.call .white_end (.cons (.var 0) (.cons (.var 2) .nil))))
    (.seq (.ife (.call .is_paragraph (.cons (.var 0) (.cons (.var 2) (.cons (.var 4) .nil)))) (.set 4 (.var 2)) .skip)
    (.ret (.tup (.cons (.tup (.cons (.gl "COMMAND" (.int 1)) (.cons (.var 1) (.cons (.var 3) .nil)))) (.cons (.var 4) .nil))))))))⟩
/-- backslash_token(points, at): slots points at point name kind found -/
def fd_backslash_token : FunDef := ⟨2, 6,
    .seq (.for (.tup [3, 4]) (.sq (.gl "CONTENTS" (.tup [.tup [.str (cds "code"), .int 12], .tup [.str (cds "formula"), .int 13]]))) (.seq (.set 5 (.call .content_token (.cons (.var 0) (.cons (.var 1) (.cons (.var 3) (.cons (.var 4) .nil))))))
    (.ife (.notN (.var 5)) (.ret (.var 5)) .skip)))
    (.seq (.expr (.call .need (.cons (.cmp .lt (.bin .add (.var 1) (.int 1)) (.bi .len (.cons (.var 0) .nil))) (.cons (.gl "UNKNOWN" (.int 3)) (.cons (.var 1) .nil)))))
    (.seq (.set 2 (.idx (.var 0) (.bin .add (.var 1) (.int 1))))
    (.seq (.ife (.cmp .eq (.var 2) (.gl "BACKSLASH" (.int 92))) (.ret (.tup (.cons (.tup (.cons (.gl "COMMAND" (.int 1)) (.cons (.var 1) (.cons (.gl "TWO_BACKSLASHES" (.str (cds "\\\\"))) .nil)))) (.cons (.bin .add (.var 1) (.int 2)) .nil)))) .skip)
    (.seq (.ife (.or (.cmp .eq (.var 2) (.gl "SPACE" (.int 32))) (.call .is_punctuation (.cons (.var 2) .nil))) (.ret (.tup (.cons (.tup (.cons (.gl "ESCAPED" (.int 3)) (.cons (.var 1) (.cons (.var 2) .nil)))) (.cons (.bin .add (.var 1) (.int 2)) .nil)))) .skip)
    (.seq (.expr (.call .need (.cons (.call .is_letter (.cons (.var 2) .nil)) (.cons (.gl "UNKNOWN" (.int 3)) (.cons (.var 1) .nil)))))
    (.ret (.call .command_token (.cons (.var 0) (.cons (.var 1) .nil)))))))))⟩
/-- token_at(points, at): slots points at point -/
def fd_token_at : FunDef := ⟨2, 3,
    .seq (.set 2 (.idx (.var 0) (.var 1)))
    (.seq (.ife (.call .is_white (.cons (.var 2) .nil)) (.ret (.call .white_token (.cons (.var 0) (.cons (.var 1) .nil)))) .skip)
    (.seq (.ife (.cmp .eq (.var 2) (.gl "PERCENT" (.int 37))) (.ret (.tup (.cons .non (.cons (.call .comment_end_tokens (.cons (.var 0) (.cons (.var 1) .nil))) .nil)))) .skip)
    (.seq (.ife (.gin "SIMPLE" [(.int 123, .int 6), (.int 125, .int 7), (.int 38, .int 9)] (.var 2)) (.ret (.tup (.cons (.tup (.cons (.gget "SIMPLE" [(.int 123, .int 6), (.int 125, .int 7), (.int 38, .int 9)] (.var 2)) (.cons (.var 1) (.cons (.int 0) .nil)))) (.cons (.bin .add (.var 1) (.int 1)) .nil)))) .skip)
    (.seq (.ife (.cmp .eq (.var 2) (.gl "TILDE" (.int 126))) (.ret (.tup (.cons (.tup (.cons (.gl "CHARACTER" (.int 2)) (.cons (.var 1) (.cons (.gl "FIXED_SPACE" (.int 160)) .nil)))) (.cons (.bin .add (.var 1) (.int 1)) .nil)))) .skip)
    (.seq (.ife (.cmp .eq (.var 2) (.gl "NUMBER_SIGN" (.int 35))) (.ret (.call .parameter_token (.cons (.var 0) (.cons (.var 1) .nil)))) .skip)
    (.seq (.ife (.cmp .eq (.var 2) (.gl "DOLLAR" (.int 36))) (.ret (.call .math_token (.cons (.var 0) (.cons (.var 1) .nil)))) .skip)
    (.seq (.ife (.cmp .eq (.var 2) (.gl "BACKSLASH" (.int 92))) (.ret (.call .backslash_token (.cons (.var 0) (.cons (.var 1) .nil)))) .skip)
    (.ret (.tup (.cons (.tup (.cons (.gl "CHARACTER" (.int 2)) (.cons (.var 1) (.cons (.var 2) .nil)))) (.cons (.bin .add (.var 1) (.int 1)) .nil)))))))))))⟩
/-- tokens_of(points): slots points found at token -/
def fd_tokens_of : FunDef := ⟨1, 4,
    .seq (.set 1 (.mk .nil))
    (.seq (.set 2 (.int 0))
    (.seq (.while (.cmp .lt (.var 2) (.bi .len (.cons (.var 0) .nil))) (.seq (.setT [3, 2] (.call .token_at (.cons (.var 0) (.cons (.var 2) .nil))))
    (.ife (.notN (.var 3)) (.expr (.app (.var 1) (.var 3))) .skip)))
    (.ret (.var 1))))⟩
/-- tokens(text): slots text points found some kind position content -/
def fd_tokens : FunDef := ⟨1, 7,
    .seq (.set 1 (.call .decoded (.cons (.var 0) .nil)))
    (.seq (.ife (.isN (.var 1)) (.ret (.lst (.cons (.gl "NOT_UTF8" (.int (-24))) .nil))) .skip)
    (.seq (.tryw (.set 3 (.call .tokens_of (.cons (.var 1) .nil))) (.ret (.lst (.cons (.gl "BAD_TEXT" (.int (-20))) .nil))))
    (.seq (.set 2 (.mk (.cons (.bi .len (.cons (.var 3) .nil)) .nil)))
    (.seq (.for (.tup [4, 5, 6]) (.sq (.var 3)) (.expr (.ext (.var 2) (.lst (.cons (.var 5) (.cons (.var 4) .nil))))))
    (.ret (.var 2))))))⟩
/-- bytes_of(point): slots point -/
def fd_bytes_of : FunDef := ⟨1, 1,
    .seq (.ife (.cmp .lt (.var 0) (.int 128)) (.ret (.lst (.cons (.var 0) .nil))) .skip)
    (.seq (.ife (.cmp .lt (.var 0) (.int 2048)) (.ret (.lst (.cons (.bin .add (.int 192) (.bin .div (.var 0) (.int 64))) (.cons (.bin .add (.int 128) (.bin .mod (.var 0) (.int 64))) .nil)))) .skip)
    (.seq (.ife (.cmp .lt (.var 0) (.int 65536)) (.ret (.lst (.cons (.bin .add (.int 224) (.bin .div (.var 0) (.int 4096))) (.cons (.bin .add (.int 128) (.bin .mod (.bin .div (.var 0) (.int 64)) (.int 64))) (.cons (.bin .add (.int 128) (.bin .mod (.var 0) (.int 64))) .nil))))) .skip)
    (.ret (.lst (.cons (.bin .add (.int 240) (.bin .div (.var 0) (.int 262144))) (.cons (.bin .add (.int 128) (.bin .mod (.bin .div (.var 0) (.int 4096)) (.int 64))) (.cons (.bin .add (.int 128) (.bin .mod (.bin .div (.var 0) (.int 64)) (.int 64))) (.cons (.bin .add (.int 128) (.bin .mod (.var 0) (.int 64))) .nil))))))))⟩
/-- encoded(points): slots points found point -/
def fd_encoded : FunDef := ⟨1, 3,
    .seq (.set 1 (.mk .nil))
    (.seq (.for (.one 2) (.sq (.var 0)) (.expr (.ext (.var 1) (.call .bytes_of (.cons (.var 2) .nil)))))
    (.ret (.var 1)))⟩
/-- roman_of(number): slots number found worth signs -/
def fd_roman_of : FunDef := ⟨1, 4,
    .seq (.set 1 (.str ""))
    (.seq (.for (.tup [2, 3]) (.sq (.gl "ROMAN" (.tup [.tup [.int 1000, .str (cds "m")], .tup [.int 900, .str (cds "cm")], .tup [.int 500, .str (cds "d")], .tup [.int 400, .str (cds "cd")], .tup [.int 100, .str (cds "c")], .tup [.int 90, .str (cds "xc")], .tup [.int 50, .str (cds "l")], .tup [.int 40, .str (cds "xl")], .tup [.int 10, .str (cds "x")], .tup [.int 9, .str (cds "ix")], .tup [.int 5, .str (cds "v")], .tup [.int 4, .str (cds "iv")], .tup [.int 1, .str (cds "i")]]))) (.while (.cmp .ge (.var 0) (.var 2)) (.seq (.set 1 (.bin .add (.var 1) (.var 3)))
    (.set 0 (.bin .sub (.var 0) (.var 2))))))
    (.ret (.var 1)))⟩
/-- told(points): slots points found -/
def fd_told : FunDef := ⟨1, 2,
    .seq (.set 1 (.call .encoded (.cons (.var 0) .nil)))
    (.ret (.bin .add (.lst (.cons (.bi .len (.cons (.var 1) .nil)) .nil)) (.var 1)))⟩
/-- roman(value): slots value -/
def fd_roman : FunDef := ⟨1, 1,
    .seq (.ife (.not (.chain (.int 1) .le (.var 0) .le (.gl "GREATEST_ROMAN" (.int 3999)))) (.ret (.lst (.cons (.gl "OUT_OF_RANGE" (.int (-22))) .nil))) .skip)
    (.ret (.call .told (.cons (.call .points_of (.cons (.call .roman_of (.cons (.var 0) .nil)) .nil)) .nil)))⟩
def P : Fn → Option FunDef
  | .need => some fd_need
  | .is_white => some fd_is_white
  | .is_letter => some fd_is_letter
  | .is_figure => some fd_is_figure
  | .is_punctuation => some fd_is_punctuation
  | .is_label => some fd_is_label
  | .sign_of => some fd_sign_of
  | .word_of => some fd_word_of
  | .points_of => some fd_points_of
  | .place_of => some fd_place_of
  | .point_at => some fd_point_at
  | .decoded => some fd_decoded
  | .white_end => some fd_white_end
  | .letters_end => some fd_letters_end
  | .is_paragraph => some fd_is_paragraph
  | .white_token => some fd_white_token
  | .comment_end_tokens => some fd_comment_end_tokens
  | .parameter_token => some fd_parameter_token
  | .math_token => some fd_math_token
  | .literal_token => some fd_literal_token
  | .content_end => some fd_content_end
  | .content_token => some fd_content_token
  | .command_token => some fd_command_token
  | .backslash_token => some fd_backslash_token
  | .token_at => some fd_token_at
  | .tokens_of => some fd_tokens_of
  | .tokens => some fd_tokens
  | .bytes_of => some fd_bytes_of
  | .encoded => some fd_encoded
  | .roman_of => some fd_roman_of
  | .told => some fd_told
  | .roman => some fd_roman
@[simp] theorem P_need : P .need = some fd_need := rfl
@[simp] theorem P_is_white : P .is_white = some fd_is_white := rfl
@[simp] theorem P_is_letter : P .is_letter = some fd_is_letter := rfl
@[simp] theorem P_is_figure : P .is_figure = some fd_is_figure := rfl
@[simp] theorem P_is_punctuation : P .is_punctuation = some fd_is_punctuation := rfl
@[simp] theorem P_is_label : P .is_label = some fd_is_label := rfl
@[simp] theorem P_sign_of : P .sign_of = some fd_sign_of := rfl
@[simp] theorem P_word_of : P .word_of = some fd_word_of := rfl
@[simp] theorem P_points_of : P .points_of = some fd_points_of := rfl
@[simp] theorem P_place_of : P .place_of = some fd_place_of := rfl
@[simp] theorem P_point_at : P .point_at = some fd_point_at := rfl
@[simp] theorem P_decoded : P .decoded = some fd_decoded := rfl
@[simp] theorem P_white_end : P .white_end = some fd_white_end := rfl
@[simp] theorem P_letters_end : P .letters_end = some fd_letters_end := rfl
@[simp] theorem P_is_paragraph : P .is_paragraph = some fd_is_paragraph := rfl
@[simp] theorem P_white_token : P .white_token = some fd_white_token := rfl
@[simp] theorem P_comment_end_tokens : P .comment_end_tokens = some fd_comment_end_tokens := rfl
@[simp] theorem P_parameter_token : P .parameter_token = some fd_parameter_token := rfl
@[simp] theorem P_math_token : P .math_token = some fd_math_token := rfl
@[simp] theorem P_literal_token : P .literal_token = some fd_literal_token := rfl
@[simp] theorem P_content_end : P .content_end = some fd_content_end := rfl
@[simp] theorem P_content_token : P .content_token = some fd_content_token := rfl
@[simp] theorem P_command_token : P .command_token = some fd_command_token := rfl
@[simp] theorem P_backslash_token : P .backslash_token = some fd_backslash_token := rfl
@[simp] theorem P_token_at : P .token_at = some fd_token_at := rfl
@[simp] theorem P_tokens_of : P .tokens_of = some fd_tokens_of := rfl
@[simp] theorem P_tokens : P .tokens = some fd_tokens := rfl
@[simp] theorem P_bytes_of : P .bytes_of = some fd_bytes_of := rfl
@[simp] theorem P_encoded : P .encoded = some fd_encoded := rfl
@[simp] theorem P_roman_of : P .roman_of = some fd_roman_of := rfl
@[simp] theorem P_told : P .told = some fd_told := rfl
@[simp] theorem P_roman : P .roman = some fd_roman := rfl
end MM
namespace MM
@[simp] theorem dn_eq (n : Nat) : dn n = .int n := rfl
@[simp] theorem dns_get (l : List Nat) (i : Nat) : (dns l)[i]? = (l[i]?).map dn := by simp [dns]
@[simp] theorem dns_len (l : List Nat) : (dns l).length = l.length := by simp [dns]
@[simp] theorem dns_nil : dns [] = [] := rfl
@[simp] theorem dns_cons (a : Nat) (l : List Nat) : dns (a :: l) = dn a :: dns l := rfl
theorem dns_app (l m : List Nat) : dns (l ++ m) = dns l ++ dns m := by simp [dns]
@[simp] theorem dns_all (l : List Nat) : belowDs n (dns l) = true := by
  induction l with
  | nil => rfl
  | cons a l ih => simp [belowDs, belowD, ih]
/-! ### loops -/
/-- a for that changes nothing but what is said -/
theorem for_go {t : Tg} {b : Slots → AH → Option Out} (I : List D → Slots → AH → Prop) : ∀ (ds : List D) (δ : Slots) (h : AH),
    (∀ d ds δ h, I (d :: ds) δ h → ∃ δ' δ2 h2, bindT t d δ = some δ' ∧ b δ' h = some (.nx δ2 h2) ∧ I ds δ2 h2) → I ds δ h → ∃ δ' h', forGo t b none ds δ h = some (.nx δ' h') ∧ I [] δ' h'
  | [], δ, h, _, i => ⟨δ, h, by simp [forGo], i⟩
  | d :: ds, δ, h, st, i => by
    obtain ⟨δ', δ2, h2, e1, e2, i2⟩ := st d ds δ h i
    obtain ⟨δ3, h3, e3, i3⟩ := for_go I ds δ2 h2 st i2
    exact ⟨δ3, h3, by simp [forGo, e1, e2, e3], i3⟩
theorem for_nil (t : Tg) (b : Slots → AH → Option Out) (δ : Slots) (h : AH) : forGo t b none [] δ h = some (.nx δ h) := by simp [forGo]
theorem for_cons (t : Tg) (b : Slots → AH → Option Out) (d : D) (ds : List D) (δ : Slots) (h : AH) : forGo t b none (d :: ds) δ h = (match bindT t d δ with
    | none => none
    | some δ' => thenO (b δ' h) fun δ2 h2 => forGo t b none ds δ2 h2) := by
  rw [forGo, if_pos (lockOk_none h)]
  try (cases bindT t d δ <;> rfl)
theorem lc_nil (t : Tg) (ec ee : Slots → AH → Res D) (δ : Slots) (acc : List D) (h : AH) : lcGo t ec ee δ none [] acc h = some (.ok acc h) := by simp [lcGo]
/-- a comprehension without a test over things that are read -/
theorem lc_map {α : Type} {t : Tg} {ec ee : Slots → AH → Res D} {δ : Slots} {h : AH} (f : α → D) (g : α → D) (hc : ∀ δ' h, ec δ' h = some (.ok (.bl true) h)) (ht : ∀ a, ∃ δ', bindT t (f a) δ = some δ' ∧ ee δ' h = some (.ok (g a) h)) :
    ∀ (l : List α) (acc : List D), acc.length + l.length ≤ szl → lcGo t ec ee δ none (l.map f) acc h = some (.ok (acc ++ l.map g) h)
  | [], acc, _ => by simp [lcGo]
  | a :: l, acc, hl => by
    obtain ⟨δ', e1, e2⟩ := ht a
    simp only [List.length_cons] at hl
    have lt : acc.length < szl := by omega
    simp only [List.map_cons, lcGo, lockOk_none, if_true, e1, hc, bindR_ok, e2, lt]
    rw [lc_map f g hc ht l (acc ++ [g a]) (by simp; omega)]
    simp

/-! ### points -/
theorem enc_len (c : Nat) : (Kh450.encodeUtf8 c).length ≤ 4 := by
  unfold Kh450.encodeUtf8
  repeat' split
  all_goals simp
theorem c_bytes_of (k : Nat) (p : Nat) (h : AH) : callF P (k + 1) .bytes_of [.int p] h = some (.ok (.lst (dns (Kh450.encodeUtf8 p))) h) := by
  rw [callF_succ P k _ _ _ rfl rfl]
  unfold Kh450.encodeUtf8
  by_cases h1 : p < 128
  · have e1 : (p : Int) < 128 := by omega
    simp [fd_bytes_of, h1, e1]
  · have e1 : ¬ (p : Int) < 128 := by omega
    by_cases h2 : p < 2048
    · have e2 : (p : Int) < 2048 := by omega
      simp [fd_bytes_of, h1, e1, h2, e2, binR_div, binR_mod]
    · have e2 : ¬ (p : Int) < 2048 := by omega
      by_cases h3 : p < 65536
      · have e3 : (p : Int) < 65536 := by omega
        simp [fd_bytes_of, h1, e1, h2, e2, h3, e3, binR_div, binR_mod]
      · have e3 : ¬ (p : Int) < 65536 := by omega
        simp [fd_bytes_of, h1, e1, h2, e2, h3, e3, binR_div, binR_mod]
theorem frzAll_below {b : Nat} {h : AH} : ∀ {l : List D}, belowDs b l = true → frzAll b h l = some l
  | [], _ => rfl
  | d :: l, e => by
    simp only [belowDs, Bool.and_eq_true] at e
    simp [frzAll, frz1, e.1, frzAll_below e.2]
@[simp] theorem frzAll_dns (b : Nat) (h : AH) (l : List Nat) : frzAll b h (dns l) = some (dns l) := frzAll_below (dns_all l)
theorem encAll_le (l : List Nat) : (Kh450.encodeAll l).length ≤ 4 * l.length := by
  induction l with
  | nil => simp [Kh450.encodeAll]
  | cons a l ih =>
    have := enc_len a
    simp [Kh450.encodeAll] at ih ⊢
    omega
/-- encoded(points) -/
theorem c_encoded (k : Nat) (l : List Nat) (d : D) (h : AH) (hd : seqOf h d = some (dns l)) (hl : lockOf h d = none) (hz : 4 * l.length ≤ szl) (hb : ∀ h', seqOf (h ++ [h']) d = some (dns l) ∧ lockOf (h ++ [h']) d = none) :
    callF P (k + 2) .encoded [d] h = some (.ok (.lst (dns (Kh450.encodeAll l))) h) := by
  rw [callF_succ P _ _ _ _ rfl rfl]
  have key : ∀ (m acc : List Nat) (x : Option D), acc.length + 4 * m.length ≤ szl → ∃ x', forGo (.one 2) (evalS (callF P (k + 1)) (.expr (.ext (.var 1) (.call .bytes_of (.cons (.var 2) .nil))))) none (dns m) [some d, some (.loc h.length), x] (h ++ [.lst (dns acc)]) =
      some (.nx [some d, some (.loc h.length), x'] (h ++ [.lst (dns (acc ++ Kh450.encodeAll m))])) := by
    intro m
    induction m with
    | nil => intro acc x _; exact ⟨x, by simp [for_nil, Kh450.encodeAll]⟩
    | cons a m ih =>
      intro acc x hz
      have := enc_len a
      simp only [List.length_cons] at hz
      obtain ⟨x', e⟩ := ih (acc ++ Kh450.encodeUtf8 a) (some (.int a)) (by simp; omega)
      refine ⟨x', ?_⟩
      have lt : acc.length + (Kh450.encodeUtf8 a).length ≤ szl := by omega
      simp [for_cons, c_bytes_of, lt, ← dns_app]
      simp at e
      rw [e]
      simp [Kh450.encodeAll]
  obtain ⟨x', e⟩ := key l [] none (by simpa using hz)
  have hb' := hb (.lst [])
  simp at e
  simp [fd_encoded, hb', e, retK, frz, belowD]
theorem c_points_of (k : Nat) (l : List Nat) (h : AH) (hz : l.length ≤ szl) : callF P (k + 1) .points_of [.str l] h = some (.ok (.lst (dns l)) h) := by
  rw [callF_succ P _ _ _ _ rfl rfl]
  have e := lc_map (t := .one 1) (ec := fun _ h => some (.ok (.bl true) h)) (ee := evalE (callF P k) (.bi .ord (.cons (.var 1) .nil))) (δ := [some (.str l), none]) (h := h) (fun c => .str [c]) dn (fun _ _ => rfl)
    (fun a => ⟨_, rfl, by simp⟩) l [] (by simpa using hz)
  simp at e
  simp [fd_points_of, e, dns]
theorem c_told (k : Nat) (l : List Nat) (h : AH) (hz : 4 * l.length + 1 ≤ szl) : callF P (k + 3) .told [.lst (dns l)] h = some (.ok (.lst (dns ((Kh450.encodeAll l).length :: Kh450.encodeAll l))) h) := by
  rw [callF_succ P _ _ _ _ rfl rfl]
  have e := c_encoded k l (.lst (dns l)) h rfl rfl (by omega) fun _ => ⟨rfl, rfl⟩
  have := encAll_le l
  have lt : 1 + (Kh450.encodeAll l).length ≤ szl := by omega
  simp [fd_told, e, lt]
end MM
namespace MM
open Kh450 (isWhite isDigit isLower isUpper isLabel isLabelPart)
open Kh452 (isLetter isPunctuation)
/-- a while that goes on while the item at a place is right -/
theorem scan {α : Type} (c : Slots → AH → Res D) (b : Slots → AH → Option Out) (l : List α) (p : α → Bool) (δ : Nat → Slots) (h : AH)
    (hc : ∀ i, c (δ i) h = some (.ok (.bl (match l[i]? with | some x => p x | none => false)) h))
    (hb : ∀ i, b (δ i) h = some (.nx (δ (i + 1)) h)) (i : Nat) :
    whileF c b (δ i) h = some (.nx (δ (i + ((l.drop i).takeWhile p).length)) h) := by
  generalize hn : l.length - i = n
  induction n generalizing i with
  | zero =>
    have e : l[i]? = none := List.getElem?_eq_none (by omega)
    have e2 : l.drop i = [] := List.drop_eq_nil_of_le (by omega)
    rw [while_eq, hc, e, e2]
    simp
  | succ n ih =>
    have lt : i < l.length := by omega
    rw [while_eq, hc, List.getElem?_eq_getElem lt, List.drop_eq_getElem_cons lt, List.takeWhile_cons]
    cases hp : p l[i] with
    | false => simp only [bindO_ok, hp, Bool.false_eq_true, if_false, List.length_nil, Nat.add_zero]
    | true =>
      have e := ih (i + 1) (by omega)
      have a : i + 1 + (List.takeWhile p (List.drop (i + 1) l)).length = i + ((List.takeWhile p (List.drop (i + 1) l)).length + 1) := by omega
      simp only [bindO_ok, hp, if_true, hb, thenO_nx, e, List.length_cons, a]
@[simp] theorem dns_getE (l : List Nat) (i : Nat) (q : i < (dns l).length) : (dns l)[i] = dn (l[i]'(by simpa using q)) := by simp [dns]
theorem nb {a b : Nat} : ((a : Int) == (b : Int)) = (a == b) := by
  rw [Bool.eq_iff_iff]; simp; omega
@[simp] theorem c_is_white (k : Nat) (p : Nat) (h : AH) : callF P (k + 1) .is_white [.int p] h = some (.ok (.bl (isWhite p)) h) := by
  rw [callF_succ P k _ _ _ rfl rfl]
  simp [fd_is_white, isWhite]
  rw [Bool.eq_iff_iff]
  simp
  omega
@[simp] theorem c_is_letter (k : Nat) (p : Nat) (h : AH) : callF P (k + 1) .is_letter [.int p] h = some (.ok (.bl (isLetter p)) h) := by
  rw [callF_succ P k _ _ _ rfl rfl]
  simp [fd_is_letter, ite_and, ite_or, isLetter, isLower, isUpper]
  rw [Bool.eq_iff_iff]
  simp
  omega
@[simp] theorem c_is_figure (k : Nat) (p : Nat) (h : AH) : callF P (k + 1) .is_figure [.int p] h = some (.ok (.bl (isDigit p)) h) := by
  rw [callF_succ P k _ _ _ rfl rfl]
  simp [fd_is_figure, ite_and, ite_or, isDigit]
  rw [Bool.eq_iff_iff]
  simp
  omega
@[simp] theorem c_is_punctuation (k : Nat) (p : Nat) (h : AH) : callF P (k + 2) .is_punctuation [.int p] h = some (.ok (.bl (isPunctuation p)) h) := by
  rw [callF_succ P _ _ _ _ rfl rfl]
  simp [fd_is_punctuation, isPunctuation]
  by_cases h1 : 33 ≤ p
  · by_cases h2 : p ≤ 126
    · have e1 : (33 : Int) ≤ p := by omega
      have e2 : (p : Int) ≤ 126 := by omega
      cases e3 : isLetter p <;> cases e4 : isDigit p <;> simp [h1, h2, e1, e2, e3, e4]
    · have e1 : (33 : Int) ≤ p := by omega
      have e2 : ¬ (p : Int) ≤ 126 := by omega
      simp [h1, h2, e1, e2]
  · have e1 : ¬ (33 : Int) ≤ p := by omega
    simp [h1, e1]
theorem c_white_end (k : Nat) (ps : List Nat) (i : Nat) (h : AH) : callF P (k + 2) .white_end [.lst (dns ps), .int i] h = some (.ok (.int ((i + ((ps.drop i).takeWhile isWhite).length : Nat) : Int)) h) := by
  rw [callF_succ P _ _ _ _ rfl rfl]
  simp [fd_white_end]
  rw [scan _ _ ps isWhite (fun i => [some (.lst (dns ps)), some (.int i)]) h]
  · simp
  · intro i
    by_cases q : i < ps.length
    · simp [q]
    · simp [q]
  · intro i
    simp
theorem c_letters_end (k : Nat) (ps : List Nat) (i : Nat) (h : AH) : callF P (k + 2) .letters_end [.lst (dns ps), .int i] h = some (.ok (.int ((i + ((ps.drop i).takeWhile isLetter).length : Nat) : Int)) h) := by
  rw [callF_succ P _ _ _ _ rfl rfl]
  simp [fd_letters_end]
  rw [scan _ _ ps isLetter (fun i => [some (.lst (dns ps)), some (.int i)]) h]
  · simp
  · intro i
    by_cases q : i < ps.length
    · simp [q]
    · simp [q]
  · intro i
    simp
end MM
namespace MM
open Kh450 (isWhite isDigit isLower isUpper isLabel isLabelPart)
open Kh452 (isLetter isPunctuation)
theorem lc_mapm {α : Type} {t : Tg} {ec ee : Slots → AH → Res D} {δ : Slots} {h : AH} (f : α → D) (g : α → D) :
    ∀ (l : List α) (acc : List D), (∀ δ' h, ec δ' h = some (.ok (.bl true) h)) → (∀ a ∈ l, ∃ δ', bindT t (f a) δ = some δ' ∧ ee δ' h = some (.ok (g a) h)) → acc.length + l.length ≤ szl → lcGo t ec ee δ none (l.map f) acc h = some (.ok (acc ++ l.map g) h)
  | [], acc, _, _, _ => by simp [lcGo]
  | a :: l, acc, hc, ht, hl => by
    obtain ⟨δ', e1, e2⟩ := ht a (List.mem_cons_self ..)
    simp only [List.length_cons] at hl
    have lt : acc.length < szl := by omega
    simp only [List.map_cons, lcGo, lockOk_none, if_true, e1, hc, bindR_ok, e2, lt]
    rw [lc_mapm f g l (acc ++ [g a]) hc (fun x m => ht x (List.mem_cons_of_mem _ m)) (by simp; omega)]
    simp
theorem allBl_map {α : Type} (q : α → Bool) (l : List α) : allBl (l.map fun x => .bl (q x)) = some (l.map q) := by
  induction l with
  | nil => rfl
  | cons a l ih => simp [ih]
theorem allStr_map {α : Type} (q : α → List Nat) (l : List α) : allStr (l.map fun x => .str (q x)) = some (l.map q) := by
  induction l with
  | nil => rfl
  | cons a l ih => simp [ih]
theorem allInt_dns (l : List Nat) : allInt (dns l) = some (l.map Int.ofNat) := by
  induction l with
  | nil => rfl
  | cons a l ih => simp [ih]
@[simp] theorem pure_dns (l : List Nat) : pureDs (dns l) = true := by
  induction l with
  | nil => rfl
  | cons a l ih => simp [ih]
@[simp] theorem depth_dns (l : List Nat) : depthDs (dns l) = 0 := by
  induction l with
  | nil => rfl
  | cons a l ih => simp [ih]
@[simp] theorem eqDs_dns (l m : List Nat) : eqDs (dns l) (dns m) = (l == m) := by
  induction l generalizing m with
  | nil => cases m <;> simp
  | cons a l ih =>
    cases m with
    | nil => simp
    | cons b m => simp [ih, nb]
@[simp] theorem eqR_dns (l m : List Nat) : eqR (.lst (dns l)) (.lst (dns m)) = some (l == m) := by
  rw [eqR_pure (by simp) (by simp) (by simp)]
  simp
theorem flat1 (l : List Nat) : (l.map fun x => [x]).flatten = l := by
  induction l with
  | nil => rfl
  | cons a l ih => simp [ih]
/-- is_label -/
theorem c_is_label (k : Nat) (l : List Nat) (d : D) (h : AH) (hd : seqOf h d = some (dns l)) (hl : lockOf h d = none) (hz : l.length ≤ szl) : callF P (k + 2) .is_label [d] h = some (.ok (.bl (isLabel l)) h) := by
  rw [callF_succ P _ _ _ _ rfl rfl]
  have e := lc_mapm (t := .one 1) (ec := fun _ h => some (.ok (.bl true) h)) (ee := evalE (callF P (k + 1)) (.or (.call .is_letter (.cons (.var 1) .nil)) (.or (.call .is_figure (.cons (.var 1) .nil)) (.isin (.var 1) (.gl "MARK_POINTS" (.tup [.int 45, .int 95, .int 46, .int 58])))))) (δ := [some d, none]) (h := h) dn (fun x => .bl (isLabelPart x)) l []
    (fun _ _ => rfl) (fun a _ => ⟨_, rfl, by
      simp [ite_or, isLabelPart, isLetter, isLower, isUpper, isDigit]
      rw [Bool.eq_iff_iff]
      simp
      omega⟩) (by simpa using hz)
  have e1 : dns l = l.map dn := rfl
  simp [← e1] at e
  by_cases h1 : 1 ≤ l.length
  · by_cases h2 : l.length ≤ 40
    · have a1 : (1 : Int) ≤ l.length := by omega
      have a2 : (l.length : Int) ≤ 40 := by omega
      simp [fd_is_label, lenOf_of hd, hd, hl, e, a1, a2, allBl_map, isLabel, h1, h2]
      intro _ e
      simp [e] at h1
    · have a1 : (1 : Int) ≤ l.length := by omega
      have a2 : ¬ (l.length : Int) ≤ 40 := by omega
      simp [fd_is_label, lenOf_of hd, hd, hl, a1, a2, isLabel, h1, h2]
  · have a1 : ¬ (1 : Int) ≤ l.length := by omega
    simp [fd_is_label, lenOf_of hd, hd, hl, a1, isLabel, h1]
    intro e
    cases l
    · exact absurd rfl e
    · simp at h1
theorem getc {l : List Nat} {b n : Nat} (e : ∀ i < n, l[i]? = some (b + i)) (p : Nat) (h1 : b ≤ p) (h2 : p < b + n) : l[p - b]? = some p := by
  rw [e _ (by omega)]
  congr 1
  omega
theorem low_get : ∀ i < 26, (cds "abcdefghijklmnopqrstuvwxyz")[i]? = some (97 + i) := by decide
theorem upp_get : ∀ i < 26, (cds "ABCDEFGHIJKLMNOPQRSTUVWXYZ")[i]? = some (65 + i) := by decide
theorem fig_get : ∀ i < 10, (cds "0123456789")[i]? = some (48 + i) := by decide
theorem cds_len1 : (cds "abcdefghijklmnopqrstuvwxyz").length ≤ szl := by decide
theorem cds_len2 : (cds "ABCDEFGHIJKLMNOPQRSTUVWXYZ").length ≤ szl := by decide
theorem cds_len3 : (cds "0123456789").length ≤ szl := by decide
theorem cds_len4 : (cds "-_.:").length ≤ szl := by decide
theorem mk0 : getI (cds "-_.:") 0 = some 45 := by decide
theorem mk1 : getI (cds "-_.:") 1 = some 95 := by decide
theorem mk2 : getI (cds "-_.:") 2 = some 46 := by decide
theorem mk3 : getI (cds "-_.:") 3 = some 58 := by decide
theorem c_sign_of (k : Nat) (p : Nat) (h : AH) (hp : isLabelPart p = true) : callF P (k + 2) .sign_of [.int p] h = some (.ok (.str [p]) h) := by
  rw [callF_succ P _ _ _ _ rfl rfl]
  by_cases h1 : 97 ≤ p ∧ p ≤ 122
  · have e : ((p : Int) - 97) = ((p - 97 : Nat) : Int) := by omega
    have a1 : (97 : Int) ≤ p := by omega
    have a2 : (p : Int) ≤ 122 := by omega
    simp [fd_sign_of, a1, a2, e, cds_len1, getc low_get p (by omega) (by omega)]
  · by_cases h2 : 65 ≤ p ∧ p ≤ 90
    · have e : ((p : Int) - 65) = ((p - 65 : Nat) : Int) := by omega
      have a1 : (65 : Int) ≤ p := by omega
      have a2 : (p : Int) ≤ 90 := by omega
      have a3 : ¬ (97 : Int) ≤ p := by omega
      simp [fd_sign_of, a1, a2, a3, e, cds_len2, getc upp_get p (by omega) (by omega)]
    · have ni : ¬ ((97 : Int) ≤ p ∧ (p : Int) ≤ 122) := by omega
      have nj : ¬ ((65 : Int) ≤ p ∧ (p : Int) ≤ 90) := by omega
      by_cases h3 : 48 ≤ p ∧ p ≤ 57
      · have e : ((p : Int) - 48) = ((p - 48 : Nat) : Int) := by omega
        have d : isDigit p = true := by simp [isDigit, h3]
        have a3 : ¬ (97 : Int) ≤ p := by omega
        have a4 : ¬ (65 : Int) ≤ p := by omega
        simp [fd_sign_of, a3, a4, d, e, cds_len3, getc fig_get p (by omega) (by omega)]
      · have d : isDigit p = false := by simp [isDigit]; omega
        have q : p = 45 ∨ p = 95 ∨ p = 46 ∨ p = 58 := by
          simp [isLabelPart, isLower, isUpper, isDigit] at hp
          omega
        have cf := c_is_figure k p h
        rw [d] at cf
        rcases q with q | q | q | q <;> subst q <;> simp at cf <;> simp [fd_sign_of, cf, cds_len4, List.findIdx?_cons, mk0, mk1, mk2, mk3]
theorem c_word_of (k : Nat) (l : List Nat) (d : D) (h : AH) (hd : seqOf h d = some (dns l)) (hl : lockOf h d = none) (hz : l.length ≤ szl) (hp : l.all isLabelPart = true) : callF P (k + 3) .word_of [d] h = some (.ok (.str l) h) := by
  rw [callF_succ P _ _ _ _ rfl rfl]
  have e := lc_mapm (t := .one 1) (ec := fun _ h => some (.ok (.bl true) h)) (ee := evalE (callF P (k + 2)) (.call .sign_of (.cons (.var 1) .nil))) (δ := [some d, none]) (h := h) dn (fun x => .str [x]) l []
    (fun _ _ => rfl) (fun a m => ⟨_, rfl, by
      have := List.all_eq_true.mp hp a m
      simp [c_sign_of, this]⟩) (by simpa using hz)
  have e1 : dns l = l.map dn := rfl
  simp [← e1] at e
  have z : ((l.map fun x => [x]).flatten).length ≤ szl := by rw [flat1]; exact hz
  simp at z
  simp [fd_word_of, hd, hl, e, allStr_map, flat1, hz, cds, z]
/-! ### a for over places -/
theorem find_rng (δ : Option D → Slots) {i : Nat} (hs : ∀ x d, setS (δ x) i d = δ (some d)) (q : Nat → Bool) (g : Nat → D) (h : AH) (body : Slots → AH → Option Out) (n b : Nat) (x : Option D)
    (hb : ∀ j, b ≤ j → j < b + n → body (δ (some (.int j))) h = if q j then some (.ret (g j) h) else some (.nx (δ (some (.int j))) h)) :
    forGo (.one i) body none ((List.range' b n).map fun (j : Nat) => D.int (j : Int)) (δ x) h = match (List.range' b n).find? q with
      | some j => some (.ret (g j) h)
      | none => some (.nx (δ (if n = 0 then x else some (.int ((b + n - 1 : Nat) : Int)))) h) := by
  induction n generalizing b x with
  | zero => simp [for_nil]
  | succ n ih =>
    have e := ih (b + 1) (some (.int b)) (fun j h1 h2 => hb j (by omega) (by omega))
    rw [List.range'_succ, List.map_cons, for_cons, bindT_one, hs]
    simp only []
    rw [hb b (by omega) (by omega), List.find?_cons]
    cases hq : q b with
    | true => simp
    | false =>
      simp only [Bool.false_eq_true, if_false, thenO_nx]
      rw [e]
      cases List.find? q (List.range' (b + 1) n) with
      | some j => rfl
      | none =>
        simp only [Nat.add_one_ne_zero, if_false]
        by_cases hn : n = 0
        · subst hn
          simp
        · have a : b + 1 + n - 1 = b + (n + 1) - 1 := by omega
          simp [hn, a]
theorem rng_eq (b n : Nat) : ((List.range n).map fun (k : Nat) => D.int ((b : Int) + (k : Int))) = (List.range' b n).map fun (j : Nat) => D.int (j : Int) := by
  rw [List.range'_eq_map_range]
  simp
theorem find_place (l : List Nat) (p b : Nat) : (List.range' b (l.length - b)).find? (fun j => l[j]? == some p) = if b + ((l.drop b).takeWhile fun x => x != p).length < l.length then some (b + ((l.drop b).takeWhile fun x => x != p).length) else none := by
  generalize hn : l.length - b = n
  induction n generalizing b with
  | zero =>
    have e2 : l.drop b = [] := List.drop_eq_nil_of_le (by omega)
    rw [e2, if_neg (by simp; omega)]
    simp
  | succ n ih =>
    have lt : b < l.length := by omega
    rw [List.range'_succ, List.find?_cons, List.drop_eq_getElem_cons lt, List.takeWhile_cons, List.getElem?_eq_getElem lt]
    by_cases q : l[b] = p
    · simp [q, lt]
    · have e := ih (b + 1) (by omega)
      have q1 : (some l[b] == some p) = false := by simp [q]
      have q2 : (l[b] != p) = true := by simp [q]
      simp only [q1, q2, if_true, List.length_cons, e]
      have a : b + 1 + (List.takeWhile (fun x => x != p) (List.drop (b + 1) l)).length = b + ((List.takeWhile (fun x => x != p) (List.drop (b + 1) l)).length + 1) := by omega
      simp only [a]
/-- where a sign stands, from a place on -/
def placeD (l : List Nat) (p b : Nat) : D := if b + ((l.drop b).takeWhile fun x => x != p).length < l.length then .int ((b + ((l.drop b).takeWhile fun x => x != p).length : Nat) : Int) else .non
theorem clampI_eq : clampI = 2305843009213693952 := by decide
theorem clamp1 {b : Nat} (q : b ≤ szl) : -clampI < (b : Int) := by
  have hs : szl = 16777216 := rfl
  rw [clampI_eq]; omega
theorem clamp2 {b : Nat} (q : b ≤ szl) : (b : Int) < clampI := by
  have hs : szl = 16777216 := rfl
  rw [clampI_eq]; omega
theorem rng_src {F : Fn → List D → AH → Res D} {a b : IE} {δ : Slots} {h : AH} {i j : Nat} (hi : i ≤ szl) (hj : j ≤ szl) (ea : evalE F a δ h = some (.ok (.int i) h)) (eb : evalE F b δ h = some (.ok (.int j) h)) :
    evalSrc F (.rng a b) δ h = some (.ok ((List.range' i (j - i)).map fun (k : Nat) => D.int (k : Int), none) h) := by
  have e0 : ((j : Int) - i).toNat = j - i := by omega
  rw [evalSrc.eq_2, ea, bindR_ok, eb, bindR_ok]
  show (if _ then _ else _) = _
  rw [if_pos ⟨clamp1 hi, clamp2 hi, clamp1 hj, clamp2 hj⟩, e0, rng_eq]
theorem c_place_of (k : Nat) (l : List Nat) (p b : Nat) (h : AH) (hz : l.length ≤ szl) (hbz : b ≤ szl) : callF P (k + 1) .place_of [.lst (dns l), .int p, .int b] h = some (.ok (placeD l p b) h) := by
  rw [callF_succ P _ _ _ _ rfl rfl]
  simp only [fd_place_of, evalS]
  rw [rng_src hbz hz (by simp) (by simp)]
  simp
  rw [find_rng (fun x => [some (.lst (dns l)), some (.int p), some (.int b), x]) (fun _ _ => rfl) (fun j => l[j]? == some p) (fun j => .int (j : Int)) h]
  · rw [find_place]
    unfold placeD
    by_cases q : b + (List.takeWhile (fun x => x != p) (List.drop b l)).length < l.length
    · simp only [if_pos q, outK_ret]
      simp [retK]
    · simp only [if_neg q, outK_nx, thenO_nx]
      simp [retK]
  · intro j h1 h2
    have lt : j < l.length := by omega
    simp [lt, nb]
end MM
namespace MM
open Kh450 (isWhite isDigit isLower isUpper isLabel isLabelPart codesOf)
open Kh452 (isLetter isPunctuation Token Placed whiteToken tokenizeLoop)
/-! ### what one token is, as the specification has it -/
def paramStep : List Nat → Except Nat (Option Token × Nat)
  | d :: _ => if 49 ≤ d ∧ d ≤ 57 then .ok (some (.parameter (d - 48)), 2) else .error 7
  | [] => .error 7
def mathStep (rest : List Nat) : Except Nat (Option Token × Nat) :=
  let content := rest.takeWhile fun x => x != 36
  if content.length = rest.length then .error 1
  else if content.isEmpty then .error 5
  else .ok (some (.math content), content.length + 2)
def verbStep (rest : List Nat) : Except Nat (Option Token × Nat) := match rest.drop 4 with
  | [] => .error 4
  | delimiter :: body =>
    let content := body.takeWhile fun x => x != delimiter && x != 10
    if isWhite delimiter then .error 4
    else if body.drop content.length |>.head?.any fun x => x == delimiter then .ok (some (.verbatim content), content.length + 7)
    else .error 1
def wordStep (rest : List Nat) : Except Nat (Option Token × Nat) :=
  let name := rest.takeWhile isLetter
  if name == codesOf "verb" then verbStep rest
  else
    let white := (rest.drop name.length).takeWhile isWhite
    .ok (some (.control name), name.length + 1 + (if whiteToken white = .space then white.length else 0))
def plainStep (rest : List Nat) : Except Nat (Option Token × Nat) := match rest with
  | [] => .error 3
  | d :: _ =>
    if d = 92 then .ok (some (.control [92]), 2)
    else if d = 32 then .ok (some (.escaped 32), 2)
    else if isPunctuation d then .ok (some (.escaped d), 2)
    else if isLetter d then wordStep rest
    else .error 3
def slashStep (t rest : List Nat) : Except Nat (Option Token × Nat) :=
  match Kh452.literalStart "code" t, Kh452.literalStart "formula" t with
  | some (language, body), _ => (match Kh452.literalContent (codesOf "\\end{code}") true body with
    | some (content, after) => .ok (some (.code language (Kh452.withoutLast content)), t.length - after.length)
    | none => .error 1)
  | none, some (id, body) => (match Kh452.literalContent (codesOf "\\end{formula}") true body with
    | some (content, after) => .ok (some (.formula id (Kh452.withoutLast content)), t.length - after.length)
    | none => .error 1)
  | none, none => plainStep rest
def commentLen (rest : List Nat) : Nat :=
  let line := rest.takeWhile fun x => x != 10
  let after := (rest.drop (line.length + 1)).takeWhile fun x => x == 32 || x == 9
  min (line.length + 2 + after.length) (rest.length + 1)
def stepTok (c : Nat) (rest : List Nat) : Except Nat (Option Token × Nat) :=
  if isWhite c then .ok (some (whiteToken ((c :: rest).takeWhile isWhite)), ((c :: rest).takeWhile isWhite).length)
  else if c = 37 then .ok (none, commentLen rest)
  else if c = 123 then .ok (some .openGroup, 1)
  else if c = 125 then .ok (some .closeGroup, 1)
  else if c = 38 then .ok (some .cellMark, 1)
  else if c = 126 then .ok (some (.char 160), 1)
  else if c = 35 then paramStep rest
  else if c = 36 then mathStep rest
  else if c = 92 then slashStep (c :: rest) rest
  else .ok (some (.char c), 1)
def goTok (fuel pos : Nat) (t : List Nat) : Except Nat (Option Token × Nat) → Kh452.Checked (List Placed)
  | .error k => .error (k, pos)
  | .ok (some tk, n) => (tokenizeLoop fuel (pos + n) (t.drop n)).map fun r => (⟨pos, tk⟩ : Placed) :: r
  | .ok (none, n) => tokenizeLoop fuel (pos + n) (t.drop n)
theorem goTok_ite (c : Prop) [Decidable c] (fuel pos : Nat) (t : List Nat) (x y : Except Nat (Option Token × Nat)) : goTok fuel pos t (if c then x else y) = if c then goTok fuel pos t x else goTok fuel pos t y := by split <;> rfl
theorem tok_loop (fuel pos c : Nat) (rest : List Nat) : tokenizeLoop (fuel + 1) pos (c :: rest) = goTok fuel pos (c :: rest) (stepTok c rest) := by
  rw [Kh452.tokenizeLoop.eq_def]
  simp only []
  simp only [stepTok, goTok_ite]
  by_cases h1 : isWhite c = true
  · rw [if_pos h1, if_pos h1]; rfl
  rw [if_neg h1, if_neg h1]
  by_cases h2 : c = 37
  · rw [if_pos h2, if_pos h2]; rfl
  rw [if_neg h2, if_neg h2]
  by_cases h3 : c = 123
  · rw [if_pos h3, if_pos h3]; rfl
  rw [if_neg h3, if_neg h3]
  by_cases h4 : c = 125
  · rw [if_pos h4, if_pos h4]; rfl
  rw [if_neg h4, if_neg h4]
  by_cases h5 : c = 38
  · rw [if_pos h5, if_pos h5]; rfl
  rw [if_neg h5, if_neg h5]
  by_cases h6 : c = 126
  · rw [if_pos h6, if_pos h6]; rfl
  rw [if_neg h6, if_neg h6]
  by_cases h7 : c = 35
  · rw [if_pos h7, if_pos h7]
    cases rest with
    | nil => rfl
    | cons d r => simp only [paramStep, goTok_ite]; rfl
  rw [if_neg h7, if_neg h7]
  by_cases h8 : c = 36
  · rw [if_pos h8, if_pos h8]
    simp only [mathStep, goTok_ite]
    rfl
  rw [if_neg h8, if_neg h8]
  by_cases h9 : c = 92
  · rw [if_pos h9, if_pos h9]
    simp only [slashStep]
    rcases Kh452.literalStart "code" (c :: rest) with _ | ⟨l, b⟩
    · rcases Kh452.literalStart "formula" (c :: rest) with _ | ⟨l, b⟩
      · cases rest with
        | nil => rfl
        | cons d r =>
          simp only [plainStep, goTok_ite, wordStep, verbStep]
          by_cases g1 : d = 92
          · rw [if_pos g1, if_pos g1]; rfl
          rw [if_neg g1, if_neg g1]
          by_cases g2 : d = 32
          · rw [if_pos g2, if_pos g2]; rfl
          rw [if_neg g2, if_neg g2]
          by_cases g3 : isPunctuation d = true
          · rw [if_pos g3, if_pos g3]; rfl
          rw [if_neg g3, if_neg g3]
          by_cases g4 : isLetter d = true
          · rw [if_pos g4, if_pos g4]
            by_cases g5 : (List.takeWhile isLetter (d :: r) == codesOf "verb") = true
            · rw [if_pos g5, if_pos g5]
              cases List.drop 4 (d :: r) with
              | nil => rfl
              | cons x y => simp only [goTok_ite]; rfl
            rw [if_neg g5, if_neg g5]
            rfl
          rw [if_neg g4, if_neg g4]
          rfl
      · simp only []
        rcases Kh452.literalContent (codesOf "\\end{formula}") true b with _ | ⟨x, y⟩ <;> rfl
    · simp only []
      rcases Kh452.literalContent (codesOf "\\end{code}") true b with _ | ⟨x, y⟩ <;> rfl
  rw [if_neg h9, if_neg h9]
  rfl
/-! ### tokens as data -/
def tokD (p : Nat) : Token → D
  | .control n => .tup [.int 1, .int p, .str (if n = [92] then [92, 92] else n)]
  | .char c => .tup [.int 2, .int p, .int c]
  | .escaped c => .tup [.int 3, .int p, .int c]
  | .space => .tup [.int 4, .int p, .int 0]
  | .paragraph => .tup [.int 5, .int p, .int 0]
  | .openGroup => .tup [.int 6, .int p, .int 0]
  | .closeGroup => .tup [.int 7, .int p, .int 0]
  | .parameter n => .tup [.int 8, .int p, .int n]
  | .cellMark => .tup [.int 9, .int p, .int 0]
  | .math c => .tup [.int 10, .int p, .tup (dns c)]
  | .verbatim c => .tup [.int 11, .int p, .tup (dns c)]
  | .code l c => .tup [.int 12, .int p, .tup [.tup (dns l), .tup (dns c)]]
  | .formula l c => .tup [.int 13, .int p, .tup [.tup (dns l), .tup (dns c)]]
  | .mark n => .tup [.int 0, .int p, .str n]
def placedD (p : Placed) : D := tokD p.position p.token
def optD (p : Nat) : Option Token → D
  | some t => tokD p t
  | none => .non
def resT (at' : Nat) (h : AH) : Except Nat (Option Token × Nat) → Res D
  | .error k => some (.ex (.wrong k at'))
  | .ok (o, n) => some (.ok (.tup [optD at' o, .int ((at' + n : Nat) : Int)]) h)
theorem c_need (k : Nat) (b : Bool) (x p : Int) (h : AH) : callF P (k + 1) .need [.bl b, .int x, .int p] h = if b then some (.ok .non h) else some (.ex (.wrong x p)) := by
  rw [callF_succ P _ _ _ _ rfl rfl]
  cases b <;> simp [fd_need, retK]
end MM
namespace MM
open Kh450 (isWhite isDigit isLower isUpper isLabel isLabelPart codesOf)
open Kh452 (isLetter isPunctuation Token Placed whiteToken tokenizeLoop)
theorem cut_nat {α : Type} (l : List α) (a b : Nat) : cutS l (some (a : Int)) (some (b : Int)) = (l.drop a).take (b - a) := by
  have h1 : cutI l.length (a : Int) = min a l.length := by simp [cutI]; omega
  have h2 : cutI l.length (b : Int) = min b l.length := by simp [cutI]; omega
  simp only [cutS, cutO_some, h1, h2, cut]
  by_cases q : a ≤ l.length
  · rw [Nat.min_eq_left q]
    by_cases r : b ≤ l.length
    · rw [Nat.min_eq_left r]
    · rw [Nat.min_eq_right (show l.length ≤ b by omega)]
      rw [List.take_of_length_le (by simp), List.take_of_length_le (by simp; omega)]
  · rw [Nat.min_eq_right (show l.length ≤ a by omega), List.drop_length, List.drop_eq_nil_of_le (by omega)]
    simp
@[simp] theorem getI_succ {α : Type} (l : List α) (i : Nat) : getI l ((i : Int) + 1) = l[i + 1]? := getI_nat l (i + 1)
theorem dns_cut (l : List Nat) (a b : Nat) : cutS (dns l) (some (a : Int)) (some (b : Int)) = dns ((l.drop a).take (b - a)) := by
  rw [cut_nat]; simp [dns]
theorem tw_take {α : Type} (p : α → Bool) (l : List α) : l.take (l.takeWhile p).length = l.takeWhile p := (List.prefix_iff_eq_take.mp (List.takeWhile_prefix p)).symm
theorem tw_len {α : Type} (p : α → Bool) (l : List α) : (l.takeWhile p).length ≤ l.length := (List.takeWhile_prefix p).length_le
theorem count_nat (l : List Nat) (x : Nat) : (l.map Int.ofNat).count (x : Int) = (l.filter fun c => c == x).length := by
  induction l with
  | nil => rfl
  | cons a l ih =>
    simp only [List.map_cons, List.count_cons, ih, List.filter_cons]
    by_cases q : a = x
    · subst q; simp
    · have q1 : ((Int.ofNat a) == (x : Int)) = false := by simp; omega
      have q2 : (a == x) = false := by simpa using q
      simp [q2]
      omega
theorem c_is_paragraph (k : Nat) (l : List Nat) (b e : Nat) (h : AH) : callF P (k + 1) .is_paragraph [.lst (dns l), .int b, .int e] h = some (.ok (.bl (decide (whiteToken ((l.drop b).take (e - b)) = .paragraph))) h) := by
  rw [callF_succ P _ _ _ _ rfl rfl]
  have c := count_nat ((l.drop b).take (e - b)) 10
  simp at c
  simp [fd_is_paragraph, dns_cut, allInt_dns, c, whiteToken]
  by_cases q : 2 ≤ (List.filter (fun c => c == 10) ((l.drop b).take (e - b))).length
  · have q' : (2 : Int) ≤ (List.filter (fun c => c == 10) ((l.drop b).take (e - b))).length := by omega
    simp [q, q']
  · have q' : ¬ (2 : Int) ≤ (List.filter (fun c => c == 10) ((l.drop b).take (e - b))).length := by omega
    simp [q, q']
theorem c_white_token (k : Nat) (l : List Nat) (i : Nat) (h : AH) : callF P (k + 3) .white_token [.lst (dns l), .int i] h = resT i h (.ok (some (whiteToken ((l.drop i).takeWhile isWhite)), ((l.drop i).takeWhile isWhite).length)) := by
  rw [callF_succ P _ _ _ _ rfl rfl]
  have e1 := c_white_end k l i h
  have e2 := c_is_paragraph (k + 1) l i (i + ((l.drop i).takeWhile isWhite).length) h
  have e3 : i + ((l.drop i).takeWhile isWhite).length - i = ((l.drop i).takeWhile isWhite).length := by omega
  rw [e3, tw_take] at e2
  simp at e1 e2
  simp [fd_white_token, e1, e2, resT]
  by_cases q : whiteToken ((l.drop i).takeWhile isWhite) = .paragraph
  · simp [q, optD, tokD, retK]
  · have q' : whiteToken ((l.drop i).takeWhile isWhite) = .space := by
      simp only [whiteToken] at q ⊢
      split at q <;> simp_all
    simp [q', optD, tokD, retK]
theorem c_parameter_token (k : Nat) (l : List Nat) (i : Nat) (h : AH) : callF P (k + 2) .parameter_token [.lst (dns l), .int i] h = resT i h (paramStep (l.drop (i + 1))) := by
  rw [callF_succ P _ _ _ _ rfl rfl]
  by_cases q : i + 1 < l.length
  · have a1 : (i : Int) + 1 < l.length := by omega
    rw [List.drop_eq_getElem_cons q]
    generalize hx : l[i + 1] = x
    simp only [paramStep]
    by_cases r : 49 ≤ x ∧ x ≤ 57
    · have r1 : (49 : Int) ≤ x := by omega
      have r2 : (x : Int) ≤ 57 := by omega
      have r3 : (x : Int) - 48 = ((x - 48 : Nat) : Int) := by omega
      simp [fd_parameter_token, a1, q, hx, r1, r2, c_need, r, resT, optD, tokD, r3, retK]
    · by_cases r1 : (49 : Int) ≤ x
      · have r2 : ¬ (x : Int) ≤ 57 := by omega
        simp [fd_parameter_token, a1, q, hx, r1, r2, c_need, r, resT]
      · simp [fd_parameter_token, a1, q, hx, r1, c_need, r, resT]
  · have a1 : ¬ (i : Int) + 1 < l.length := by omega
    rw [List.drop_eq_nil_of_le (by omega)]
    simp [fd_parameter_token, a1, c_need, paramStep, resT]
end MM
namespace MM
namespace C
/-! ### numbers not below 0 stay casts -/
section
variable (a b : Nat) (h : AH)
@[scoped simp high] theorem addN : binR .add (.int (a : Int)) (.int (b : Int)) h = some (.ok (.int ((a + b : Nat) : Int)) h) := by simp
@[scoped simp high] theorem addNL : binR .add (.int (a : Int)) (.int (no_index (OfNat.ofNat b))) h = some (.ok (.int ((a + OfNat.ofNat b : Nat) : Int)) h) := by
  rw [binR_add, Int.natCast_add]; rfl
@[scoped simp high] theorem addLN : binR .add (.int (no_index (OfNat.ofNat a))) (.int (b : Int)) h = some (.ok (.int ((OfNat.ofNat a + b : Nat) : Int)) h) := by
  rw [binR_add, Int.natCast_add]; rfl
@[scoped simp high] theorem addLL : binR .add (.int (no_index (OfNat.ofNat a))) (.int (no_index (OfNat.ofNat b))) h = some (.ok (.int ((OfNat.ofNat a + OfNat.ofNat b : Nat) : Int)) h) := by
  rw [binR_add, Int.natCast_add]; rfl
theorem subN (q : b ≤ a) : binR .sub (.int (a : Int)) (.int (b : Int)) h = some (.ok (.int ((a - b : Nat) : Int)) h) := by
  rw [binR_sub, Int.ofNat_sub q]
theorem subNL (q : OfNat.ofNat b ≤ a) : binR .sub (.int (a : Int)) (.int (no_index (OfNat.ofNat b))) h = some (.ok (.int ((a - OfNat.ofNat b : Nat) : Int)) h) := by
  rw [binR_sub, Int.ofNat_sub q]; rfl
theorem subK {a b : Nat} {z : Int} (hz : z = b) (q : b ≤ a) : binR .sub (.int (a : Int)) (.int z) h = some (.ok (.int ((a - b : Nat) : Int)) h) := by
  subst hz
  exact subN _ _ _ q
@[scoped simp high] theorem subAL : binR .sub (.int ((a + no_index (OfNat.ofNat b) : Nat) : Int)) (.int (no_index (OfNat.ofNat b))) h = some (.ok (.int (a : Int)) h) := by
  rw [subNL _ _ _ (Nat.le_add_left _ _), Nat.add_sub_cancel]
@[scoped simp] theorem leNL : (((a : Int) ≤ no_index (OfNat.ofNat b : Int)) ↔ a ≤ OfNat.ofNat b) := by
  show ((a : Int) ≤ ((OfNat.ofNat b : Nat) : Int)) ↔ _
  exact Int.ofNat_le
@[scoped simp] theorem leLN : ((no_index (OfNat.ofNat b : Int) ≤ (a : Int)) ↔ OfNat.ofNat b ≤ a) := by
  show (((OfNat.ofNat b : Nat) : Int) ≤ (a : Int)) ↔ _
  exact Int.ofNat_le
@[scoped simp] theorem ltNL : (((a : Int) < no_index (OfNat.ofNat b : Int)) ↔ a < OfNat.ofNat b) := by
  show ((a : Int) < ((OfNat.ofNat b : Nat) : Int)) ↔ _
  exact Int.ofNat_lt
@[scoped simp] theorem ltLN : ((no_index (OfNat.ofNat b : Int) < (a : Int)) ↔ OfNat.ofNat b < a) := by
  show (((OfNat.ofNat b : Nat) : Int) < (a : Int)) ↔ _
  exact Int.ofNat_lt
@[scoped simp] theorem beqN : (((a : Int) == (b : Int)) = (a == b)) := nb
@[scoped simp] theorem beqNL : (((a : Int) == no_index (OfNat.ofNat b : Int)) = (a == OfNat.ofNat b)) := nb (b := OfNat.ofNat b)
@[scoped simp] theorem beqLN : ((no_index (OfNat.ofNat b : Int) == (a : Int)) = (OfNat.ofNat b == a)) := nb (a := OfNat.ofNat b)
end
@[scoped simp] theorem eqR_one (i j : Int) : eqR (.lst [.int i]) (.lst [.int j]) = some (i == j) := by
  rw [eqR_pure (by simp) (by simp) (by simp)]
  simp
@[scoped simp] theorem dns_isE (l : List Nat) : (dns l).isEmpty = l.isEmpty := by cases l <;> rfl
@[scoped simp] theorem dns_nilI (l : List Nat) : (dns l = []) ↔ l = [] := by cases l <;> simp
@[scoped simp high] theorem maxN (a b : Nat) (h : AH) : biR .max2 [.int (a : Int), .int (b : Int)] h = some (.ok (.int ((max a b : Nat) : Int)) h) := by
  rw [biR_max2]
  congr 3
  split <;> omega
@[scoped simp] theorem getI0 {α : Type} (a : α) (l : List α) : getI (a :: l) 0 = some a := rfl
@[scoped simp] theorem getI1 {α : Type} (a b : α) (l : List α) : getI (a :: b :: l) 1 = some b := rfl
@[scoped simp] theorem getI2 {α : Type} (a b c : α) (l : List α) : getI (a :: b :: c :: l) 2 = some c := rfl
theorem bl_eq {a b : Bool} {h : AH} (e : a = b) : (some (.ok (.bl a) h) : Res D) = some (.ok (.bl b) h) := by rw [e]
theorem int_eq {a b : Int} {h : AH} (e : a = b) : (some (.ok (.int a) h) : Res D) = some (.ok (.int b) h) := by rw [e]
/-! ### loops whose state is told by a value -/
inductive St (σ : Type) where
  | go (s : σ) | ret (d : D) (h : AH) | ex (e : Exc)
def St.tell {σ : Type} (Δ : σ → Slots) (H : σ → AH) : St σ → Option Out
  | .go s => some (.nx (Δ s) (H s))
  | .ret d h => some (.ret d h)
  | .ex e => some (.ex e)
@[simp] theorem St.tell_go {σ : Type} (Δ : σ → Slots) (H : σ → AH) (s : σ) : (St.go s).tell Δ H = some (.nx (Δ s) (H s)) := rfl
@[simp] theorem St.tell_ret {σ : Type} (Δ : σ → Slots) (H : σ → AH) (d : D) (h : AH) : (St.ret d h : St σ).tell Δ H = some (.ret d h) := rfl
@[simp] theorem St.tell_ex {σ : Type} (Δ : σ → Slots) (H : σ → AH) (e : Exc) : (St.ex e : St σ).tell Δ H = some (.ex e) := rfl
def runL {α σ : Type} (f : σ → α → St σ) : List α → σ → St σ
  | [], s => .go s
  | a :: l, s => match f s a with
    | .go s' => runL f l s'
    | .ret d h => .ret d h
    | .ex e => .ex e
/-- a for over a list of things -/
theorem for_run {α σ : Type} {t : Tg} {b : Slots → AH → Option Out} (enc : α → D) (Δ : σ → Slots) (H : σ → AH) (f : σ → α → St σ) (I : σ → List α → Prop)
    (st : ∀ s a l, I s (a :: l) → (∃ δ', bindT t (enc a) (Δ s) = some δ' ∧ b δ' (H s) = (f s a).tell Δ H) ∧ ∀ s', f s a = .go s' → I s' l) :
    ∀ (l : List α) (s : σ), I s l → forGo t b none (l.map enc) (Δ s) (H s) = (runL f l s).tell Δ H
  | [], s, i => by simp [for_nil, runL]
  | a :: l, s, i => by
    obtain ⟨⟨δ', e1, e2⟩, nx⟩ := st s a l i
    rw [List.map_cons, for_cons, e1]
    simp only [e2, runL]
    cases hf : f s a with
    | go s' =>
      simp only [St.tell_go, thenO_nx]
      exact for_run enc Δ H f I st l s' (nx s' hf)
    | ret d h => simp
    | ex e => simp
/-- the same, nothing ends it -/
theorem for_fold {α σ : Type} {t : Tg} {b : Slots → AH → Option Out} (enc : α → D) (Δ : σ → Slots) (H : σ → AH) (f : σ → α → σ) (I : σ → List α → Prop)
    (st : ∀ s a l, I s (a :: l) → (∃ δ', bindT t (enc a) (Δ s) = some δ' ∧ b δ' (H s) = some (.nx (Δ (f s a)) (H (f s a)))) ∧ I (f s a) l) :
    ∀ (l : List α) (s : σ), I s l → forGo t b none (l.map enc) (Δ s) (H s) = some (.nx (Δ (l.foldl f s)) (H (l.foldl f s)))
  | [], s, i => by simp [for_nil]
  | a :: l, s, i => by
    obtain ⟨⟨δ', e1, e2⟩, nx⟩ := st s a l i
    rw [List.map_cons, for_cons, e1]
    simp only [e2, thenO_nx, List.foldl_cons]
    exact for_fold enc Δ H f I st l (f s a) nx
theorem while_run {σ : Type} {c : Slots → AH → Res D} {b : Slots → AH → Option Out} (Δ : σ → Slots) (H : σ → AH) (cond : σ → Bool) (step r : σ → St σ) (I : σ → Prop) (μ : σ → Nat)
    (hc : ∀ s, I s → c (Δ s) (H s) = some (.ok (.bl (cond s)) (H s)))
    (h0 : ∀ s, I s → cond s = false → r s = .go s)
    (h1 : ∀ s, I s → cond s = true → b (Δ s) (H s) = (step s).tell Δ H)
    (h2 : ∀ s, I s → cond s = true → match step s with
      | .go s' => I s' ∧ μ s' < μ s ∧ r s = r s'
      | o => r s = o) (s : σ) (i : I s) : whileF c b (Δ s) (H s) = (r s).tell Δ H := by
  generalize hn : μ s = n
  induction n using Nat.strongRecOn generalizing s with
  | ind n ih =>
    rw [while_eq, hc s i, bindO_ok]
    cases hs : cond s with
    | false => simp [h0 s i hs]
    | true =>
      have e2 := h2 s i hs
      simp only [h1 s i hs, if_true]
      cases hst : step s with
      | go s' =>
        rw [hst] at e2
        simp only [St.tell_go, thenO_nx]
        rw [e2.2.2]
        exact ih (μ s') (by omega) s' e2.1 rfl
      | ret d h =>
        rw [hst] at e2
        simp only [] at e2
        simp [e2]
      | ex e =>
        rw [hst] at e2
        simp only [] at e2
        simp [e2]
end C
end MM
namespace MM
open C
open Kh450 (isWhite isDigit isLower isUpper isLabel isLabelPart codesOf)
open Kh452 (isLetter isPunctuation Token Placed whiteToken tokenizeLoop)
/-- a slice whose bounds are not below 0 -/
theorem dns_cutI (l : List Nat) {a b : Int} (i j : Nat) (ha : a = i) (hb : b = j) : cutS (dns l) (some a) (some b) = dns ((l.drop i).take (j - i)) := by
  subst ha; subst hb; exact dns_cut l i j
theorem c_math_token (k : Nat) (l : List Nat) (i : Nat) (h : AH) (hz : l.length ≤ szl) (lt : i < l.length) : callF P (k + 2) .math_token [.lst (dns l), .int i] h = resT i h (mathStep (l.drop (i + 1))) := by
  rw [callF_succ P _ _ _ _ rfl rfl]
  have e := c_place_of k l 36 (i + 1) h hz (by omega)
  generalize hm : ((l.drop (i + 1)).takeWhile fun x => x != 36) = c at *
  have hc : c.length ≤ l.length - (i + 1) := by
    have := tw_len (fun x => x != 36) (l.drop (i + 1))
    rw [hm] at this
    simpa using this
  have hd : (l.drop (i + 1)).take c.length = c := by rw [← hm]; exact tw_take _ _
  simp only [mathStep, hm, placeD] at e ⊢
  simp at e
  by_cases q : i + 1 + c.length < l.length
  · have q1 : ¬ c.length = (l.drop (i + 1)).length := by simp; omega
    rw [if_pos q] at e
    rw [if_neg q1]
    cases c with
    | nil =>
      simp at e
      simp [fd_math_token, e, c_need, resT]
    | cons x y =>
      have r1 : (i : Int) + 1 < (i : Int) + 1 + ((y.length : Int) + 1) := by omega
      have r2 := dns_cutI l (a := (i : Int) + 1) (b := (i : Int) + 1 + ((y.length : Int) + 1)) (i + 1) (i + 1 + (y.length + 1)) (by omega) (by omega)
      have r3 : i + 1 + (y.length + 1) - (i + 1) = (x :: y).length := by simp
      have r4 : (i : Int) + 1 + ((y.length : Int) + 1) + 1 = (i : Int) + ((y.length : Int) + 1 + 2) := by omega
      rw [r3, hd] at r2
      simp at e r2
      simp [fd_math_token, e, c_need, resT, r1, r2, optD, tokD, retK, r4]
  · have q1 : c.length = (l.drop (i + 1)).length := by simp; omega
    rw [if_neg q] at e
    rw [if_pos q1]
    simp [fd_math_token, e, c_need, resT]
theorem scanN {α : Type} (c : Slots → AH → Res D) (b : Slots → AH → Option Out) (l : List α) (p : α → Bool) (δ : Nat → Slots) (h : AH) (δ0 : Slots) (i : Nat) (h0 : δ0 = δ i)
    (hc : ∀ i, c (δ i) h = some (.ok (.bl (match l[i]? with | some x => p x | none => false)) h))
    (hb : ∀ i, b (δ i) h = some (.nx (δ (i + 1)) h)) :
    whileF c b δ0 h = some (.nx (δ (i + ((l.drop i).takeWhile p).length)) h) := by
  subst h0; exact scan c b l p δ h hc hb i
theorem c_comment_end (k : Nat) (l : List Nat) (i : Nat) (h : AH) (hz : l.length ≤ szl) (lt : i < l.length) (h37 : l[i] = 37) : callF P (k + 2) .comment_end_tokens [.lst (dns l), .int i] h = some (.ok (dn (i + commentLen (l.drop (i + 1)))) h) := by
  rw [callF_succ P _ _ _ _ rfl rfl]
  have e := c_place_of k l 10 i h hz (by omega)
  rw [placeD, List.drop_eq_getElem_cons lt, List.takeWhile_cons, h37] at e
  generalize hm : ((l.drop (i + 1)).takeWhile fun x => x != 10) = c at *
  have hc : c.length ≤ l.length - (i + 1) := by
    have := tw_len (fun x => x != 10) (l.drop (i + 1))
    rw [hm] at this
    simpa using this
  simp only [commentLen, hm]
  have r1 : i + 1 + (c.length + 1) = i + (c.length + 1) + 1 := by omega
  rw [List.drop_drop, r1]
  simp -dsimp -implicitDefEqProofs [-Int.natCast_add, -binR_sub] at e
  by_cases q : i + (c.length + 1) < l.length
  · rw [if_pos q] at e
    have w := tw_len (fun x => x == 32 || x == 9) (l.drop (i + (c.length + 1) + 1))
    simp at w
    simp -dsimp -implicitDefEqProofs [-Int.natCast_add, -binR_sub, fd_comment_end_tokens, e]
    rw [scanN _ _ l (fun x => x == 32 || x == 9) (fun j => [some (.lst (dns l)), some (.int j), some (.int ((i + (c.length + 1) : Nat) : Int))]) h _ (i + (c.length + 1) + 1) rfl]
    · simp -dsimp -implicitDefEqProofs [-Int.natCast_add, -binR_sub, retK]
      omega
    · intro j
      by_cases q : j < l.length
      · simp -dsimp -implicitDefEqProofs [-Int.natCast_add, -binR_sub, q]
        rw [Bool.eq_iff_iff]
        simp
        omega
      · simp -dsimp -implicitDefEqProofs [-Int.natCast_add, -binR_sub, q]
    · intro j
      simp -dsimp -implicitDefEqProofs [-Int.natCast_add, -binR_sub]
  · rw [if_neg q] at e
    rw [List.drop_eq_nil_of_le (by omega)]
    simp -dsimp -implicitDefEqProofs [-Int.natCast_add, -binR_sub, fd_comment_end_tokens, e]
    omega
theorem c_literal_token (k : Nat) (l : List Nat) (i : Nat) (h : AH) (hz : l.length ≤ szl) : callF P (k + 2) .literal_token [.lst (dns l), .int i, dn (i + 5)] h = resT i h (verbStep (l.drop (i + 1))) := by
  rw [callF_succ P _ _ _ _ rfl rfl]
  simp only [verbStep, List.drop_drop]
  have z : i + 1 + 4 = i + 5 := by omega
  rw [z]
  by_cases q : i + 5 < l.length
  · rw [List.drop_eq_getElem_cons q]
    generalize hx : l[i + 5] = x
    cases wx : isWhite x with
    | true => simp -dsimp -implicitDefEqProofs [-Int.natCast_add, -binR_sub, fd_literal_token, c_need, q, hx, wx, resT]
    | false =>
      simp -dsimp -implicitDefEqProofs [-Int.natCast_add, -binR_sub, fd_literal_token, c_need, q, hx, wx]
      rw [scanN _ _ l (fun y => y != x && y != 10) (fun j => [some (.lst (dns l)), some (.int i), some (.int ((i + 5 : Nat) : Int)), some (.int x), some (.int j)]) h _ (i + 5 + 1) (by simp)]
      · generalize hm : ((l.drop (i + 5 + 1)).takeWhile fun y => y != x && y != 10) = c
        have hc : c.length ≤ l.length - (i + 5 + 1) := by
          have := tw_len (fun y => y != x && y != 10) (l.drop (i + 5 + 1))
          rw [hm] at this
          simpa using this
        have hd : (l.drop (i + 5 + 1)).take c.length = c := by rw [← hm]; exact tw_take _ _
        have r2 := dns_cut l (i + 5 + 1) (i + 5 + 1 + c.length)
        rw [Nat.add_sub_cancel_left, hd] at r2
        by_cases q2 : i + 5 + 1 + c.length < l.length
        · generalize hy : l[i + 5 + 1 + c.length] = y
          by_cases q3 : y = x
          · subst q3
            simp -dsimp -implicitDefEqProofs [-Int.natCast_add, -binR_sub, q2, hy, c_need, r2, resT, optD, tokD, retK]
            omega
          · have q4 : ¬ x = y := fun e => q3 e.symm
            simp -dsimp -implicitDefEqProofs [-Int.natCast_add, -binR_sub, q2, hy, c_need, resT, q3, q4]
        · simp -dsimp -implicitDefEqProofs [-Int.natCast_add, -binR_sub, q2, c_need, resT]
      · intro j
        by_cases q : j < l.length
        · simp -dsimp -implicitDefEqProofs [-Int.natCast_add, -binR_sub, q]
          rw [Bool.eq_iff_iff]
          simp
          omega
        · simp -dsimp -implicitDefEqProofs [-Int.natCast_add, -binR_sub, q]
      · intro j
        simp -dsimp -implicitDefEqProofs [-Int.natCast_add, -binR_sub]
  · rw [List.drop_eq_nil_of_le (by omega)]
    simp -dsimp -implicitDefEqProofs [-Int.natCast_add, -binR_sub, fd_literal_token, q, c_need, resT]
end MM
namespace MM
open C
open Kh450 (isWhite isDigit isLower isUpper isLabel isLabelPart codesOf)
open Kh452 (isLetter isPunctuation Token Placed whiteToken tokenizeLoop literalStart literalContent)
theorem codes_cds (s : String) : codesOf s = cds s := rfl
theorem cds_app (a b : String) : cds (a ++ b) = cds a ++ cds b := by simp [cds]
/-! ### the first line -/
def sa (c s : List Nat) : Option (List Nat × List Nat) := match s with
  | 125 :: 10 :: rest => if c.isEmpty || isLabel c then some (c, rest) else none
  | _ => none
theorem sa_ne {c s : List Nat} {x : Nat} (h : x ≠ 125) : sa c (x :: s) = none := by
  unfold sa
  split
  · rename_i heq
    injection heq with h1 h2
    exact absurd h1 h
  · rfl
theorem sa_ne2 {c s : List Nat} (h : s[0]? ≠ some 10) : sa c (125 :: s) = none := by
  unfold sa
  split
  · rename_i heq
    injection heq with h1 h2
    subst h2
    exact absurd rfl h
  · rfl
theorem sa_good {c s : List Nat} (h : (c.isEmpty || isLabel c) = true) : sa c (125 :: 10 :: s) = some (c, s) := if_pos h
theorem sa_bad {c s : List Nat} (h : (c.isEmpty || isLabel c) = false) : sa c s = none := by
  unfold sa
  rw [h]
  split <;> rfl
def startArg (s : List Nat) : Option (List Nat × List Nat) := sa (s.takeWhile isLabelPart) (s.drop (s.takeWhile isLabelPart).length)
theorem tw_all : ∀ s : List Nat, (s.takeWhile fun x => x != 125).all isLabelPart = true → s.takeWhile isLabelPart = s.takeWhile fun x => x != 125
  | [], _ => rfl
  | x :: s, h => by
    by_cases q : x = 125
    · subst q; rfl
    · have q' : (x != 125) = true := by simp [q]
      rw [List.takeWhile_cons, if_pos q', List.all_cons, Bool.and_eq_true] at h
      rw [List.takeWhile_cons, List.takeWhile_cons, if_pos q', if_pos h.1, tw_all s h.2]
theorem tw_some : ∀ s : List Nat, (s.takeWhile fun x => x != 125).all isLabelPart = false → ∃ x r, s.drop (s.takeWhile isLabelPart).length = x :: r ∧ x ≠ 125
  | [], h => by simp at h
  | x :: s, h => by
    by_cases q : x = 125
    · subst q; simp at h
    · have q' : (x != 125) = true := by simp [q]
      rw [List.takeWhile_cons, if_pos q', List.all_cons] at h
      by_cases p : isLabelPart x = true
      · rw [p, Bool.true_and] at h
        obtain ⟨y, r, e, ne⟩ := tw_some s h
        exact ⟨y, r, by rw [List.takeWhile_cons, if_pos p]; exact e, ne⟩
      · exact ⟨x, s, by rw [List.takeWhile_cons, if_neg p]; rfl, q⟩
theorem label_all {c : List Nat} (h : isLabel c = true) : c.all isLabelPart = true := by
  unfold isLabel at h
  rw [Bool.and_eq_true] at h
  exact h.2
theorem startArg_eq (s : List Nat) : startArg s = sa (s.takeWhile fun x => x != 125) (s.drop (s.takeWhile fun x => x != 125).length) := by
  cases hc : (s.takeWhile fun x => x != 125).all isLabelPart with
  | true => rw [startArg, tw_all s hc]
  | false =>
    obtain ⟨x, r, e, ne⟩ := tw_some s hc
    have n1 : (s.takeWhile fun x => x != 125).isEmpty = false := by
      cases h : (s.takeWhile fun x => x != 125) with
      | nil => rw [h] at hc; simp at hc
      | cons => rfl
    have n2 : isLabel (s.takeWhile fun x => x != 125) = false := by
      cases h : isLabel (s.takeWhile fun x => x != 125) with
      | false => rfl
      | true => rw [label_all h] at hc; cases hc
    rw [startArg, e, sa_ne ne, sa_bad (by rw [n1, n2]; rfl)]
theorem litStart_eq (name : String) (t : List Nat) : literalStart name t = if (cds ("\\begin{" ++ name ++ "}{")).isPrefixOf t then startArg (t.drop (cds ("\\begin{" ++ name ++ "}{")).length) else none := by
  unfold literalStart startArg sa
  simp only [codes_cds, List.drop_drop]
  rfl
/-! ### the end of a content -/
def contentEnd (l : List Nat) (b : Nat) (close : List Nat) : Option Nat := (List.range' b (l.length - b)).find? fun j => l[j - 1]? == some 10 && (l.drop j).take close.length == close
theorem prefix_take (c t : List Nat) : c.isPrefixOf t = (t.take c.length == c) := by
  rw [Bool.eq_iff_iff, List.isPrefixOf_iff_prefix, List.prefix_iff_eq_take, beq_iff_eq, eq_comm]
theorem contentEnd_eq (l close : List Nat) (hc : close ≠ []) (b : Nat) (s : Bool) (hs : s = (l[b - 1]? == some 10)) (hb : 1 ≤ b) : literalContent close s (l.drop b) = (contentEnd l b close).map fun j => ((l.drop b).take (j - b), l.drop (j + close.length)) := by
  generalize hn : l.length - b = n
  induction n generalizing b s with
  | zero =>
    rw [List.drop_eq_nil_of_le (by omega), contentEnd, hn]
    rfl
  | succ n ih =>
    have lt : b < l.length := by omega
    have e := ih (b + 1) (l[b] == 10) (by simp [lt]) (by omega) (by omega)
    rw [contentEnd, hn, List.range'_succ, List.find?_cons]
    have hd := List.drop_eq_getElem_cons lt
    rw [hd, literalContent, ← hd, ← hs, prefix_take]
    cases hq : (s && ((l.drop b).take close.length == close)) with
    | true => simp [List.drop_drop]
    | false =>
      simp only [Bool.false_eq_true, if_false, e, contentEnd]
      have : l.length - (b + 1) = n := by omega
      rw [this, Option.map_map]
      cases hf : (List.range' (b + 1) n).find? fun j => l[j - 1]? == some 10 && (l.drop j).take close.length == close with
      | none => rfl
      | some j =>
        have hj := List.mem_of_find?_eq_some hf
        rw [List.mem_range'_1] at hj
        simp only [Option.map_some, Function.comp]
        have : j - b = (j - (b + 1)) + 1 := by omega
        rw [this, hd, List.take_succ_cons]
theorem c_content_end (k : Nat) (l close : List Nat) (b : Nat) (h : AH) (hz : l.length ≤ szl) (hb : 1 ≤ b) (hbz : b ≤ szl) : callF P (k + 1) .content_end [.lst (dns l), .int b, .lst (dns close)] h = some (.ok (match contentEnd l b close with | some j => .int j | none => .non) h) := by
  rw [callF_succ P _ _ _ _ rfl rfl]
  simp only [fd_content_end, evalS]
  rw [rng_src hbz hz (by simp) (by simp)]
  simp -dsimp -implicitDefEqProofs [-Int.natCast_add, -binR_sub]
  rw [find_rng (fun x => [some (.lst (dns l)), some (.int b), some (.lst (dns close)), x]) (fun _ _ => rfl) (fun j => l[j - 1]? == some 10 && (l.drop j).take close.length == close) (fun j => .int (j : Int)) h]
  · unfold contentEnd
    cases (List.range' b (l.length - b)).find? fun j => l[j - 1]? == some 10 && (l.drop j).take close.length == close with
    | some j => simp -dsimp -implicitDefEqProofs [-Int.natCast_add, -binR_sub, retK]
    | none => simp -dsimp -implicitDefEqProofs [-Int.natCast_add, -binR_sub, retK]
  · intro j h1 h2
    have lt : j - 1 < l.length := by omega
    have r := dns_cut l j (j + close.length)
    rw [Nat.add_sub_cancel_left] at r
    simp -dsimp -implicitDefEqProofs [-Int.natCast_add, -binR_sub, subK (a := j) (b := 1) (z := 1) h rfl (by omega), lt, r]
    by_cases q : l[j - 1] = 10 <;> simp -dsimp -implicitDefEqProofs [-Int.natCast_add, -binR_sub, q]
end MM
namespace MM
open C
open Kh450 (isWhite isDigit isLower isUpper isLabel isLabelPart codesOf)
open Kh452 (isLetter isPunctuation Token Placed whiteToken tokenizeLoop literalStart literalContent)
def litStep (name : String) (mk : List Nat → List Nat → Token) (t : List Nat) : Option (Except Nat (Option Token × Nat)) := match literalStart name t with
  | none => none
  | some (lab, body) => some (match literalContent (codesOf ("\\end{" ++ name ++ "}")) true body with
    | some (content, after) => .ok (some (mk lab (Kh452.withoutLast content)), t.length - after.length)
    | none => .error 1)
def litD (i : Nat) (h : AH) : Option (Except Nat (Option Token × Nat)) → Res D
  | none => some (.ok .non h)
  | some r => resT i h r
theorem slash_eq (t rest : List Nat) : slashStep t rest = match litStep "code" .code t with
    | some r => r
    | none => match litStep "formula" .formula t with
      | some r => r
      | none => plainStep rest := by
  have e1 : ("\\end{" ++ "code" ++ "}") = "\\end{code}" := by simp
  have e2 : ("\\end{" ++ "formula" ++ "}") = "\\end{formula}" := by simp
  unfold slashStep litStep
  rw [e1, e2]
  cases literalStart "code" t with
  | some p => obtain ⟨a, b⟩ := p; cases literalContent (codesOf "\\end{code}") true b <;> rfl
  | none =>
    cases literalStart "formula" t with
    | some p => obtain ⟨a, b⟩ := p; cases literalContent (codesOf "\\end{formula}") true b <;> rfl
    | none => rfl
theorem drop_one {l : List Nat} {i : Nat} {x : Nat} : (l.drop i).take 1 = [x] ↔ l[i]? = some x := by
  by_cases q : i < l.length
  · rw [List.drop_eq_getElem_cons q, List.getElem?_eq_getElem q]
    simp only [List.take_succ_cons, List.take_zero, List.cons.injEq, and_true, Option.some.injEq]
  · rw [List.drop_eq_nil_of_le (by omega), List.getElem?_eq_none (by omega)]
    simp
theorem eqR_dns1 (l : List Nat) (x : Nat) : eqR (.lst (dns l)) (.lst [.int x]) = some (l == [x]) := eqR_dns l [x]
theorem eqR_dnsL (l : List Nat) (x : Nat) : eqR (.lst (dns l)) (.lst [.int (no_index (OfNat.ofNat x))]) = some (l == [OfNat.ofNat x]) := eqR_dns l [OfNat.ofNat x]
theorem frzB {b : Nat} {h : AH} {d : D} (e : belowD b d = true) : frz b h d = some d := by simp [frz, e]
theorem end_len (name : String) : 0 < (cds ("\\end{" ++ name ++ "}")).length := by
  rw [cds_app, cds_app, List.length_append, List.length_append]
  have : (cds "\\end{").length = 5 := by decide
  omega
theorem tw_next {α : Type} (p : α → Bool) : ∀ (l : List α) (q : (l.takeWhile p).length < l.length), p (l[(l.takeWhile p).length]) = false
  | [], q => by simp at q
  | a :: l, q => by
    cases h : p a with
    | false => simp [List.takeWhile_cons, h]
    | true =>
      have : (l.takeWhile p).length < l.length := by simpa [List.takeWhile_cons, h] using q
      have e := tw_next p l this
      simp [List.takeWhile_cons, h, e]
theorem c_content_token (k : Nat) (l : List Nat) (i : Nat) (h : AH) (hz : l.length + 2 ≤ szl) (hi : i < l.length) (name : String) (hn : (cds name).length ≤ 10) (kind : Nat) (mk : List Nat → List Nat → Token)
    (hmk : ∀ a b, tokD i (mk a b) = .tup [.int kind, .int i, .tup [.tup (dns a), .tup (dns b)]]) :
    callF P (k + 3) .content_token [.lst (dns l), .int i, .str (cds name), .int kind] h = litD i h (litStep name mk (l.drop i)) := by
  rw [callF_succ P _ _ _ _ rfl rfl]
  have z1 : (cds "\\begin{").length = 7 := by decide
  have z2 : (cds "}{").length = 2 := by decide
  have z3 : (cds "\\end{").length = 5 := by decide
  have z4 : (cds "}").length = 1 := by decide
  have hs : szl = 16777216 := rfl
  have s1 : binR .add (.str (cds "\\begin{")) (.str (cds name)) h = some (.ok (.str (cds "\\begin{" ++ cds name)) h) := binR_str h (by omega)
  have s2 : binR .add (.str (cds "\\begin{" ++ cds name)) (.str (cds "}{")) h = some (.ok (.str (cds ("\\begin{" ++ name ++ "}{"))) h) := by
    rw [cds_app, cds_app]; exact binR_str h (by rw [List.length_append]; omega)
  have s3 : binR .add (.str (cds "\\end{")) (.str (cds name)) h = some (.ok (.str (cds "\\end{" ++ cds name)) h) := binR_str h (by omega)
  have s4 : binR .add (.str (cds "\\end{" ++ cds name)) (.str (cds "}")) h = some (.ok (.str (cds ("\\end{" ++ name ++ "}"))) h) := by
    rw [cds_app, cds_app]; exact binR_str h (by rw [List.length_append]; omega)
  have l1 : (cds ("\\begin{" ++ name ++ "}{")).length ≤ szl := by rw [cds_app, cds_app, List.length_append, List.length_append]; omega
  have l2 : (cds ("\\end{" ++ name ++ "}")).length ≤ szl := by rw [cds_app, cds_app, List.length_append, List.length_append]; omega
  have l3 := end_len name
  have p1 := c_points_of (k + 1) _ h l1
  have p2 := c_points_of (k + 1) _ h l2
  unfold litStep
  rw [litStart_eq, codes_cds, prefix_take]
  generalize cds ("\\begin{" ++ name ++ "}{") = hd at *
  generalize cds ("\\end{" ++ name ++ "}") = ed at *
  have r1 := dns_cut l i (i + hd.length)
  rw [Nat.add_sub_cancel_left] at r1
  simp -dsimp -implicitDefEqProofs [-Int.natCast_add, -binR_sub, fd_content_token, s1, s2, p1, r1]
  by_cases q1 : (l.drop i).take hd.length = hd
  · have hm : i + hd.length ≤ l.length := by
      have := congrArg List.length q1
      simp at this
      omega
    have e1 := c_place_of (k + 1) l 125 (i + hd.length) h (by omega) (by omega)
    rw [startArg_eq]
    simp only [q1, List.drop_drop]
    unfold placeD at e1
    generalize hc : (l.drop (i + hd.length)).takeWhile (fun x => x != 125) = c at *
    by_cases q2 : i + hd.length + c.length < l.length
    · rw [if_pos q2] at e1
      have hx : l[i + hd.length + c.length] = 125 := by
        have t := tw_next (fun x => x != 125) (l.drop (i + hd.length)) (by rw [hc, List.length_drop]; omega)
        simp [hc] at t
        exact t
      rw [List.drop_eq_getElem_cons q2, hx]
      simp -dsimp -implicitDefEqProofs [-Int.natCast_add, -binR_sub] at e1
      have d1 : i + hd.length + c.length + 2 - (i + hd.length + c.length + 1) = 1 := by omega
      have r2 := dns_cut l (i + hd.length + c.length + 1) (i + hd.length + c.length + 2)
      rw [d1] at r2
      have r3 := dns_cut l (i + hd.length) (i + hd.length + c.length)
      rw [Nat.add_sub_cancel_left, show (l.drop (i + hd.length)).take c.length = c by rw [← hc]; exact tw_take _ _] at r3
      by_cases q3 : l[i + hd.length + c.length + 1]? = some 10
      · have q3' := drop_one.mpr q3
        obtain ⟨q4, q5⟩ := List.getElem?_eq_some_iff.mp q3
        rw [List.drop_eq_getElem_cons q4, q5]
        have e2 := c_is_label k c (.lst (dns c)) h rfl rfl (by omega)
        cases q6 : (c.isEmpty || isLabel c) with
        | false =>
          rw [sa_bad q6]
          rw [Bool.or_eq_false_iff] at q6
          have q7 : c ≠ [] := by intro e; subst e; simp at q6
          rw [q6.2] at e2
          simp -dsimp -implicitDefEqProofs [-Int.natCast_add, -binR_sub, e1, r2, q3', eqR_dnsL, r3, q7, e2, litD, retK]
          done
        | true =>
          rw [sa_good q6]
          have w1 : (if !c.isEmpty then isLabel c else true) = true := by
            cases hh : c.isEmpty <;> simp_all
          have e3 := c_content_end (k + 1) l ed (i + hd.length + c.length + 2) h (by omega) (by omega) (by omega)
          have ce := contentEnd_eq l ed (by intro e; subst e; simp at l3) (i + hd.length + c.length + 1 + 1) true (by simp [q5, q4]) (by omega)
          cases hce : contentEnd l (i + hd.length + c.length + 2) ed with
          | none =>
            rw [hce] at e3 ce
            simp only [Option.map_none] at ce
            simp -dsimp -implicitDefEqProofs [-Int.natCast_add, -binR_sub, e1, r2, q3', eqR_dnsL, r3, e2, litD, resT, s3, s4, p2, e3, ce, q6, w1, c_need]
            intro hh
            simpa [hh] using q6
          | some j =>
            rw [hce] at e3 ce
            simp only [Option.map_some] at ce
            have w2 : i + hd.length + c.length + 2 ≤ j := by
              have := List.mem_of_find?_eq_some hce
              rw [List.mem_range'_1] at this
              omega
            have w3 : j + ed.length ≤ l.length := by
              have := List.find?_some hce
              rw [Bool.and_eq_true] at this
              have := congrArg List.length (beq_iff_eq.mp this.2)
              simp at this
              omega
            have r5 := dns_cut l (i + hd.length + c.length + 2) (max (i + hd.length + c.length + 2) (j - 1))
            have w4 : (l.drop (i + hd.length + c.length + 2)).take (max (i + hd.length + c.length + 2) (j - 1) - (i + hd.length + c.length + 2)) = Kh452.withoutLast ((l.drop (i + hd.length + c.length + 1 + 1)).take (j - (i + hd.length + c.length + 1 + 1))) := by
              unfold Kh452.withoutLast
              rw [List.dropLast_eq_take, List.take_take, List.length_take, List.length_drop]
              congr 1
              omega
            rw [w4] at r5
            have w5 : (if (!c.isEmpty) = true then (some (R.ok (D.bl (isLabel c)) h) : Res D) else some (.ok (.bl false) h)) = some (.ok (.bl (!c.isEmpty)) h) := by
              cases hh : c.isEmpty <;> simp_all
            simp -dsimp -implicitDefEqProofs [-Int.natCast_add, -binR_sub, e1, r2, q3', eqR_dnsL, r3, e2, litD, resT, s3, s4, p2, e3, ce, q6, w1, c_need, subK (a := j) (b := 1) (z := 1) h rfl (by omega), r5, retK, optD, hmk]
            have w6 : i + (l.length - i - (l.length - (j + ed.length))) = j + ed.length := by omega
            rw [w6]
            by_cases hh : c = []
            · rw [if_pos hh]
            · have : isLabel c = true := by simpa [hh] using q6
              rw [if_neg hh, this]
              rfl
      · have q3' : ¬ (l.drop (i + hd.length + c.length + 1)).take 1 = [10] := fun e => q3 (drop_one.mp e)
        rw [sa_ne2 (by rw [List.getElem?_drop]; exact q3)]
        simp -dsimp -implicitDefEqProofs [-Int.natCast_add, -binR_sub, e1, r2, q3', eqR_dnsL, litD]
    · rw [if_neg q2] at e1
      rw [List.drop_eq_nil_of_le (by omega)]
      simp -dsimp -implicitDefEqProofs [-Int.natCast_add, -binR_sub] at e1
      simp -dsimp -implicitDefEqProofs [-Int.natCast_add, -binR_sub, e1, litD, sa]
  · simp -dsimp -implicitDefEqProofs [-Int.natCast_add, -binR_sub, q1, litD]
end MM
namespace MM
open C
open Kh450 (isWhite isDigit isLower isUpper isLabel isLabelPart codesOf)
open Kh452 (isLetter isPunctuation Token Placed whiteToken tokenizeLoop literalStart literalContent)
theorem letter_label {x : Nat} (h : isLetter x = true) : isLabelPart x = true := by
  unfold isLetter at h
  unfold isLabelPart
  rw [h]
  rfl
theorem tw_allp {α : Type} (p : α → Bool) (l : List α) : ∀ x ∈ l.takeWhile p, p x = true := by
  induction l with
  | nil => simp
  | cons a l ih =>
    cases h : p a with
    | false => simp [List.takeWhile_cons, h]
    | true => simp [List.takeWhile_cons, h]; exact ih
theorem ne_slash {n : List Nat} (h : ∀ x ∈ n, isLetter x = true) : n ≠ [92] := by
  intro e
  subst e
  have := h 92 (List.mem_cons_self ..)
  revert this
  decide
theorem white_cases (w : List Nat) : whiteToken w = .paragraph ∨ whiteToken w = .space := by
  unfold whiteToken
  split
  · exact .inl rfl
  · exact .inr rfl
theorem c_command_token (k : Nat) (l : List Nat) (i : Nat) (h : AH) (hz : l.length ≤ szl) : callF P (k + 4) .command_token [.lst (dns l), .int i] h = resT i h (wordStep (l.drop (i + 1))) := by
  rw [callF_succ P _ _ _ _ rfl rfl]
  unfold wordStep
  generalize hn : (l.drop (i + 1)).takeWhile isLetter = n
  have a1 : ∀ x ∈ n, isLetter x = true := by rw [← hn]; exact tw_allp _ _
  have a2 : n.all isLabelPart = true := List.all_eq_true.mpr fun x m => letter_label (a1 x m)
  have a3 : n.length ≤ szl := by
    have := tw_len isLetter (l.drop (i + 1))
    rw [hn] at this
    simp at this
    omega
  have e1 := c_letters_end (k + 1) l (i + 1) h
  rw [hn] at e1
  have r1 := dns_cut l (i + 1) (i + 1 + n.length)
  rw [Nat.add_sub_cancel_left, show (l.drop (i + 1)).take n.length = n by rw [← hn]; exact tw_take _ _] at r1
  have e2 := c_word_of k n (.lst (dns n)) h rfl rfl a3 a2
  simp only [List.drop_drop]
  simp -dsimp -implicitDefEqProofs [-Int.natCast_add, -binR_sub, fd_command_token, e1, r1, e2]
  by_cases q : n = codesOf "verb"
  · have e3 := c_literal_token (k + 1) l i h hz
    have e4 : i + 1 + n.length = i + 5 := by subst q; rfl
    rw [e4, if_pos (show n = cds "verb" from q), if_pos q]
    simp -dsimp -implicitDefEqProofs [-Int.natCast_add, -binR_sub] at e3
    simp -dsimp -implicitDefEqProofs [-Int.natCast_add, -binR_sub, e3]
    cases verbStep (l.drop (i + 1)) with
    | error e => simp -dsimp -implicitDefEqProofs [-Int.natCast_add, -binR_sub, resT]
    | ok r => simp -dsimp -implicitDefEqProofs [-Int.natCast_add, -binR_sub, resT, retK]
  · rw [if_neg (show ¬ n = cds "verb" from q), if_neg q]
    have e3 := c_white_end (k + 1) l (i + 1 + n.length) h
    have e4 := c_is_paragraph (k + 2) l (i + 1 + n.length) (i + 1 + n.length + ((l.drop (i + 1 + n.length)).takeWhile isWhite).length) h
    rw [Nat.add_sub_cancel_left, tw_take] at e4
    generalize (l.drop (i + 1 + n.length)).takeWhile isWhite = w at *
    simp -dsimp -implicitDefEqProofs [-Int.natCast_add, -binR_sub, e3, e4]
    rcases white_cases w with hw | hw
    · simp -dsimp -implicitDefEqProofs [-Int.natCast_add, -binR_sub, hw, resT, optD, tokD, ne_slash a1, retK]
      omega
    · simp -dsimp -implicitDefEqProofs [-Int.natCast_add, -binR_sub, hw, resT, optD, tokD, ne_slash a1, retK]
      omega
theorem cds_slash : cds "\\\\" = [92, 92] := by decide
theorem c_backslash_token (k : Nat) (l : List Nat) (i : Nat) (h : AH) (hz : l.length + 2 ≤ szl) (hi : i < l.length) : callF P (k + 5) .backslash_token [.lst (dns l), .int i] h = resT i h (slashStep (l.drop i) (l.drop (i + 1))) := by
  rw [callF_succ P _ _ _ _ rfl rfl, slash_eq]
  have e1 := c_content_token (k + 1) l i h hz hi "code" (by decide) 12 .code (fun _ _ => rfl)
  have e2 := c_content_token (k + 1) l i h hz hi "formula" (by decide) 13 .formula (fun _ _ => rfl)
  simp -dsimp -implicitDefEqProofs [-Int.natCast_add, -binR_sub] at e1 e2
  simp -dsimp -implicitDefEqProofs [-Int.natCast_add, -binR_sub, fd_backslash_token, for_cons, for_nil, e1, e2]
  cases litStep "code" .code (l.drop i) with
  | some r =>
    cases r with
    | error e => simp -dsimp -implicitDefEqProofs [-Int.natCast_add, -binR_sub, litD, resT]
    | ok r =>
      obtain ⟨o, n⟩ := r
      simp -dsimp -implicitDefEqProofs [-Int.natCast_add, -binR_sub, litD, resT, retK]
  | none =>
    simp -dsimp -implicitDefEqProofs [-Int.natCast_add, -binR_sub, litD, for_cons, for_nil, e2]
    cases litStep "formula" .formula (l.drop i) with
    | some r =>
      cases r with
      | error e => simp -dsimp -implicitDefEqProofs [-Int.natCast_add, -binR_sub, litD, resT]
      | ok r =>
        obtain ⟨o, n⟩ := r
        simp -dsimp -implicitDefEqProofs [-Int.natCast_add, -binR_sub, litD, resT, retK]
    | none =>
      simp -dsimp -implicitDefEqProofs [-Int.natCast_add, -binR_sub, litD, for_nil]
      by_cases q : i + 1 < l.length
      · rw [List.drop_eq_getElem_cons q]
        generalize hx : l[i + 1] = x
        have e3 := c_command_token k l i h (by omega)
        rw [List.drop_eq_getElem_cons q, hx] at e3
        simp -dsimp -implicitDefEqProofs [-Int.natCast_add, -binR_sub, q, c_need, hx]
        unfold plainStep
        by_cases q1 : x = 92
        · subst q1
          simp -dsimp -implicitDefEqProofs [-Int.natCast_add, -binR_sub, resT, optD, tokD, retK, cds_slash]
        · by_cases q2 : x = 32
          · subst q2
            simp -dsimp -implicitDefEqProofs [-Int.natCast_add, -binR_sub, q1, resT, optD, tokD, retK]
          · cases q3 : isPunctuation x with
            | true => simp -dsimp -implicitDefEqProofs [-Int.natCast_add, -binR_sub, q1, q2, q3, resT, optD, tokD, retK]
            | false =>
              cases q4 : isLetter x with
              | false => simp -dsimp -implicitDefEqProofs [-Int.natCast_add, -binR_sub, q1, q2, q3, q4, c_need, resT]
              | true =>
                simp -dsimp -implicitDefEqProofs [-Int.natCast_add, -binR_sub, q1, q2, q3, q4, c_need, e3]
                cases wordStep (x :: l.drop (i + 1 + 1)) with
                | error e => simp -dsimp -implicitDefEqProofs [-Int.natCast_add, -binR_sub, resT]
                | ok r =>
                  obtain ⟨o, n⟩ := r
                  simp -dsimp -implicitDefEqProofs [-Int.natCast_add, -binR_sub, resT, retK]
      · rw [List.drop_eq_nil_of_le (by omega)]
        simp -dsimp -implicitDefEqProofs [-Int.natCast_add, -binR_sub, q, c_need, plainStep, resT]
theorem c_token_at (k : Nat) (l : List Nat) (i : Nat) (h : AH) (hz : l.length + 2 ≤ szl) (hi : i < l.length) : callF P (k + 6) .token_at [.lst (dns l), .int i] h = resT i h (stepTok l[i] (l.drop (i + 1))) := by
  rw [callF_succ P _ _ _ _ rfl rfl]
  have e1 := c_white_token (k + 2) l i h
  have e2 : l[i] = 37 → _ := c_comment_end (k + 3) l i h (by omega) hi
  have e3 := c_parameter_token (k + 3) l i h
  have e4 := c_math_token (k + 3) l i h (by omega) hi
  have e5 := c_backslash_token k l i h hz hi
  rw [List.drop_eq_getElem_cons hi] at e1 e5
  generalize hx : l[i] = x at *
  unfold stepTok
  simp -dsimp -implicitDefEqProofs [-Int.natCast_add, -binR_sub, fd_token_at, hi, hx]
  by_cases q1 : isWhite x = true
  · simp -dsimp -implicitDefEqProofs [-Int.natCast_add, -binR_sub, q1, e1, resT, retK]
  · by_cases q2 : x = 37
    · subst q2
      have e2 := e2 rfl
      simp -dsimp -implicitDefEqProofs [-Int.natCast_add, -binR_sub] at e2
      simp -dsimp -implicitDefEqProofs [-Int.natCast_add, -binR_sub, q1, e2, resT, optD, retK]
    · simp -dsimp -implicitDefEqProofs [-Int.natCast_add, -binR_sub, q1, q2]
      by_cases q3 : x = 123
      · subst q3
        simp -dsimp -implicitDefEqProofs [-Int.natCast_add, -binR_sub, resT, optD, tokD, retK]
      · by_cases q4 : x = 125
        · subst q4
          simp -dsimp -implicitDefEqProofs [-Int.natCast_add, -binR_sub, resT, optD, tokD, retK]
        · by_cases q5 : x = 38
          · subst q5
            simp -dsimp -implicitDefEqProofs [-Int.natCast_add, -binR_sub, resT, optD, tokD, retK]
          · have q3' : ¬ 123 = x := fun e => q3 e.symm
            have q4' : ¬ 125 = x := fun e => q4 e.symm
            have q5' : ¬ 38 = x := fun e => q5 e.symm
            by_cases q6 : x = 126
            · subst q6
              simp -dsimp -implicitDefEqProofs [-Int.natCast_add, -binR_sub, resT, optD, tokD, retK]
            · by_cases q7 : x = 35
              · subst q7
                simp -dsimp -implicitDefEqProofs [-Int.natCast_add, -binR_sub, e3]
                cases paramStep (l.drop (i + 1)) <;> simp -dsimp -implicitDefEqProofs [-Int.natCast_add, -binR_sub, resT, retK]
              · by_cases q8 : x = 36
                · subst q8
                  simp -dsimp -implicitDefEqProofs [-Int.natCast_add, -binR_sub, e4]
                  cases mathStep (l.drop (i + 1)) <;> simp -dsimp -implicitDefEqProofs [-Int.natCast_add, -binR_sub, resT, retK]
                · by_cases q9 : x = 92
                  · subst q9
                    simp -dsimp -implicitDefEqProofs [-Int.natCast_add, -binR_sub, e5]
                    cases slashStep (92 :: l.drop (i + 1)) (l.drop (i + 1)) <;> simp -dsimp -implicitDefEqProofs [-Int.natCast_add, -binR_sub, resT, retK]
                  · simp -dsimp -implicitDefEqProofs [-Int.natCast_add, -binR_sub, q3, q4, q5, q3', q4', q5', q6, q7, q8, q9, resT, optD, tokD, retK]
theorem litContent_len (close : List Nat) : ∀ (t : List Nat) (b : Bool) (c a : List Nat), literalContent close b t = some (c, a) → a.length ≤ t.length
  | [], b, c, a, h => by cases h
  | x :: t, b, c, a, h => by
    rw [literalContent] at h
    split at h
    · injection h with h
      injection h with h1 h2
      subst h2
      simp
    · obtain ⟨⟨c', a'⟩, h1, h2⟩ := Option.map_eq_some_iff.mp h
      injection h2 with h3 h4
      subst h4
      have := litContent_len close t _ _ _ h1
      simp
      omega
theorem litStart_len {name : String} {t a b : List Nat} (h : literalStart name t = some (a, b)) : b.length < t.length := by
  rw [litStart_eq] at h
  split at h
  · have key : ∀ c s, sa c s = some (a, b) → b.length < s.length := by
      intro c s h
      unfold sa at h
      split at h
      · split at h
        · injection h with h
          injection h with h1 h2
          subst h2
          simp
          omega
        · cases h
      · cases h
    have := key _ _ h
    simp at this
    omega
  · cases h
theorem lit_pos {name : String} {mk : List Nat → List Nat → Token} {t : List Nat} {o : Option Token} {n : Nat} (h : litStep name mk t = some (.ok (o, n))) : 1 ≤ n := by
  unfold litStep at h
  cases e : literalStart name t with
  | none => rw [e] at h; cases h
  | some p =>
    obtain ⟨a, b⟩ := p
    have l1 := litStart_len e
    rw [e] at h
    simp only [] at h
    cases e2 : literalContent (codesOf ("\\end{" ++ name ++ "}")) true b with
    | none => rw [e2] at h; cases h
    | some p =>
      obtain ⟨c, d⟩ := p
      have l2 := litContent_len _ _ _ _ _ e2
      rw [e2] at h
      injection h with h
      injection h with h
      injection h with h1 h2
      omega
theorem stepTok_pos {c : Nat} {rest : List Nat} {o : Option Token} {n : Nat} (h : stepTok c rest = .ok (o, n)) : 1 ≤ n := by
  unfold stepTok at h
  have wr : ∀ {a : Option Token} {b : Nat} (P : 1 ≤ b), (Except.ok (a, b) : Except Nat (Option Token × Nat)) = .ok (o, n) → 1 ≤ n := by
    intro a b P e
    injection e with e
    injection e with e1 e2
    omega
  split at h
  · rename_i q
    refine wr ?_ h
    rw [List.takeWhile_cons, if_pos q]
    simp
  split at h
  · exact wr (by unfold commentLen; simp only []; omega) h
  split at h
  · exact wr (Nat.le_refl _) h
  split at h
  · exact wr (Nat.le_refl _) h
  split at h
  · exact wr (Nat.le_refl _) h
  split at h
  · exact wr (Nat.le_refl _) h
  split at h
  · unfold paramStep at h
    split at h
    · split at h
      · exact wr (by omega) h
      · cases h
    · cases h
  split at h
  · unfold mathStep at h
    simp only [] at h
    split at h
    · cases h
    split at h
    · cases h
    · exact wr (by omega) h
  split at h
  · rw [slash_eq] at h
    cases e : litStep "code" Token.code (c :: rest) with
    | some r =>
      rw [e] at h
      simp only [] at h
      subst h
      exact lit_pos e
    | none =>
      rw [e] at h
      cases e : litStep "formula" Token.formula (c :: rest) with
      | some r =>
        rw [e] at h
        simp only [] at h
        subst h
        exact lit_pos e
      | none =>
        rw [e] at h
        simp only [] at h
        unfold plainStep at h
        split at h
        · cases h
        split at h
        · exact wr (by omega) h
        split at h
        · exact wr (by omega) h
        split at h
        · exact wr (by omega) h
        split at h
        · unfold wordStep at h
          simp only [] at h
          split at h
          · unfold verbStep at h
            split at h
            · cases h
            simp only [] at h
            split at h
            · cases h
            split at h
            · exact wr (by omega) h
            · cases h
          · exact wr (by omega) h
        · cases h
  · exact wr (Nat.le_refl _) h
end MM
namespace MM
open C
open Kh450 (isWhite isDigit isLower isUpper isLabel isLabelPart codesOf)
open Kh452 (isLetter isPunctuation Token Placed whiteToken tokenizeLoop literalStart literalContent)
def tokBody : IS := .seq (.setT [3, 2] (.call .token_at (.cons (.var 0) (.cons (.var 2) .nil)))) (.ife (.notN (.var 3)) (.expr (.app (.var 1) (.var 3))) .skip)
theorem isNon_tok (p : Nat) (t : Token) : isNon (tokD p t) = false := by cases t <;> rfl
theorem set_last (h : AH) (a b : HObj) : (h ++ [a]).set h.length b = h ++ [b] := by simp
theorem tok_while (k : Nat) (l : List Nat) (h : AH) (hz : l.length + 2 ≤ szl) : ∀ (fuel i : Nat) (acc : List Placed) (x : Option D), l.length - i < fuel → acc.length + (l.length - i) ≤ szl →
    match tokenizeLoop fuel i (l.drop i) with
    | .error (c, p) => whileF (evalE (callF P (k + 6)) (.cmp .lt (.var 2) (.bi .len (.cons (.var 0) .nil)))) (evalS (callF P (k + 6)) tokBody) [some (.lst (dns l)), some (.loc h.length), some (.int i), x] (h ++ [.lst (acc.map placedD)]) = some (.ex (.wrong c p))
    | .ok ts => acc.length + ts.length ≤ szl ∧ ts.length ≤ l.length - i ∧ ∃ x' y, whileF (evalE (callF P (k + 6)) (.cmp .lt (.var 2) (.bi .len (.cons (.var 0) .nil)))) (evalS (callF P (k + 6)) tokBody) [some (.lst (dns l)), some (.loc h.length), some (.int i), x] (h ++ [.lst (acc.map placedD)]) = some (.nx [some (.lst (dns l)), some (.loc h.length), y, x'] (h ++ [.lst ((acc ++ ts).map placedD)]))
  | 0, i, acc, x, hf, _ => absurd hf (by omega)
  | fuel + 1, i, acc, x, hf, ha => by
    by_cases q : i < l.length
    · rw [List.drop_eq_getElem_cons q, tok_loop, ← List.drop_eq_getElem_cons q]
      have e := c_token_at k l i (h ++ [.lst (acc.map placedD)]) hz q
      rw [while_eq]
      cases hs : stepTok l[i] (l.drop (i + 1)) with
      | error c =>
        rw [hs] at e
        simp -dsimp -implicitDefEqProofs [-Int.natCast_add, -binR_sub, goTok, q, tokBody, e, resT]
      | ok r =>
        obtain ⟨o, n⟩ := r
        have hn := stepTok_pos hs
        rw [hs] at e
        have ih := tok_while k l h hz fuel (i + n)
        cases o with
        | none =>
          have ih := ih acc (some .non) (by omega) (by omega)
          simp only [goTok, List.drop_drop]
          simp -dsimp -implicitDefEqProofs [-Int.natCast_add, -binR_sub, q, tokBody, e, resT, optD]
          cases ht : tokenizeLoop fuel (i + n) (l.drop (i + n)) with
          | error r =>
            obtain ⟨c, p⟩ := r
            rw [ht] at ih
            exact ih
          | ok ts =>
            rw [ht] at ih
            obtain ⟨b1, b2, x', y', e'⟩ := ih
            exact ⟨b1, by omega, x', y', by simpa using e'⟩
        | some t =>
          have ih := ih (acc ++ [⟨i, t⟩]) (some (tokD i t)) (by omega) (by simp; omega)
          have lt : acc.length < szl := by omega
          simp only [goTok, List.drop_drop]
          simp -dsimp -implicitDefEqProofs [-Int.natCast_add, -binR_sub, q, tokBody, e, resT, optD, isNon_tok, lt]
          rw [List.map_append] at ih
          cases ht : tokenizeLoop fuel (i + n) (l.drop (i + n)) with
          | error r =>
            obtain ⟨c, p⟩ := r
            rw [ht] at ih
            exact ih
          | ok ts =>
            rw [ht] at ih
            obtain ⟨b1, b2, x', y', e'⟩ := ih
            rw [List.append_assoc] at e'
            refine ⟨?_, ?_, x', y', by simpa [placedD] using e'⟩
            · simp at b1 ⊢
              omega
            · simp
              omega
    · rw [List.drop_eq_nil_of_le (by omega), tokenizeLoop]
      rw [while_eq]
      simp -dsimp -implicitDefEqProofs [-Int.natCast_add, -binR_sub, q]
      omega
@[simp] theorem below_tok (n p : Nat) (t : Token) : belowD n (tokD p t) = true := by
  cases t <;> simp [tokD, belowD, belowDs]
theorem below_toks (n : Nat) (l : List Placed) : belowDs n (l.map placedD) = true := by
  induction l with
  | nil => rfl
  | cons a l ih => simp [belowDs, ih, placedD]
@[simp] theorem frz_toks (b : Nat) (h : AH) (l : List Placed) : frzAll b h (l.map placedD) = some (l.map placedD) := frzAll_below (below_toks b l)
theorem c_tokens_of (k : Nat) (l : List Nat) (h : AH) (hz : l.length + 2 ≤ szl) : callF P (k + 7) .tokens_of [.lst (dns l)] h = match Kh452.tokenize l with
    | .error (c, p) => some (.ex (.wrong c p))
    | .ok ts => some (.ok (.lst (ts.map placedD)) h) := by
  rw [callF_succ P _ _ _ _ rfl rfl]
  have e := tok_while k l h hz (l.length + 1) 0 [] none (by omega) (by simp; omega)
  unfold tokBody at e
  rw [List.drop_zero] at e
  unfold Kh452.tokenize
  cases ht : tokenizeLoop (l.length + 1) 0 l with
  | error r =>
    obtain ⟨c, p⟩ := r
    rw [ht] at e
    simp only [List.map_nil] at e
    simp -dsimp -implicitDefEqProofs [-Int.natCast_add, -binR_sub, fd_tokens_of]
    simp -dsimp -implicitDefEqProofs [-Int.natCast_add, -binR_sub] at e
    rw [e]
    rfl
  | ok ts =>
    rw [ht] at e
    obtain ⟨_, _, x, y, e⟩ := e
    simp only [List.map_nil, List.nil_append] at e
    simp -dsimp -implicitDefEqProofs [-Int.natCast_add, -binR_sub, fd_tokens_of]
    simp -dsimp -implicitDefEqProofs [-Int.natCast_add, -binR_sub] at e
    rw [e]
    simp -dsimp -implicitDefEqProofs [-Int.natCast_add, -binR_sub, retK, frz, belowD]
theorem tok_len {l : List Nat} {ts : List Placed} (hz : l.length + 2 ≤ szl) (h : Kh452.tokenize l = .ok ts) : ts.length ≤ l.length := by
  unfold Kh452.tokenize at h
  have e := tok_while 0 l [] hz (l.length + 1) 0 [] none (by omega) (by simp; omega)
  rw [List.drop_zero, h] at e
  exact e.2.1
end MM
namespace MM
open C
open Kh450 (isContinuation decodeUtf8 isScalar)
theorem lc_cons (t : Tg) (ec ee : Slots → AH → Res D) (δ : Slots) (d : D) (ds acc : List D) (h : AH) : lcGo t ec ee δ none (d :: ds) acc h = match bindT t d δ with
    | none => none
    | some δ' => bindR (ec δ' h) fun c h1 => match c with
      | .bl k => if k = true then bindR (ee δ' h1) fun v h2 => if acc.length < szl then lcGo t ec ee δ none ds (acc ++ [v]) h2 else none else lcGo t ec ee δ none ds acc h1
      | _ => none := by
  rw [lcGo, if_pos (lockOk_none h)]
  try (cases bindT t d δ <;> rfl)
theorem cont_eq (b : Nat) : isContinuation b = (decide (128 ≤ b) && decide (b ≤ 191)) := by
  unfold isContinuation
  rw [Bool.eq_iff_iff]
  simp
  omega
def ptD (n at' : Nat) : Option (Nat × List Nat) → D
  | none => .non
  | some (c, rest) => .tup [.int c, .int ((n - at' - 1 - rest.length : Nat) : Int)]
theorem pt_if3 {α : Type} (code : Nat) (x y : α) : (if code < 2048 then x else if 55296 ≤ code ∧ code ≤ 57343 then x else y) = if 2048 ≤ code ∧ (code < 55296 ∨ 57344 ≤ code) then y else x := by
  repeat' split
  all_goals first | rfl | omega
theorem pt_if4 {α : Type} (code : Nat) (x y : α) : (if code < 65536 then x else if 55296 ≤ code ∧ code ≤ 57343 then x else if 1114111 < code then x else y) = if 65536 ≤ code ∧ code < 1114112 ∧ (code < 55296 ∨ 57344 ≤ code) then y else x := by
  repeat' split
  all_goals first | rfl | omega
theorem c_point_at (k : Nat) (l : List Nat) (i : Nat) (h : AH) (hz : l.length ≤ szl) (hi : i < l.length) (hb : ∀ n ∈ l, n < 256) {dd : D} (hd : dd = .lst (dns l) ∨ dd = .inp (dns l)) : callF P (k + 1) .point_at [dd, .int i] h = some (.ok (ptD l.length i (decodeUtf8 (l.drop i))) h) := by
  rw [callF_succ P _ _ _ _ rfl rfl]
  rcases hd with rfl | rfl
  all_goals
    rw [List.drop_eq_getElem_cons hi]
    have hr : ∀ m, cutS (dns l) (some ((i + 1 : Nat) : Int)) (some ((i + 1 + m : Nat) : Int)) = dns ((l.drop (i + 1)).take m) := fun m => by
      have := dns_cut l (i + 1) (i + 1 + m)
      rw [Nat.add_sub_cancel_left] at this
      exact this
    have hlen : l.length - i - 1 = (l.drop (i + 1)).length := by simp; omega
    have hbr : ∀ n ∈ l.drop (i + 1), n < 256 := fun n m => hb n (List.mem_of_mem_drop m)
    generalize l.drop (i + 1) = r at *
    generalize ha : l[i] = a at *
    have r0 := hr 0
    have r1 := hr 1
    have r2 := hr 2
    have r3 := hr 3
    unfold ptD
    rw [hlen]
    unfold decodeUtf8
    have m64 : ∀ z : Int, binR .mul (.int 64) (.int z) h = some (.ok (.int (64 * z)) h) := fun z => binR_mul _ (by decide)
    have z0 : 0 < szl := by decide
    have z1 : 1 < szl := by decide
    have z2 : 2 < szl := by decide
    by_cases q1 : a < 128
    · have b1 : a ≤ 127 := by omega
      have b2 : ¬ (a : Int) > 1114111 := by omega
      have b3 : ¬ 55296 ≤ a := by omega
      simp -dsimp -implicitDefEqProofs [-Int.natCast_add, -binR_sub] at r0
      simp -dsimp -implicitDefEqProofs [-Int.natCast_add, -binR_sub, fd_point_at, for_cons, b1, q1, r0, lc_nil, binR_sub, hi, ha, for_nil, b2, b3, retK]
    · have n1 : ¬ a ≤ 127 := by omega
      by_cases q2 : a < 194
      · have n2 : ¬ 194 ≤ a := by omega
        have n3 : ¬ 224 ≤ a := by omega
        have n4 : ¬ 240 ≤ a := by omega
        simp -dsimp -implicitDefEqProofs [-Int.natCast_add, -binR_sub, fd_point_at, n1, n2, n3, n4, q1, q2, for_cons, for_nil, hi, ha]
      · by_cases q3 : a < 224
        · have b1 : 194 ≤ a := by omega
          have b2 : a ≤ 223 := by omega
          rcases r with _ | ⟨b, r⟩
          · simp -dsimp -implicitDefEqProofs [-Int.natCast_add, -binR_sub, fd_point_at, n1, q1, q2, for_cons, for_nil, lc_cons, lc_nil, hi, ha, retK, binR_sub, m64, cont_eq, ite_and, z0, z1, z2, q3, b1, b2, r1]
          · simp -dsimp -implicitDefEqProofs [-Int.natCast_add, -binR_sub] at r1
            by_cases w1 : 128 ≤ b ∧ b ≤ 191
            · have hc : 64 * ((a : Int) - 192) + b - 128 = ((a % 32 * 64 + b % 64 : Nat) : Int) := by omega
              have c1 : ¬ (a % 32 * 64 + b % 64 < 128) := by omega
              have c2 : ¬ (55296 ≤ a % 32 * 64 + b % 64) := by omega
              have c3 : ¬ (1114111 < a % 32 * 64 + b % 64) := by omega
              simp -dsimp -implicitDefEqProofs [-Int.natCast_add, -binR_sub, fd_point_at, n1, q1, q2, for_cons, for_nil, lc_cons, lc_nil, hi, ha, retK, binR_sub, m64, cont_eq, ite_and, z0, z1, z2, q3, b1, b2, r1, w1, hc, c1, c2, c3]
            · by_cases w2 : 128 ≤ b
              · have w3 : ¬ b ≤ 191 := fun e => w1 ⟨w2, e⟩
                simp -dsimp -implicitDefEqProofs [-Int.natCast_add, -binR_sub, fd_point_at, n1, q1, q2, for_cons, for_nil, lc_cons, lc_nil, hi, ha, retK, binR_sub, m64, cont_eq, ite_and, z0, z1, z2, q3, b1, b2, r1, w2, w3]
              · simp -dsimp -implicitDefEqProofs [-Int.natCast_add, -binR_sub, fd_point_at, n1, q1, q2, for_cons, for_nil, lc_cons, lc_nil, hi, ha, retK, binR_sub, m64, cont_eq, ite_and, z0, z1, z2, q3, b1, b2, r1, w2]
        · have n2 : ¬ a ≤ 223 := by omega
          by_cases q4 : a < 240
          · have b1 : 194 ≤ a := by omega
            have b2 : 224 ≤ a := by omega
            have b3 : a ≤ 239 := by omega
            rcases r with _ | ⟨b, _ | ⟨c, r⟩⟩
            · simp -dsimp -implicitDefEqProofs [-Int.natCast_add, -binR_sub, fd_point_at, n1, q1, q2, for_cons, for_nil, lc_cons, lc_nil, hi, ha, retK, binR_sub, m64, cont_eq, ite_and, z0, z1, z2, q3, q4, n2, b1, b2, b3, r2]
            · simp -dsimp -implicitDefEqProofs [-Int.natCast_add, -binR_sub, fd_point_at, n1, q1, q2, for_cons, for_nil, lc_cons, lc_nil, hi, ha, retK, binR_sub, m64, cont_eq, ite_and, z0, z1, z2, q3, q4, n2, b1, b2, b3, r2]
            · simp -dsimp -implicitDefEqProofs [-Int.natCast_add, -binR_sub] at r2
              by_cases ub : 128 ≤ b
              · by_cases vb : b ≤ 191
                · skip
                  by_cases uc : 128 ≤ c
                  · by_cases vc : c ≤ 191
                    · skip
                      have hc : 64 * (64 * ((a : Int) - 224) + b - 128) + c - 128 = ((a % 16 * 4096 + b % 64 * 64 + c % 64 : Nat) : Int) := by omega
                      have c3 : ¬ (1114111 < a % 16 * 4096 + b % 64 * 64 + c % 64) := by omega
                      have c4 : a % 16 * 4096 + b % 64 * 64 + c % 64 < 1114112 := by omega
                      simp -dsimp -implicitDefEqProofs [-Int.natCast_add, -binR_sub, fd_point_at, n1, q1, q2, for_cons, for_nil, lc_cons, lc_nil, hi, ha, retK, binR_sub, m64, cont_eq, ite_and, z0, z1, z2, q3, q4, n2, b1, b2, b3, r2, ub, vb, uc, vc, hc, c3, isScalar, c4]
                      generalize a % 16 * 4096 + b % 64 * 64 + c % 64 = code at *
                      rw [pt_if3]
                      have l2 : r.length + 1 + 1 - r.length = 2 := by omega
                      split <;> simp [l2]
                    · simp -dsimp -implicitDefEqProofs [-Int.natCast_add, -binR_sub, fd_point_at, n1, q1, q2, for_cons, for_nil, lc_cons, lc_nil, hi, ha, retK, binR_sub, m64, cont_eq, ite_and, z0, z1, z2, q3, q4, n2, b1, b2, b3, r2, ub, vb, uc, vc]
                  · simp -dsimp -implicitDefEqProofs [-Int.natCast_add, -binR_sub, fd_point_at, n1, q1, q2, for_cons, for_nil, lc_cons, lc_nil, hi, ha, retK, binR_sub, m64, cont_eq, ite_and, z0, z1, z2, q3, q4, n2, b1, b2, b3, r2, ub, vb, uc]
                · simp -dsimp -implicitDefEqProofs [-Int.natCast_add, -binR_sub, fd_point_at, n1, q1, q2, for_cons, for_nil, lc_cons, lc_nil, hi, ha, retK, binR_sub, m64, cont_eq, ite_and, z0, z1, z2, q3, q4, n2, b1, b2, b3, r2, ub, vb]
              · simp -dsimp -implicitDefEqProofs [-Int.natCast_add, -binR_sub, fd_point_at, n1, q1, q2, for_cons, for_nil, lc_cons, lc_nil, hi, ha, retK, binR_sub, m64, cont_eq, ite_and, z0, z1, z2, q3, q4, n2, b1, b2, b3, r2, ub]
          · have n3 : ¬ a ≤ 239 := by omega
            have b1 : 194 ≤ a := by omega
            have b2 : 224 ≤ a := by omega
            have b3 : 240 ≤ a := by omega
            by_cases b4 : a < 245
            · have b5 : a ≤ 244 := by omega
              rcases r with _ | ⟨b, _ | ⟨c, _ | ⟨d, r⟩⟩⟩
              · simp -dsimp -implicitDefEqProofs [-Int.natCast_add, -binR_sub, fd_point_at, n1, q1, q2, for_cons, for_nil, lc_cons, lc_nil, hi, ha, retK, binR_sub, m64, cont_eq, ite_and, z0, z1, z2, q3, q4, n2, n3, b1, b2, b3, b4, b5, r3]
              · simp -dsimp -implicitDefEqProofs [-Int.natCast_add, -binR_sub, fd_point_at, n1, q1, q2, for_cons, for_nil, lc_cons, lc_nil, hi, ha, retK, binR_sub, m64, cont_eq, ite_and, z0, z1, z2, q3, q4, n2, n3, b1, b2, b3, b4, b5, r3]
              · simp -dsimp -implicitDefEqProofs [-Int.natCast_add, -binR_sub, fd_point_at, n1, q1, q2, for_cons, for_nil, lc_cons, lc_nil, hi, ha, retK, binR_sub, m64, cont_eq, ite_and, z0, z1, z2, q3, q4, n2, n3, b1, b2, b3, b4, b5, r3]
              · simp -dsimp -implicitDefEqProofs [-Int.natCast_add, -binR_sub] at r3
                by_cases ub : 128 ≤ b
                · by_cases vb : b ≤ 191
                  · skip
                    by_cases uc : 128 ≤ c
                    · by_cases vc : c ≤ 191
                      · skip
                        by_cases ud : 128 ≤ d
                        · by_cases vd : d ≤ 191
                          · skip
                            have hc : 64 * (64 * (64 * ((a : Int) - 240) + b - 128) + c - 128) + d - 128 = ((a % 8 * 262144 + b % 64 * 4096 + c % 64 * 64 + d % 64 : Nat) : Int) := by omega
                            simp -dsimp -implicitDefEqProofs [-Int.natCast_add, -binR_sub, fd_point_at, n1, q1, q2, for_cons, for_nil, lc_cons, lc_nil, hi, ha, retK, binR_sub, m64, cont_eq, ite_and, z0, z1, z2, q3, q4, n2, n3, b1, b2, b3, b4, b5, r3, ub, vb, uc, vc, ud, vd, hc, isScalar]
                            generalize a % 8 * 262144 + b % 64 * 4096 + c % 64 * 64 + d % 64 = code at *
                            have l2 : r.length + 1 + 1 + 1 - r.length = 3 := by omega
                            rw [pt_if4]
                            split <;> simp [l2]
                          · simp -dsimp -implicitDefEqProofs [-Int.natCast_add, -binR_sub, fd_point_at, n1, q1, q2, for_cons, for_nil, lc_cons, lc_nil, hi, ha, retK, binR_sub, m64, cont_eq, ite_and, z0, z1, z2, q3, q4, n2, n3, b1, b2, b3, b4, b5, r3, ub, vb, uc, vc, ud, vd]
                        · simp -dsimp -implicitDefEqProofs [-Int.natCast_add, -binR_sub, fd_point_at, n1, q1, q2, for_cons, for_nil, lc_cons, lc_nil, hi, ha, retK, binR_sub, m64, cont_eq, ite_and, z0, z1, z2, q3, q4, n2, n3, b1, b2, b3, b4, b5, r3, ub, vb, uc, vc, ud]
                      · simp -dsimp -implicitDefEqProofs [-Int.natCast_add, -binR_sub, fd_point_at, n1, q1, q2, for_cons, for_nil, lc_cons, lc_nil, hi, ha, retK, binR_sub, m64, cont_eq, ite_and, z0, z1, z2, q3, q4, n2, n3, b1, b2, b3, b4, b5, r3, ub, vb, uc, vc]
                    · simp -dsimp -implicitDefEqProofs [-Int.natCast_add, -binR_sub, fd_point_at, n1, q1, q2, for_cons, for_nil, lc_cons, lc_nil, hi, ha, retK, binR_sub, m64, cont_eq, ite_and, z0, z1, z2, q3, q4, n2, n3, b1, b2, b3, b4, b5, r3, ub, vb, uc]
                  · simp -dsimp -implicitDefEqProofs [-Int.natCast_add, -binR_sub, fd_point_at, n1, q1, q2, for_cons, for_nil, lc_cons, lc_nil, hi, ha, retK, binR_sub, m64, cont_eq, ite_and, z0, z1, z2, q3, q4, n2, n3, b1, b2, b3, b4, b5, r3, ub, vb]
                · simp -dsimp -implicitDefEqProofs [-Int.natCast_add, -binR_sub, fd_point_at, n1, q1, q2, for_cons, for_nil, lc_cons, lc_nil, hi, ha, retK, binR_sub, m64, cont_eq, ite_and, z0, z1, z2, q3, q4, n2, n3, b1, b2, b3, b4, b5, r3, ub]
            · have b5 : ¬ a ≤ 244 := by omega
              simp -dsimp -implicitDefEqProofs [-Int.natCast_add, -binR_sub, fd_point_at, n1, q1, q2, for_cons, for_nil, lc_cons, lc_nil, hi, ha, retK, binR_sub, m64, cont_eq, ite_and, z0, z1, z2, q3, q4, n2, n3, b1, b2, b3, b4, b5]
theorem dec_len {l : List Nat} {c : Nat} {r : List Nat} (h : decodeUtf8 l = some (c, r)) : r.length < l.length := by
  unfold decodeUtf8 at h
  dsimp only at h
  repeat' split at h
  all_goals cases h
  all_goals (simp only [List.length_cons]; omega)
theorem dec_suffix {l : List Nat} {c : Nat} {r : List Nat} (h : decodeUtf8 l = some (c, r)) : l.drop (l.length - r.length) = r := by
  unfold decodeUtf8 at h
  dsimp only at h
  have key : ∀ (p r : List Nat), (p ++ r).drop ((p ++ r).length - r.length) = r := by
    intro p r
    rw [List.length_append, Nat.add_sub_cancel, List.drop_append_length]
  repeat' split at h
  all_goals cases h
  all_goals first | exact key [_] _ | exact key [_, _] _ | exact key [_, _, _] _ | exact key [_, _, _, _] _
def decBody : IS := .seq (.set 3 (.call .point_at (.cons (.var 0) (.cons (.var 2) .nil)))) (.seq (.ife (.isN (.var 3)) (.ret .non) .skip)
    (.seq (.expr (.app (.var 1) (.idx (.var 3) (.int 0)))) (.set 2 (.bin .add (.bin .add (.var 2) (.int 1)) (.idx (.var 3) (.int 1))))))
theorem dec_while (k : Nat) (l : List Nat) (h : AH) (hz : l.length ≤ szl) (hb : ∀ n ∈ l, n < 256) (dd : D) (hw : dd = .lst (dns l) ∨ dd = .inp (dns l)) : ∀ (fuel i : Nat) (acc : List Nat) (x : Option D), l.length - i ≤ fuel → acc.length + (l.length - i) ≤ szl →
    match Kh450.decodeAllLoop fuel (l.drop i) with
    | none => ∃ h', whileF (evalE (callF P (k + 1)) (.cmp .lt (.var 2) (.bi .len (.cons (.var 0) .nil)))) (evalS (callF P (k + 1)) decBody) [some dd, some (.loc h.length), some (.int i), x] (h ++ [.lst (dns acc)]) = some (.ret .non (h ++ [h']))
    | some ts => ts.length ≤ l.length - i ∧ ∃ x' y, whileF (evalE (callF P (k + 1)) (.cmp .lt (.var 2) (.bi .len (.cons (.var 0) .nil)))) (evalS (callF P (k + 1)) decBody) [some dd, some (.loc h.length), some (.int i), x] (h ++ [.lst (dns acc)]) = some (.nx [some dd, some (.loc h.length), y, x'] (h ++ [.lst (dns (acc ++ ts))]))
  | 0, i, acc, x, hf, _ => by
    rw [List.drop_eq_nil_of_le (by omega), Kh450.decodeAllLoop]
    have q : ¬ i < l.length := by omega
    rw [while_eq]
    rcases hw with rfl | rfl <;> simp -dsimp -implicitDefEqProofs [-Int.natCast_add, -binR_sub, q]
  | fuel + 1, i, acc, x, hf, ha => by
    by_cases q : i < l.length
    · have e := c_point_at k l i (h ++ [.lst (dns acc)]) hz q hb hw
      have hne : l.drop i ≠ [] := by
        rw [List.drop_eq_getElem_cons q]
        exact List.cons_ne_nil _ _
      rw [while_eq]
      cases hd : decodeUtf8 (l.drop i) with
      | none =>
        rw [hd] at e
        have s : Kh450.decodeAllLoop (fuel + 1) (l.drop i) = none := by
          rw [Kh450.decodeAllLoop.eq_3 _ _ hne, hd]
        rw [s]
        rcases hw with rfl | rfl <;> simp -dsimp -implicitDefEqProofs [-Int.natCast_add, -binR_sub, q, decBody, e, ptD]
      | some p =>
        obtain ⟨c, r⟩ := p
        have l1 := dec_len hd
        have l2 := dec_suffix hd
        rw [hd] at e
        rw [List.drop_drop, List.length_drop] at l2
        rw [List.length_drop] at l1
        have l3 : i + (l.length - i - r.length) = i + 1 + (l.length - i - 1 - r.length) := by omega
        rw [l3] at l2
        have lt : acc.length < szl := by omega
        have ih := dec_while k l h hz hb dd hw fuel (i + 1 + (l.length - i - 1 - r.length)) (acc ++ [c]) (some (.tup [.int c, .int ((l.length - i - 1 - r.length : Nat) : Int)])) (by omega) (by simp; omega)
        rw [l2] at ih
        have s : Kh450.decodeAllLoop (fuel + 1) (l.drop i) = (Kh450.decodeAllLoop fuel r).map fun codes => c :: codes := by
          rw [Kh450.decodeAllLoop.eq_3 _ _ hne, hd]
        rw [s]
        rw [dns_app] at ih
        rcases hw with rfl | rfl
        all_goals
          simp -dsimp -implicitDefEqProofs [-Int.natCast_add, -binR_sub, q, decBody, e, ptD, lt]
          cases ht : Kh450.decodeAllLoop fuel r with
          | none =>
            rw [ht] at ih
            exact ih
          | some ts =>
            rw [ht] at ih
            obtain ⟨b2, x', y', e'⟩ := ih
            rw [List.append_assoc] at e'
            refine ⟨?_, x', y', e'⟩
            simp
            omega
    · rw [List.drop_eq_nil_of_le (by omega)]
      have s : Kh450.decodeAllLoop (fuel + 1) [] = some [] := rfl
      rw [s, while_eq]
      rcases hw with rfl | rfl <;> simp -dsimp -implicitDefEqProofs [-Int.natCast_add, -binR_sub, q]
theorem c_decoded (k : Nat) (l : List Nat) (h : AH) (hz : l.length ≤ szl) (hb : ∀ n ∈ l, n < 256) {dd : D} (hw : dd = .lst (dns l) ∨ dd = .inp (dns l)) : callF P (k + 2) .decoded [dd] h = some (.ok (match Kh450.decodeAll l with | some ts => .lst (dns ts) | none => .non) h) := by
  rw [callF_succ P _ _ _ _ rfl rfl]
  have e := dec_while k l h hz hb dd hw l.length 0 [] none (by omega) (by simp; omega)
  unfold decBody at e
  rw [List.drop_zero] at e
  unfold Kh450.decodeAll
  cases ht : Kh450.decodeAllLoop l.length l with
  | none =>
    rw [ht] at e
    obtain ⟨h', e⟩ := e
    simp -dsimp -implicitDefEqProofs [-Int.natCast_add, -binR_sub, fd_decoded]
    simp -dsimp -implicitDefEqProofs [-Int.natCast_add, -binR_sub] at e
    rw [e]
    simp -dsimp -implicitDefEqProofs [-Int.natCast_add, -binR_sub, retK, frz, belowD]
  | some ts =>
    rw [ht] at e
    obtain ⟨_, x, y, e⟩ := e
    simp -dsimp -implicitDefEqProofs [-Int.natCast_add, -binR_sub, fd_decoded]
    simp -dsimp -implicitDefEqProofs [-Int.natCast_add, -binR_sub] at e
    rw [e]
    simp -dsimp -implicitDefEqProofs [-Int.natCast_add, -binR_sub, retK, frz, belowD]
end MM
namespace MM
open C
open Kh452 (Token Placed tokenKind)
def fuel_s03 : Nat := 12
def contD : Token → D
  | .control n => .str (if n = [92] then [92, 92] else n)
  | .char c => .int c
  | .escaped c => .int c
  | .parameter n => .int n
  | .math c => .tup (dns c)
  | .verbatim c => .tup (dns c)
  | .code l c => .tup [.tup (dns l), .tup (dns c)]
  | .formula l c => .tup [.tup (dns l), .tup (dns c)]
  | .mark n => .str n
  | _ => .int 0
theorem tok_three (p : Placed) : placedD p = .tup [.int (tokenKind p.token), .int p.position, contD p.token] := by
  obtain ⟨n, t⟩ := p
  cases t <;> rfl
structure SL where
  acc : List Nat
  a : Option D
  b : Option D
  c : Option D
theorem foldl_acc (g : Placed → List Nat) (f : SL → Placed → SL) (hf : ∀ s p, (f s p).acc = s.acc ++ g p) : ∀ (l : List Placed) (s : SL), (l.foldl f s).acc = s.acc ++ l.flatMap g
  | [], s => by simp
  | p :: l, s => by
    rw [List.foldl_cons, foldl_acc g f hf l, hf]
    simp
theorem asked_nat (ns : List Nat) (op : Int) : (Kh452Neutral.list [[op], ns.map Int.ofNat] 1) = ns := by
  have : (Int.toNat ∘ Int.ofNat) = id := rfl
  simp [Kh452Neutral.list, this]
theorem law_s03 (ns : List Nat) (hl : ns.length ≤ 600) (hb : ∀ n ∈ ns, n < 256) : ∃ r : List Int, Kh452Neutral.f [[3], ns.map Int.ofNat] = r ∧ callF P fuel_s03 .tokens [.inp (dns ns)] [] = some (.ok (.lst (r.map D.int)) []) := by
  refine ⟨_, rfl, ?_⟩
  have hs : szl = 16777216 := rfl
  show callF P (11 + 1) _ _ _ = _
  rw [callF_succ P _ _ _ _ rfl rfl]
  have ef : Kh452Neutral.f [[3], ns.map Int.ofNat] = Kh452Neutral.integers (Kh452.answer (.tokens ns)) := by
    show Kh452Neutral.integers (Kh452.answer (.tokens (Kh452Neutral.list [[3], ns.map Int.ofNat] 1))) = _
    rw [asked_nat]
  rw [ef]
  have e1 := c_decoded 9 ns [] (by omega) hb (.inr rfl)
  show _ = some (R.ok (D.lst ((Kh452Neutral.integers (Kh450.withText ns fun t => match Kh452.tokenize t with
    | .error _ => Kh452.number (-20)
    | .ok l => { value := l.length, rest := l.flatMap fun p => [p.position, tokenKind p.token] })).map D.int)) [])
  unfold Kh450.withText
  cases hd : Kh450.decodeAll ns with
  | none =>
    rw [hd] at e1
    simp -dsimp -implicitDefEqProofs [-Int.natCast_add, -binR_sub, fd_tokens, e1]
    rfl
  | some ts =>
    rw [hd] at e1
    have hlen : ts.length ≤ ns.length := by
      have e := dec_while 0 ns [] (by omega) hb (.lst (dns ns)) (.inl rfl) ns.length 0 [] none (by omega) (by simp; omega)
      rw [List.drop_zero] at e
      unfold Kh450.decodeAll at hd
      rw [hd] at e
      have := e.1
      omega
    have e2 := c_tokens_of 4 ts [] (by omega)
    cases ht : Kh452.tokenize ts with
    | error p =>
      obtain ⟨c, p⟩ := p
      rw [ht] at e2
      simp -dsimp -implicitDefEqProofs [-Int.natCast_add, -binR_sub, fd_tokens, e1, e2, ht]
      rfl
    | ok l =>
      rw [ht] at e2
      have hl2 := tok_len (by omega) ht
      simp -dsimp -implicitDefEqProofs [-Int.natCast_add, -binR_sub, fd_tokens, e1, e2]
      have e := for_fold (t := .tup [4, 5, 6]) (b := evalS (callF P 11) (.expr (.ext (.var 2) (.lst (.cons (.var 5) (.cons (.var 4) .nil)))))) placedD
        (fun s : SL => [some (.inp (dns ns)), some (.lst (dns ts)), some (.loc 0), some (.lst (l.map placedD)), s.a, s.b, s.c])
        (fun s => [.lst (dns s.acc)])
        (fun s p => ⟨s.acc ++ [p.position, tokenKind p.token], some (.int (tokenKind p.token)), some (.int p.position), some (contD p.token)⟩)
        (fun s r => s.acc.length + 2 * r.length ≤ 4000)
        (by
          intro s p r hI
          simp only [List.length_cons] at hI
          have lt : s.acc.length + 2 ≤ szl := by omega
          refine ⟨⟨_, by rw [tok_three]; rfl, ?_⟩, ?_⟩
          · simp -dsimp -implicitDefEqProofs [-Int.natCast_add, -binR_sub, lt, dns_app]
          · simp
            omega) l ⟨[l.length], none, none, none⟩ (by simp; omega)
      simp -dsimp -implicitDefEqProofs [-Int.natCast_add, -binR_sub] at e
      rw [e]
      have fa := foldl_acc (fun p => [p.position, tokenKind p.token]) (fun s p => ⟨s.acc ++ [p.position, tokenKind p.token], some (.int (tokenKind p.token)), some (.int p.position), some (contD p.token)⟩) (fun s p => rfl) l ⟨[l.length], none, none, none⟩
      simp -dsimp -implicitDefEqProofs [-Int.natCast_add, -binR_sub, retK, frz, belowD]
      rw [fa]
      simp [Kh452Neutral.integers, ht]
      simp [dns, dn, Function.comp_def]
end MM
namespace MM
open PySem PySem.Spec PyProof.Rows L2

def sOf (l : List Nat) : Str := ⟨l.toArray⟩
theorem ofString_cds (s : String) : Str.ofString s = sOf (cds s) := Str.ofString_eq_toList s
theorem sOf_inj {a b : List Nat} (h : sOf a = sOf b) : a = b := by
  have e : a.toArray = b.toArray := congrArg Str.cps h
  simpa using e
theorem cds_inj {a b : String} (h : cds a = cds b) : a = b := by
  have e : a.toList = b.toList := by
    have inj : ∀ x y : Char, x.toNat = y.toNat → x = y := fun x y e => Char.toNat_inj.mp e
    unfold cds at h
    generalize a.toList = x at h
    generalize b.toList = y at h
    induction x generalizing y with
    | nil => cases y with
      | nil => rfl
      | cons _ _ => simp at h
    | cons c r ih => cases y with
      | nil => simp at h
      | cons c' r' =>
        simp only [List.map_cons, List.cons.injEq] at h
        rw [inj _ _ h.1, ih _ h.2]
  exact String.toList_inj.mp e
theorem ofString_inj {a b : String} (h : Str.ofString a = Str.ofString b) : a = b := by
  rw [ofString_cds, ofString_cds] at h
  exact cds_inj (sOf_inj h)

/-- where the text's things lie: functions, classes -/
structure Pl where
  fn : Fn → Addr
  cl : String → Addr
  /-- lists that are still being made: no datum knows of them -/
  hid : List Addr := []
/-- one more that no datum knows of -/
abbrev Pl.hide (L : Pl) (a : Addr) : Pl := { L with hid := a :: L.hid }
def Off (L : Pl) (m : List Addr) (a : Addr) : Prop := a ∉ m ∧ a ∉ L.hid

/-- a list that the top has written -/
def KL (K : PySem.W.Frag) (a : Addr) (xs : List V) : Prop :=
  ∃ (o : Obj) (its : Array Value) (n : Nat), K.lookup a = some o ∧ o.cls = .type "list" ∧ o.dict = none ∧ o.data = .seq its n ∧ its.size ≤ sizeLine ∧ Vals xs its.toList
section
variable (K : PySem.W.Frag) (L : Pl) (m : List Addr) (H : Hp)
mutual
/-- a value bears a datum; m: where the abstract heap's things lie -/
inductive VR : V → D → Prop
  | non : VR .non .non
  | bl (b : Bool) : VR (.bl b) (.bl b)
  | int (i : Int) : VR (.int i) (.int i)
  | str (s : List Nat) : VR (.str (sOf s)) (.str s)
  | tup {a : Addr} {xs : List V} {ds : List D} : SqT K H a xs → VRs xs ds → VR (.ref a) (.tup ds)
  | lst {a : Addr} {xs : List V} {ds : List D} : H a = some (.lst xs) → Off L m a → VRs xs ds → VR (.ref a) (.lst ds)
  | inp {a : Addr} {xs : List V} {ds : List D} : Rd H a (.lst xs) → Off L m a → VRs xs ds → VR (.ref a) (.inp ds)
  | inpK {a : Addr} {xs : List V} {ds : List D} : KL K a xs → VRs xs ds → VR (.ref a) (.inp ds)
  | loc {a : Addr} {n : Nat} : m[n]? = some a → VR (.ref a) (.loc n)
  | fn (f : Fn) : VR (.ref (L.fn f)) (.fn f)
inductive VRs : List V → List D → Prop
  | nil : VRs [] []
  | cons {v : V} {vs : List V} {d : D} {ds : List D} : VR v d → VRs vs ds → VRs (v :: vs) (d :: ds)
end
inductive FRs : List (Str × V) → List (String × D) → Prop
  | nil : FRs [] []
  | cons {v : V} {vs : List (Str × V)} {f : String} {d : D} {ds : List (String × D)} : VR K L m H v d → FRs vs ds → FRs ((Str.ofString f, v) :: vs) ((f, d) :: ds)
inductive KRs : List (Key × V) → List (List Nat × D) → Prop
  | nil : KRs [] []
  | cons {v : V} {vs : List (Key × V)} {k : List Nat} {d : D} {ds : List (List Nat × D)} : VR K L m H v d → KRs vs ds → KRs ((.inr (sOf k), v) :: vs) ((k, d) :: ds)
/-- a thing of the abstract heap, at an address -/
def HR (a : Addr) : HObj → Prop
  | .lst ds => ∃ xs, H a = some (.lst xs) ∧ VRs K L m H xs ds
  | .ins c fs => ∃ dx vs, H a = some (.ins (L.cl c) dx vs) ∧ FRs K L m H vs fs
  | .dct kvs => ∃ vs, H a = some (.dK vs) ∧ KRs K L m H vs kvs
structure RH (h : AH) : Prop where
  len : m.length = h.length
  nd : m.Nodup
  hid : ∀ a ∈ L.hid, a ∉ m ∧ H a ≠ none
  at_ : ∀ (n : Nat) (o : HObj) (a : Addr), h[n]? = some o → m[n]? = some a → HR K L m H a o
def RSl (σ : L2.St) (δ : Slots) : Prop := σ.length = δ.length ∧ ∀ (i : Nat) (d : D), δ[i]? = some (some d) → ∃ v, σ[i]? = some (some v) ∧ VR K L m H v d
end
/-- all but the abstract heap's things stands -/
def Keep (m : List Addr) (H H' : Hp) : Prop := ∀ a o, H a = some o → a ∉ m → H' a = some o
def Ext (m m' : List Addr) (H : Hp) : Prop := ∃ t, m' = m ++ t ∧ ∀ a ∈ t, H a = none

section
variable {K : PySem.W.Frag} {L : Pl} {m m' m'' : List Addr} {H H' H'' : Hp} {h h' : AH} {a : Addr} {v : V} {d : D} {vs : List V} {ds : List D}
theorem Keep.refl : Keep m H H := fun _ _ e _ => e
theorem Ext.refl : Ext m m H := ⟨[], by simp, fun _ h => by simp at h⟩
theorem RH.obj (R : RH K L m H h) {n : Nat} {o : HObj} (e : h[n]? = some o) : ∃ a, m[n]? = some a ∧ HR K L m H a o := by
  have lt : n < h.length := (List.getElem?_eq_some_iff.mp e).1
  have lt2 : n < m.length := by rw [R.len]; exact lt
  exact ⟨m[n], List.getElem?_eq_getElem lt2, R.at_ n o _ e (List.getElem?_eq_getElem lt2)⟩
theorem RH.mem (R : RH K L m H h) (ha : a ∈ m) : ∃ o, HR K L m H a o := by
  obtain ⟨n, lt, e⟩ := List.mem_iff_getElem.mp ha
  have lt2 : n < h.length := by rw [← R.len]; exact lt
  exact ⟨h[n], R.at_ n h[n] a (List.getElem?_eq_getElem lt2) (by rw [List.getElem?_eq_getElem lt, e])⟩
/-- a thing of the abstract heap is a list, an instance, a dict -/
theorem HR.kind {o : HObj} (r : HR K L m H a o) : (∃ xs, H a = .some (.lst xs)) ∨ (∃ C dx fs, H a = .some (.ins C dx fs)) ∨ ∃ kvs, H a = .some (.dK kvs) := by
  cases o with
  | lst ds => obtain ⟨xs, e, _⟩ := r; exact .inl ⟨xs, e⟩
  | ins c fs => obtain ⟨dx, vs, e, _⟩ := r; exact .inr (.inl ⟨_, dx, vs, e⟩)
  | dct kvs => obtain ⟨vs, e, _⟩ := r; exact .inr (.inr ⟨vs, e⟩)
theorem RH.tup (R : RH K L m H h) {xs : List V} (e : H a = .some (.tup xs)) : a ∉ m := fun ha => by
  obtain ⟨o, r⟩ := R.mem ha
  rcases r.kind with ⟨_, q⟩ | ⟨_, _, _, q⟩ | ⟨_, q⟩ <;> rw [e] at q <;> cases q
theorem RH.frz (R : RH K L m H h) {o : Obj} {u : HO} (e : H a = .some (.frz o u)) : a ∉ m := fun ha => by
  obtain ⟨o, r⟩ := R.mem ha
  rcases r.kind with ⟨_, q⟩ | ⟨_, _, _, q⟩ | ⟨_, q⟩ <;> rw [e] at q <;> cases q
theorem RH.own (R : RH K L m H h) {x : Addr} (e : H a = .some (.own x)) : a ∉ m := fun ha => by
  obtain ⟨o, r⟩ := R.mem ha
  rcases r.kind with ⟨_, q⟩ | ⟨_, _, _, q⟩ | ⟨_, q⟩ <;> rw [e] at q <;> cases q
theorem RH.there (R : RH K L m H h) (ha : a ∈ m) : H a ≠ none := fun e => by
  obtain ⟨o, r⟩ := R.mem ha
  rcases r.kind with ⟨_, q⟩ | ⟨_, _, _, q⟩ | ⟨_, q⟩ <;> rw [e] at q <;> cases q
theorem Keep.sqT (R : RH K L m H h) (k : Keep m H H') {xs : List V} (q : SqT K H a xs) : SqT K H' a xs := by
  rcases q with (q | ⟨o, q⟩) | q
  · exact .inl (.inl (k a _ q (R.tup q)))
  · exact .inl (.inr ⟨o, k a _ q (R.frz q)⟩)
  · exact .inr q
theorem Keep.rdL (R : RH K L m H h) (k : Keep m H H') {xs : List V} (q : Rd H a (.lst xs)) (n : a ∉ m) : Rd H' a (.lst xs) := by
  rcases q with q | ⟨o, q⟩
  · exact .inl (k a _ q n)
  · exact .inr ⟨o, k a _ q n⟩
theorem Ext.old (x : Ext m m' H) {n : Nat} (e : m[n]? = some a) : m'[n]? = some a := by
  obtain ⟨t, rfl, _⟩ := x
  rw [List.getElem?_append_left (List.getElem?_eq_some_iff.mp e).1]
  exact e
theorem Ext.sub (x : Ext m m' H) (e : a ∈ m) : a ∈ m' := by
  obtain ⟨t, rfl, _⟩ := x
  exact List.mem_append_left _ e
theorem Ext.out (x : Ext m m' H) (n : a ∉ m) (e : H a ≠ none) : a ∉ m' := by
  obtain ⟨t, rfl, f⟩ := x
  intro ha
  rcases List.mem_append.mp ha with ha | ha
  · exact n ha
  · exact e (f a ha)
theorem rd_some {u : HO} (q : Rd H a u) : H a ≠ none := by
  rcases q with q | ⟨o, q⟩ <;> rw [q] <;> simp
mutual
theorem VR.keep (R : RH K L m H h) (x : Ext m m' H) (k : Keep m H H') : ∀ {v : V} {d : D}, VR K L m H v d → VR K L m' H' v d
  | _, _, .non => .non
  | _, _, .bl b => .bl b
  | _, _, .int i => .int i
  | _, _, .str s => .str s
  | _, _, .tup q r => .tup (k.sqT R q) (VRs.keep R x k r)
  | _, _, .lst q n r => .lst (k _ _ q n.1) ⟨x.out n.1 (by rw [q]; simp), n.2⟩ (VRs.keep R x k r)
  | _, _, .inp q n r => .inp (k.rdL R q n.1) ⟨x.out n.1 (rd_some q), n.2⟩ (VRs.keep R x k r)
  | _, _, .inpK q r => .inpK q (VRs.keep R x k r)
  | _, _, .loc e => .loc (x.old e)
  | _, _, .fn f => .fn f
theorem VRs.keep (R : RH K L m H h) (x : Ext m m' H) (k : Keep m H H') : ∀ {vs : List V} {ds : List D}, VRs K L m H vs ds → VRs K L m' H' vs ds
  | _, _, .nil => .nil
  | _, _, .cons q r => .cons (VR.keep R x k q) (VRs.keep R x k r)
end
theorem FRs.keep (R : RH K L m H h) (x : Ext m m' H) (k : Keep m H H') : ∀ {vs : List (Str × V)} {ds : List (String × D)}, FRs K L m H vs ds → FRs K L m' H' vs ds
  | _, _, .nil => .nil
  | _, _, .cons q r => .cons (q.keep R x k) (FRs.keep R x k r)
theorem KRs.keep (R : RH K L m H h) (x : Ext m m' H) (k : Keep m H H') : ∀ {vs : List (Key × V)} {ds : List (List Nat × D)}, KRs K L m H vs ds → KRs K L m' H' vs ds
  | _, _, .nil => .nil
  | _, _, .cons q r => .cons (q.keep R x k) (KRs.keep R x k r)
theorem RSl.keep (R : RH K L m H h) (x : Ext m m' H) (k : Keep m H H') {σ : L2.St} {δ : Slots} (r : RSl K L m H σ δ) : RSl K L m' H' σ δ :=
  ⟨r.1, fun i d e => let ⟨v, e', q⟩ := r.2 i d e; ⟨v, e', q.keep R x k⟩⟩
theorem Keep.trans (R : RH K L m H h) (x : Ext m m' H) (k : Keep m H H') (k' : Keep m' H' H'') : Keep m H H'' := fun a o e n =>
  k' a o (k a o e n) (x.out n (by rw [e]; simp))
theorem Ext.trans (R : RH K L m H h) (R' : RH K L m' H' h') (x : Ext m m' H) (k : Keep m H H') (x' : Ext m' m'' H') : Ext m m'' H := by
  obtain ⟨t, e, f⟩ := id x
  obtain ⟨t', e', f'⟩ := x'
  refine ⟨t ++ t', by rw [e', e, List.append_assoc], fun a ha => ?_⟩
  rcases List.mem_append.mp ha with ha | ha
  · exact f a ha
  · cases q : H a with
    | none => rfl
    | some o =>
      exfalso
      by_cases n : a ∈ m
      · exact R'.there (x.sub n) (f' a ha)
      · have := k a o q n
        rw [f' a ha] at this
        cases this
theorem VRs.length : ∀ {vs : List V} {ds : List D}, VRs K L m H vs ds → vs.length = ds.length
  | _, _, .nil => rfl
  | _, _, .cons _ r => by simp [VRs.length r]
theorem VRs.append : ∀ {vs us : List V} {ds es : List D}, VRs K L m H vs ds → VRs K L m H us es → VRs K L m H (vs ++ us) (ds ++ es)
  | _, _, _, _, .nil, r => r
  | _, _, _, _, .cons q r, s => .cons q (VRs.append r s)
theorem VRs.get : ∀ {vs : List V} {ds : List D} {i : Nat} {d : D}, VRs K L m H vs ds → ds[i]? = some d → ∃ v, vs[i]? = some v ∧ VR K L m H v d
  | _, _, _, _, .nil, e => by simp at e
  | _, _, 0, _, .cons q _, e => by simp at e; subst e; exact ⟨_, rfl, q⟩
  | _, _, i + 1, _, .cons _ r, e => by
    obtain ⟨v, e', q⟩ := VRs.get (i := i) r (by simpa using e)
    exact ⟨v, by simpa using e', q⟩
theorem VRs.getV : ∀ {vs : List V} {ds : List D} {i : Nat} {v : V}, VRs K L m H vs ds → vs[i]? = some v → ∃ d, ds[i]? = some d ∧ VR K L m H v d
  | _, _, _, _, .nil, e => by simp at e
  | _, _, 0, _, .cons q _, e => by simp at e; subst e; exact ⟨_, rfl, q⟩
  | _, _, i + 1, _, .cons _ r, e => by
    obtain ⟨v, e', q⟩ := VRs.getV (i := i) r (by simpa using e)
    exact ⟨v, by simpa using e', q⟩
theorem VRs.take : ∀ {vs : List V} {ds : List D} (n : Nat), VRs K L m H vs ds → VRs K L m H (vs.take n) (ds.take n)
  | _, _, 0, _ => .nil
  | _, _, _ + 1, .nil => .nil
  | _, _, n + 1, .cons q r => .cons q (VRs.take n r)
theorem VRs.drop : ∀ {vs : List V} {ds : List D} (n : Nat), VRs K L m H vs ds → VRs K L m H (vs.drop n) (ds.drop n)
  | _, _, 0, r => r
  | _, _, _ + 1, .nil => .nil
  | _, _, n + 1, .cons _ r => VRs.drop n r
theorem VRs.ints : ∀ {vs : List V} {ds : List D} {ns : List Int}, VRs K L m H vs ds → allInt ds = some ns → vs = ns.map V.int
  | _, _, _, .nil, e => by cases e; rfl
  | _, _, _, .cons (d := d) q r, e => by
    cases q <;> simp [allInt] at e
    obtain ⟨a, e, rfl⟩ := e
    simp [VRs.ints r e]
theorem VRs.bls : ∀ {vs : List V} {ds : List D} {ns : List Bool}, VRs K L m H vs ds → allBl ds = some ns → vs = ns.map V.bl
  | _, _, _, .nil, e => by cases e; rfl
  | _, _, _, .cons (d := d) q r, e => by
    cases q <;> simp [allBl] at e
    obtain ⟨a, e, rfl⟩ := e
    simp [VRs.bls r e]
theorem VRs.strs : ∀ {vs : List V} {ds : List D} {ns : List (List Nat)}, VRs K L m H vs ds → allStr ds = some ns → vs = (ns.map sOf).map V.str
  | _, _, _, .nil, e => by cases e; rfl
  | _, _, _, .cons (d := d) q r, e => by
    cases q <;> simp [allStr] at e
    obtain ⟨a, e, rfl⟩ := e
    simp [VRs.strs r e]
end
end MM
namespace MM
open PySem PySem.Spec PyProof.Rows L2

/-- how an error lies: its class, its own dict -/
def XR (L : Pl) (H : Hp) (cls : Value) (dx : Option Addr) : Exc → Prop
  | .wrong k p => cls = .ref (L.cl "Wrong") ∧ ∃ a fs, dx = some a ∧ H a = some (.xd fs) ∧ fs.lookup (Str.ofString "kind") = some (.int k) ∧ fs.lookup (Str.ofString "position") = some (.int p)
  | .nodoc => cls = .ref (L.cl "NoDocument")
def Fin (K : PySem.W.Frag) (L : Pl) (W : WX) (m : List Addr) (H : Hp) (σ : L2.St) (Q : VK) : R D → Prop
  | .ok d h' => ∀ m' v H', Ext m m' H → RH K L m' H' h' → VR K L m' H' v d → Keep m H H' → Q v H'
  | .ex e => ∀ cls dx H', XR L H' cls dx e → Keep m H H' → W cls dx σ H'
/-- values in hand, what is still to be computed of them -/
def Hold (K : PySem.W.Frag) (L : Pl) (W : WX) (σ : L2.St) (Q : VK) (k : Slots → List D → AH → Res D) (vs : List V) (H : Hp) : Prop :=
  ∃ m δ h xs r, RH K L m H h ∧ RSl K L m H σ δ ∧ VRs K L m H vs xs ∧ k δ xs h = some r ∧ Fin K L W m H σ Q r
def tE (K : PySem.W.Frag) (L : Pl) (W : WX) (ev : Slots → AH → Res D) : TE := fun σ H Q => Hold K L W σ Q (fun δ _ h => ev δ h) [] H
def tT (K : PySem.W.Frag) (L : Pl) (W : WX) (ev : Slots → AH → Res D) : TT := fun σ H Q => tE K L W ev σ H fun v H' => ∃ b, v = .bl b ∧ Q b H'
/-- the same with a list of values -/
def FinL (K : PySem.W.Frag) (L : Pl) (W : WX) (m : List Addr) (H : Hp) (σ : L2.St) (Q : List V → Hp → Prop) : R (List D) → Prop
  | .ok ds h' => ∀ m' vs H', Ext m m' H → RH K L m' H' h' → VRs K L m' H' vs ds → Keep m H H' → Q vs H'
  | .ex e => ∀ cls dx H', XR L H' cls dx e → Keep m H H' → W cls dx σ H'
def tA (K : PySem.W.Frag) (L : Pl) (W : WX) (ev : Slots → AH → Res (List D)) : TA := fun σ H Q =>
  ∃ m δ h r, RH K L m H h ∧ RSl K L m H σ δ ∧ ev δ h = some r ∧ FinL K L W m H σ Q r

theorem _root_.L2.PE.imp {X : Cx} {e : Expr} {t t' : TE} (h : PE X e t) (i : ∀ σ H Q, t' σ H Q → t σ H Q) : PE X e t' := ⟨fun pins s σ H Q I q => h.run pins s σ H Q I (i σ H Q q)⟩
theorem _root_.L2.PT.imp {X : Cx} {e : Expr} {t t' : TT} (h : PT X e t) (i : ∀ σ H Q, t' σ H Q → t σ H Q) : PT X e t' := ⟨fun pins s σ H Q I q => h.run pins s σ H Q I (i σ H Q q)⟩
theorem _root_.L2.PA.imp {X : Cx} {e : List Expr} {t t' : TA} (h : PA X e t) (i : ∀ σ H Q, t' σ H Q → t σ H Q) : PA X e t' := ⟨fun pos pins s σ H Q I q => h.run pos pins s σ H Q I (i σ H Q q)⟩

section
variable {K : PySem.W.Frag} {L : Pl} {W : WX} {σ : L2.St} {Q : VK} {m m' : List Addr} {H H' : Hp} {h h' : AH} {v : V} {d : D} {vs : List V} {xs : List D} {δ : Slots} {a p : Addr}
theorem Fin.mono {r : R D} (R : RH K L m H h) (R' : RH K L m' H' h') (x : Ext m m' H) (k : Keep m H H') (f : Fin K L W m H σ Q r) : Fin K L W m' H' σ Q r := by
  cases r with
  | ok d hh => exact fun m2 v H2 x2 R2 r2 k2 => f m2 v H2 (x.trans R R' k x2) R2 r2 (k.trans R x k2)
  | ex e => exact fun cls dx H2 q k2 => f cls dx H2 q (k.trans R x k2)
theorem FinL.mono {Q : List V → Hp → Prop} {r : R (List D)} (R : RH K L m H h) (R' : RH K L m' H' h') (x : Ext m m' H) (k : Keep m H H') (f : FinL K L W m H σ Q r) : FinL K L W m' H' σ Q r := by
  cases r with
  | ok d hh => exact fun m2 v H2 x2 R2 r2 k2 => f m2 v H2 (x.trans R R' k x2) R2 r2 (k.trans R x k2)
  | ex e => exact fun cls dx H2 q k2 => f cls dx H2 q (k.trans R x k2)
theorem Fin.ok0 (f : Fin K L W m H σ Q (.ok d h)) (R : RH K L m H h) (r : VR K L m H v d) : Q v H := f m v H Ext.refl R r Keep.refl
theorem bindR_some {α β : Type} {x : Res α} {f : α → AH → Res β} {r : R β} (e : bindR x f = some r) : (∃ a h, x = some (.ok a h) ∧ f a h = some r) ∨ ∃ ee, x = some (.ex ee) ∧ r = .ex ee := by
  rcases x with _ | ⟨a, h⟩ | ee
  · cases e
  · exact .inl ⟨a, h, rfl, e⟩
  · cases e
    exact .inr ⟨ee, rfl, rfl⟩
/-- one more value -/
theorem Hold.bind {ea : Slots → AH → Res D} {k : Slots → List D → AH → Res D} (q : Hold K L W σ Q (fun δ xs h => bindR (ea δ h) fun x h => k δ (xs ++ [x]) h) vs H) :
    tE K L W ea σ H fun v H1 => Hold K L W σ Q k (vs ++ [v]) H1 := by
  obtain ⟨m, δ, h, xs, r, R, S, V, e, f⟩ := q
  rcases bindR_some e with ⟨x, h1, e1, e2⟩ | ⟨ee, e1, rfl⟩
  · exact ⟨m, δ, h, [], _, R, S, .nil, e1, fun m1 v H1 x1 R1 r1 k1 => ⟨m1, δ, h1, xs ++ [x], r, R1, S.keep R x1 k1, (V.keep R x1 k1).append (.cons r1 .nil), e2, f.mono R R1 x1 k1⟩⟩
  · exact ⟨m, δ, h, [], _, R, S, .nil, e1, f⟩
/-- a list of values more -/
theorem Hold.bindL {ea : Slots → AH → Res (List D)} {k : Slots → List D → AH → Res D} (q : Hold K L W σ Q (fun δ xs h => bindR (ea δ h) fun ys h => k δ (xs ++ ys) h) vs H) :
    tA K L W ea σ H fun us H1 => Hold K L W σ Q k (vs ++ us) H1 := by
  obtain ⟨m, δ, h, xs, r, R, S, V, e, f⟩ := q
  rcases bindR_some e with ⟨x, h1, e1, e2⟩ | ⟨ee, e1, rfl⟩
  · exact ⟨m, δ, h, _, R, S, e1, fun m1 v H1 x1 R1 r1 k1 => ⟨m1, δ, h1, xs ++ x, r, R1, S.keep R x1 k1, (V.keep R x1 k1).append r1, e2, f.mono R R1 x1 k1⟩⟩
  · exact ⟨m, δ, h, _, R, S, e1, f⟩

/-! ### the heap changes -/
theorem Keep.new {o : HO} (n : H p = none) : Keep m H (upd H p o) := fun a u e _ => by
  rw [upd_ne (ne_of_none e n)]
  exact e
theorem Keep.mut {o : HO} (n : a ∈ m) : Keep m H (upd H a o) := fun b u e hb => by
  have ne : b ≠ a := fun z => hb (by rw [z]; exact n)
  rw [upd_ne ne]
  exact e
theorem HR.keep {o : HObj} (R : RH K L m H h) (x : Ext m m' H) (k : Keep m H H') (e : H' a = H a) (r : HR K L m H a o) : HR K L m' H' a o := by
  cases o with
  | lst ds => obtain ⟨xs, q, r⟩ := r; exact ⟨xs, e.trans q, r.keep R x k⟩
  | ins c fs => obtain ⟨dx, vs, q, r⟩ := r; exact ⟨dx, vs, e.trans q, r.keep R x k⟩
  | dct kvs => obtain ⟨vs, q, r⟩ := r; exact ⟨vs, e.trans q, r.keep R x k⟩
theorem RH.free (R : RH K L m H h) (n : H p = none) : p ∉ m := fun hp => R.there hp n
theorem RH.off (R : RH K L m H h) (n : H p = none) : Off L m p := ⟨R.free n, fun hp => (R.hid p hp).2 n⟩
theorem RH.hidK (R : RH K L m H h) (x : Ext m m' H) (k : Keep m H H') : ∀ a ∈ L.hid, a ∉ m' ∧ H' a ≠ none := fun a ha => by
  obtain ⟨n, t⟩ := R.hid a ha
  refine ⟨x.out n t, ?_⟩
  cases q : H a with
  | none => exact absurd q t
  | some o => rw [k a o q n]; simp
/-- something new that is no thing of the abstract heap -/
theorem RH.new {o : HO} (R : RH K L m H h) (n : H p = none) : RH K L m (upd H p o) h :=
  ⟨R.len, R.nd, R.hidK Ext.refl (Keep.new n), fun i u a e1 e2 => (R.at_ i u a e1 e2).keep R Ext.refl (Keep.new n) (upd_ne fun z => R.free n (z ▸ List.mem_of_getElem? e2))⟩
/-- a new thing -/
theorem RH.add {o : HO} {u : HObj} (R : RH K L m H h) (n : H p = none) (r : HR K L (m ++ [p]) (upd H p o) p u) : RH K L (m ++ [p]) (upd H p o) (h ++ [u]) := by
  have x : Ext m (m ++ [p]) H := ⟨[p], rfl, fun a ha => by simp at ha; rw [ha]; exact n⟩
  refine ⟨by simp [R.len], ?_, R.hidK x (Keep.new n), fun i w a e1 e2 => ?_⟩
  · rw [List.nodup_append]
    refine ⟨R.nd, by simp, fun a ha b hb => ?_⟩
    simp at hb
    subst hb
    exact fun z => R.free n (z ▸ ha)
  · by_cases hi : i < m.length
    · rw [List.getElem?_append_left hi] at e2
      rw [List.getElem?_append_left (by rw [← R.len]; exact hi)] at e1
      exact (R.at_ i w a e1 e2).keep R x (Keep.new n) (upd_ne fun z => R.free n (z ▸ List.mem_of_getElem? e2))
    · have hl : i < (m ++ [p]).length := (List.getElem?_eq_some_iff.mp e2).1
      have : i = m.length := by simp at hl; omega
      subst this
      rw [List.getElem?_concat_length] at e2
      rw [R.len, List.getElem?_concat_length] at e1
      cases e1
      cases e2
      exact r
theorem Ext.one (n : H p = none) : Ext m (m ++ [p]) H := ⟨[p], rfl, fun a ha => by simp at ha; rw [ha]; exact n⟩
/-- a thing changes -/
theorem RH.set {o : HO} {u : HObj} {i : Nat} (R : RH K L m H h) (ha : m[i]? = some a) (r : HR K L m (upd H a o) a u) : RH K L m (upd H a o) (h.set i u) := by
  have mem : a ∈ m := List.mem_of_getElem? ha
  refine ⟨by simp [R.len], R.nd, R.hidK Ext.refl (Keep.mut mem), fun j w b e1 e2 => ?_⟩
  by_cases hj : j = i
  · subst hj
    rw [ha] at e2
    cases e2
    have lt : j < h.length := by rw [← R.len]; exact (List.getElem?_eq_some_iff.mp ha).1
    rw [List.getElem?_set_self lt] at e1
    cases e1
    exact r
  · rw [List.getElem?_set_ne (fun z => hj z.symm)] at e1
    have hb : b ≠ a := fun z => by
      subst z
      obtain ⟨l1, q1⟩ := List.getElem?_eq_some_iff.mp e2
      obtain ⟨l2, q2⟩ := List.getElem?_eq_some_iff.mp ha
      exact hj ((List.getElem_inj R.nd).mp (q1.trans q2.symm))
    exact (R.at_ j w b e1 e2).keep R Ext.refl (Keep.mut mem) (upd_ne hb)
/-! ### what values are -/
theorem VR.inv_int {i : Int} (r : VR K L m H v (.int i)) : v = .int i := by cases r; rfl
theorem VR.inv_bl {b : Bool} (r : VR K L m H v (.bl b)) : v = .bl b := by cases r; rfl
theorem VR.inv_non (r : VR K L m H v .non) : v = .non := by cases r; rfl
theorem VR.inv_str {s : List Nat} (r : VR K L m H v (.str s)) : v = .str (sOf s) := by cases r; rfl
theorem VR.inv_tup {l : List D} (r : VR K L m H v (.tup l)) : ∃ a xs, v = .ref a ∧ SqT K H a xs ∧ VRs K L m H xs l := by cases r with | tup q r => exact ⟨_, _, rfl, q, r⟩
theorem VR.inv_lst {l : List D} (r : VR K L m H v (.lst l)) : ∃ a xs, v = .ref a ∧ H a = some (.lst xs) ∧ Off L m a ∧ VRs K L m H xs l := by cases r with | lst q n r => exact ⟨_, _, rfl, q, n, r⟩
theorem VR.inv_loc {n : Nat} (r : VR K L m H v (.loc n)) : ∃ a, v = .ref a ∧ m[n]? = some a := by cases r with | loc e => exact ⟨_, rfl, e⟩
/-- a list, of a value or of a thing -/
theorem VR.list (R : RH K L m H h) {l : List D} (r : VR K L m H v d) (e : lstOf h d = some l) : ∃ a xs, v = .ref a ∧ SqL K H a xs ∧ VRs K L m H xs l := by
  cases r with
  | lst q n r => cases e; exact ⟨_, _, rfl, .of q, r⟩
  | inp q n r => cases e; exact ⟨_, _, rfl, .inl q, r⟩
  | inpK q r => cases e; exact ⟨_, _, rfl, .inr q, r⟩
  | @loc a n q =>
    simp only [lstOf] at e
    cases e2 : h[n]? with
    | none => rw [e2] at e; cases e
    | some o =>
      rw [e2] at e
      cases o with
      | lst l' =>
        cases e
        obtain ⟨xs, q1, r1⟩ := R.at_ n _ a e2 q
        exact ⟨a, xs, rfl, .of q1, r1⟩
      | ins _ _ => cases e
      | dct _ => cases e
  | _ => cases e
theorem VR.trk (R : RH K L m H h) {l : List D} (r : VR K L m H v d) (e : trkOf h d = some l) : ∃ a xs, v = .ref a ∧ H a = some (.lst xs) ∧ VRs K L m H xs l := by
  cases r with
  | lst q n r => cases e; exact ⟨_, _, rfl, q, r⟩
  | @loc a n q =>
    simp only [trkOf] at e
    cases e2 : h[n]? with
    | none => rw [e2] at e; cases e
    | some o =>
      rw [e2] at e
      cases o with
      | lst l' =>
        cases e
        obtain ⟨xs, q1, r1⟩ := R.at_ n _ a e2 q
        exact ⟨a, xs, rfl, q1, r1⟩
      | ins _ _ => cases e
      | dct _ => cases e
  | _ => cases e
theorem VR.seq (R : RH K L m H h) {l : List D} (r : VR K L m H v d) (e : seqOf h d = some l) : ∃ a xs, v = .ref a ∧ (SqL K H a xs ∨ SqT K H a xs) ∧ VRs K L m H xs l := by
  cases r with
  | tup q r => cases e; exact ⟨_, _, rfl, .inr q, r⟩
  | lst q n r => cases e; exact ⟨_, _, rfl, .inl (.inl (.inl q)), r⟩
  | inp q n r => cases e; exact ⟨_, _, rfl, .inl (.inl q), r⟩
  | inpK q r => cases e; exact ⟨_, _, rfl, .inl (.inr q), r⟩
  | @loc a n q =>
    obtain ⟨a', xs, e1, q1, r1⟩ := VR.list (d := .loc n) R (.loc q) (show lstOf h (.loc n) = some l from e)
    exact ⟨a', xs, e1, .inl q1, r1⟩
  | _ => cases e
end
end MM
namespace MM
open PySem PySem.Spec PyProof.Rows L2

/-! ### does a piece of the text stand for a piece of the IR? -/
/-- what the text's top provides, by names -/
structure Gam where
  gname : Fn → String
  isG : Fn → Bool
  gls : List (String × D)
  tabs : List (String × List (D × D))
  /-- the class of the text's own errors is there -/
  hasW : Bool := false
  hasN : Bool := false

def visB (sc : Scope) (x : Str) : Bool := match sc.names.lookup x with
  | some .local => true
  | some .cell => true
  | some .free => true
  | _ => false
def globB (sc : Scope) (x : Str) : Bool := match sc.names.lookup x with
  | some .globalImplicit => true
  | _ => false
def locB (sc : Scope) (x : Str) : Bool := match sc.names.lookup x with
  | some .local => true
  | some .cell => true
  | _ => false
def onlyLoc (sc : Scope) (x : Str) : Bool := match sc.names.lookup x with
  | some .local => true
  | _ => false
def plainName (x : Str) : Bool := !(x == ("__debug__" : Str)) && !(x == ("__classdict__" : Str)) && !(x == ("__name__" : Str))
def isStr (x : Str) (s : String) : Bool := decide (x = Str.ofString s)
def isGlobal (sc : Scope) (e : Expr) (s : String) : Bool := match e with
  | .Name x _ => isStr x s && globB sc x && plainName x
  | _ => false
def isSlot (N : List Str) (sc : Scope) (e : Expr) (i : Nat) : Bool := match e with
  | .Name x _ => decide (N[i]? = some x) && visB sc x && plainName x
  | _ => false
def okBin (o : BinO) (p : Operator) : Bool := match o, p with
  | .add, .Add | .sub, .Sub | .mul, .Mult | .div, .FloorDiv | .mod, .Mod => true
  | _, _ => false
def okCmp (o : CmpO) (p : CmpOp) : Bool := match o, p with
  | .lt, .Lt | .le, .LtE | .gt, .Gt | .ge, .GtE | .eq, .Eq | .ne, .NotEq => true
  | _, _ => false
def biName : BI → String
  | .len => "len" | .tuple => "tuple" | .list => "list" | .listm => "list" | .all => "all" | .any => "any" | .max2 => "max" | .min2 => "min"
  | .maxd => "max" | .int => "int" | .str => "str" | .ord => "ord" | .dict => "dict"
def beqTab : List (D × D) → List (D × D) → Bool
  | [], [] => true
  | a :: x, b :: y => beqD a.1 b.1 && beqD a.2 b.2 && beqTab x y
  | _, _ => false
def glIn (G : Gam) (x : String) (d : D) : Bool := G.gls.any fun p => decide (p.1 = x) && beqD p.2 d
def tabIn (G : Gam) (x : String) (t : List (D × D)) : Bool := G.tabs.any fun p => decide (p.1 = x) && beqTab p.2 t
/-- a method call on one line -/
def oneLine (a c : Pos) : Bool := a.endLine == c.line
def notSlice (e : Expr) : Bool := match e with
  | .Slice .. => false
  | .Tuple .. => false
  | _ => true
def notStar : Expr → Bool
  | .Starred .. => false
  | _ => true
def notSet : Expr → Bool
  | .Set .. => false
  | _ => true
def plainBase : Expr → Bool
  | .Call (.Name ..) [] [] _ => false
  | _ => true
def biOk : BI → Bool
  | .maxd | .dict => false
  | _ => true
def tOk : IE → Bool
  | .and a b => tOk a && tOk b
  | .or a b => tOk a && tOk b
  | .not a => tOk a
  | .ife .. => false
  | _ => true
def isYes : IE → Bool
  | .bl true => true
  | _ => false
def tgNames : Expr → Option (List Str)
  | .Name x _ => some [x]
  | .Tuple es _ _ => es.mapM fun e => match e with
    | .Name x _ => some x
    | _ => none
  | _ => none
def tgSlots : Tg → List Nat
  | .one i => [i]
  | .tup is => is
/-- a target: local names in these slots -/
def chkNames (N : List Str) (sc : Scope) : List Nat → List Expr → Bool
  | [], [] => true
  | i :: is, e :: es => (match e with
    | .Name x _ => decide (N[i]? = some x) && onlyLoc sc x
    | _ => false) && chkNames N sc is es
  | _, _ => false
def chkNamesC (N : List Str) (sc : Scope) : List Nat → List Expr → Bool
  | [], [] => true
  | i :: is, e :: es => (match e with
    | .Name x _ => decide (N[i]? = some x) && locB sc x
    | _ => false) && chkNamesC N sc is es
  | _, _ => false
def chkTg (N : List Str) (sc : Scope) (t : Tg) (e : Expr) : Bool := match t with
  | .one i => chkNames N sc [i] [e]
  | .tup is => (match e with
    | .Tuple es _ _ => chkNames N sc is es
    | _ => false)
def chkTgC (N : List Str) (sc : Scope) (t : Tg) (e : Expr) : Bool := match t with
  | .one i => chkNamesC N sc [i] [e]
  | .tup is => (match e with
    | .Tuple es _ _ => chkNamesC N sc is es
    | _ => false)
def blkB (N : List Str) (sc scope : Scope) (own : List (Str × Nat)) : Bool :=
  decide (scope.kind = .function) && (scope.names.all fun y => decide (scope.names.lookup y.1 = some y.2)) &&
  (own.all fun p => decide (N[p.2]? = some p.1)) &&
  (scope.names.all fun y => !decide (y.2 = .free) || (decide (sc.names.lookup y.1 = some .cell) || decide (sc.names.lookup y.1 = some .free))) &&
  (scope.names.all fun y => !(decide (y.2 = .local) || decide (y.2 = .cell)) || (decide (y.1 ∈ own.map (·.1)) || decide (y.1 ∉ N)))
def ownOf (N : List Str) (t : Tg) : List (Str × Nat) := (tgSlots t).filterMap fun i => (N[i]?).map fun x => (x, i)

section
variable (G : Gam) (N : List Str)
mutual
def chkE : IE → Scope → Expr → Bool
  | .var i, sc, e => isSlot N sc e i
  | .int z, _, e => (match e with
    | .Constant (.int j) _ _ => decide (j = z)
    | _ => false)
  | .neg n, _, e => (match e with
    | .UnaryOp .USub (.Constant (.int j) _ _) _ => decide (j = (n : Int))
    | _ => false)
  | .str s, _, e => (match e with
    | .Constant (.str x) _ _ => isStr x s
    | _ => false)
  | .bl b, _, e => (match e with
    | .Constant (.bool c) _ _ => b == c
    | _ => false)
  | .non, _, e => (match e with
    | .Constant .none _ _ => true
    | _ => false)
  | .gl x d, sc, e => isGlobal sc e x && glIn G x d
  | .tup es, sc, e => (match e with
    | .Tuple l _ _ => chkEs es sc l && decide (l.length ≤ 64)
    | _ => false)
  | .lst es, sc, e => (match e with
    | .List l _ => chkEs es sc l && decide (l.length ≤ 64)
    | _ => false)
  | .mk es, sc, e => (match e with
    | .List l _ => chkEs es sc l && decide (l.length ≤ 64)
    | _ => false)
  | .bin o a b, sc, e => (match e with
    | .BinOp x p y _ => okBin o p && chkE a sc x && chkE b sc y
    | _ => false)
  | .cmp o a b, sc, e => (match e with
    | .Compare x ops ys _ => (match ops, ys with
      | [p], [y] => okCmp o p && chkE a sc x && chkE b sc y
      | _, _ => false)
    | _ => false)
  | .isN a, sc, e => (match e with
    | .Compare x ops ys _ => (match ops, ys with
      | [.Is], [.Constant .none _ _] => chkE a sc x
      | _, _ => false)
    | _ => false)
  | .notN a, sc, e => (match e with
    | .Compare x ops ys _ => (match ops, ys with
      | [.IsNot], [.Constant .none _ _] => chkE a sc x
      | _, _ => false)
    | _ => false)
  | .isin a b, sc, e => (match e with
    | .Compare x ops ys _ => (match ops, ys with
      | [.In], [y] => notSet y && chkE a sc x && chkE b sc y
      | _, _ => false)
    | _ => false)
  | .notin a b, sc, e => (match e with
    | .Compare x ops ys _ => (match ops, ys with
      | [.NotIn], [y] => notSet y && chkE a sc x && chkE b sc y
      | _, _ => false)
    | _ => false)
  | .isnil a, sc, e => (match e with
    | .Compare x ops ys _ => (match ops, ys with
      | [.Eq], [.List [] _] => chkE a sc x
      | _, _ => false)
    | _ => false)
  | .notnil a, sc, e => (match e with
    | .Compare x ops ys _ => (match ops, ys with
      | [.NotEq], [.List [] _] => chkE a sc x
      | _, _ => false)
    | _ => false)
  | .chain a o1 b o2 c, sc, e => (match e with
    | .Compare x ops ys _ => (match ops, ys with
      | [p, q], [y, z] => okCmp o1 p && okCmp o2 q && chkE a sc x && chkE b sc y && chkE c sc z
      | _, _ => false)
    | _ => false)
  | .gin n t a, sc, e => (match e with
    | .Compare x ops ys _ => (match ops, ys with
      | [.In], [y] => chkE a sc x && isGlobal sc y n && tabIn G n t
      | _, _ => false)
    | _ => false)
  | .gnin n t a, sc, e => (match e with
    | .Compare x ops ys _ => (match ops, ys with
      | [.NotIn], [y] => chkE a sc x && isGlobal sc y n && tabIn G n t
      | _, _ => false)
    | _ => false)
  | .gget n t a, sc, e => (match e with
    | .Subscript x y _ => isGlobal sc x n && tabIn G n t && chkE a sc y && notSlice y
    | _ => false)
  | .and a b, sc, e => (match e with
    | .BoolOp .And l pos => (match l with
      | x :: y :: r => chkE a sc x && (match r with
        | [] => chkE b sc y
        | _ :: _ => chkE b sc (.BoolOp .And (y :: r) pos))
      | _ => false)
    | _ => false)
  | .or a b, sc, e => (match e with
    | .BoolOp .Or l pos => (match l with
      | x :: y :: r => chkE a sc x && (match r with
        | [] => chkE b sc y
        | _ :: _ => chkE b sc (.BoolOp .Or (y :: r) pos))
      | _ => false)
    | _ => false)
  | .not a, sc, e => (match e with
    | .UnaryOp .Not x _ => chkE a sc x
    | _ => false)
  | .ife c a b, sc, e => (match e with
    | .IfExp z x y _ => tOk c && chkE c sc z && chkE a sc x && chkE b sc y
    | _ => false)
  | .idx a b, sc, e => (match e with
    | .Subscript x y _ => chkE a sc x && chkE b sc y && notSlice y
    | _ => false)
  | .sl2 a lo hi, sc, e => (match e with
    | .Subscript x (.Slice (some y) (some z) none _) _ => chkE a sc x && chkE lo sc y && chkE hi sc z
    | _ => false)
  | .slF a lo, sc, e => (match e with
    | .Subscript x (.Slice (some y) none none _) _ => chkE a sc x && chkE lo sc y
    | _ => false)
  | .slT a hi, sc, e => (match e with
    | .Subscript x (.Slice none (some z) none _) _ => chkE a sc x && chkE hi sc z
    | _ => false)
  | .bi b es, sc, e => (match e with
    | .Call f l kw _ => isGlobal sc f (biName b) && chkEs es sc l && !l.isEmpty && kw.isEmpty && biOk b
    | _ => false)
  | .call f es, sc, e => (match e with
    | .Call g l kw _ => isGlobal sc g (G.gname f) && G.isG f && chkEs es sc l && !l.isEmpty && kw.isEmpty
    | _ => false)
  | .app a x, sc, e => (match e with
    | .Call (.Attribute o m ap) l kw pos => isStr m "append" && oneLine ap pos && plainBase o && kw.isEmpty && chkE a sc o && (match l with
      | [y] => notStar y && chkE x sc y
      | _ => false)
    | _ => false)
  | .ext a x, sc, e => (match e with
    | .Call (.Attribute o m ap) l kw pos => isStr m "extend" && oneLine ap pos && plainBase o && kw.isEmpty && chkE a sc o && (match l with
      | [y] => notStar y && chkE x sc y
      | _ => false)
    | _ => false)
  | .cnt a x, sc, e => (match e with
    | .Call (.Attribute o m ap) l kw pos => isStr m "count" && oneLine ap pos && plainBase o && kw.isEmpty && chkE a sc o && (match l with
      | [y] => notStar y && chkE x sc y
      | _ => false)
    | _ => false)
  | .index a x, sc, e => (match a with
    | .gl g (.tup t) => (match e with
      | .Call (.Attribute o m ap) l kw pos => isStr m "index" && oneLine ap pos && plainBase o && kw.isEmpty && isGlobal sc o g && glIn G g (.tup t) && (match l with
        | [y] => notStar y && chkE x sc y
        | _ => false)
      | _ => false)
    | _ => false)
  | .pop a, sc, e => (match e with
    | .Call (.Attribute o m ap) l kw pos => isStr m "pop" && oneLine ap pos && plainBase o && kw.isEmpty && l.isEmpty && chkE a sc o
    | _ => false)
  | .join a x, sc, e => (match e with
    | .Call (.Attribute o m ap) l kw pos => isStr m "join" && oneLine ap pos && plainBase o && kw.isEmpty && chkE a sc o && (match l with
      | [y] => notStar y && chkE x sc y
      | _ => false)
    | _ => false)
  | .lc x own t s elt cond, sc, e => (match e with
    | .ListComp y gens scope pos => !x && (match gens with
      | [⟨tg, it, ifs, isa⟩] => decide (isa = 0) && chkTg N (relS scope sc) t tg && blkB N sc scope (ownOf N t) && decide ((ownOf N t).map (·.2) = tgSlots t) && notSet it && chkSrc s sc it &&
        (match ifs with
          | [] => isYes cond
          | [c] => tOk cond && chkE cond (relS scope sc) c
          | _ => false) && chkE elt (relS scope sc) y
      | _ => false)
    | _ => false)
  | _, _, _ => false
def chkEs : IEs → Scope → List Expr → Bool
  | .nil, _, l => l.isEmpty
  | .cons a r, sc, l => (match l with
    | x :: y => notStar x && chkE a sc x && chkEs r sc y
    | [] => false)
def chkSrc : Src → Scope → Expr → Bool
  | .sq a, sc, e => chkE a sc e && (match e with
    | .Set .. => false
    | _ => true)
  | .rng a b, sc, e => (match e with
    | .Call f l kw _ => isGlobal sc f "range" && kw.isEmpty && (match l with
      | [x, y] => notStar x && notStar y && chkE a sc x && chkE b sc y
      | _ => false)
    | _ => false)
  | .rng1 b, sc, e => (match e with
    | .Call f l kw _ => isGlobal sc f "range" && kw.isEmpty && (match l with
      | [y] => notStar y && chkE b sc y
      | _ => false)
    | _ => false)
  | .sgns a, sc, e => chkE a sc e && (match e with
    | .Name .. => true
    | _ => false)
  | _, _, _ => false
end
end
end MM
namespace MM
open PySem PySem.Spec PyProof.Rows L2

/-! ### operations on values -/
section
variable {K : PySem.W.Frag} {L : Pl} {W : WX} {σ : L2.St} {Q : VK} {m m' : List Addr} {H H' : Hp} {h h' : AH} {v x y z : V} {d : D} {vs : List V} {xs : List D} {δ : Slots} {a p : Addr}

/-- what is to come of it, when nothing is raised -/
def Yes (K : PySem.W.Frag) (L : Pl) (m : List Addr) (H : Hp) (Q : VK) (d : D) (h' : AH) : Prop :=
  ∀ m' v H', Ext m m' H → RH K L m' H' h' → VR K L m' H' v d → Keep m H H' → Q v H'
theorem Yes.here (q : Yes K L m H Q d h) (R : RH K L m H h) (r : VR K L m H v d) : Q v H := q m v H Ext.refl R r Keep.refl
theorem Yes.tup {l : List D} (q : Yes K L m H Q (.tup l) h) (R : RH K L m H h) (r : VRs K L m H vs l) (n : H p = none) : Q (.ref p) (upd H p (.tup vs)) :=
  q m (.ref p) _ Ext.refl (R.new n) (.tup (SqT.of upd_same) (r.keep R Ext.refl (Keep.new n))) (Keep.new n)
theorem Yes.lst {l : List D} (q : Yes K L m H Q (.lst l) h) (R : RH K L m H h) (r : VRs K L m H vs l) (n : H p = none) : Q (.ref p) (upd H p (.lst vs)) :=
  q m (.ref p) _ Ext.refl (R.new n) (.lst upd_same (R.off n) (r.keep R Ext.refl (Keep.new n))) (Keep.new n)
theorem Yes.loc {l : List D} (q : Yes K L m H Q (.loc h.length) (h ++ [.lst l])) (R : RH K L m H h) (r : VRs K L m H vs l) (n : H p = none) : Q (.ref p) (upd H p (.lst vs)) :=
  q (m ++ [p]) (.ref p) _ (Ext.one n) (R.add n ⟨vs, upd_same, r.keep R (Ext.one n) (Keep.new n)⟩) (.loc (by rw [← R.len]; exact List.getElem?_concat_length)) (Keep.new n)

def r1 (K : PySem.W.Frag) (L : Pl) (f : D → AH → Res D) : V → Hp → VK → Prop := fun x H Q => ∃ m h x' d h', RH K L m H h ∧ VR K L m H x x' ∧ f x' h = some (.ok d h') ∧ Yes K L m H Q d h'
def r2 (K : PySem.W.Frag) (L : Pl) (f : D → D → AH → Res D) : R2 := fun x y H Q => ∃ m h x' y' d h', RH K L m H h ∧ VR K L m H x x' ∧ VR K L m H y y' ∧ f x' y' h = some (.ok d h') ∧ Yes K L m H Q d h'
def r3 (K : PySem.W.Frag) (L : Pl) (f : D → D → D → AH → Res D) : V → V → V → Hp → VK → Prop := fun x y z H Q => ∃ m h x' y' z' d h', RH K L m H h ∧ VR K L m H x x' ∧ VR K L m H y y' ∧ VR K L m H z z' ∧ f x' y' z' h = some (.ok d h') ∧ Yes K L m H Q d h'
def rL (K : PySem.W.Frag) (L : Pl) (f : List D → AH → Res D) : List V → Hp → VK → Prop := fun vs H Q => ∃ m h xs d h', RH K L m H h ∧ VRs K L m H vs xs ∧ f xs h = some (.ok d h') ∧ Yes K L m H Q d h'

/-! steps of an evaluation -/
theorem VRs.nil_of (r : VRs K L m H [] xs) : xs = [] := by cases r; rfl
def Hold1 (K : PySem.W.Frag) (L : Pl) (W : WX) (σ : L2.St) (Q : VK) (f : Slots → D → AH → Res D) (x : V) (H : Hp) : Prop :=
  ∃ m δ h x' r, RH K L m H h ∧ RSl K L m H σ δ ∧ VR K L m H x x' ∧ f δ x' h = some r ∧ Fin K L W m H σ Q r
def Hold2 (K : PySem.W.Frag) (L : Pl) (W : WX) (σ : L2.St) (Q : VK) (f : Slots → D → D → AH → Res D) (x y : V) (H : Hp) : Prop :=
  ∃ m δ h x' y' r, RH K L m H h ∧ RSl K L m H σ δ ∧ VR K L m H x x' ∧ VR K L m H y y' ∧ f δ x' y' h = some r ∧ Fin K L W m H σ Q r
def Hold3 (K : PySem.W.Frag) (L : Pl) (W : WX) (σ : L2.St) (Q : VK) (f : Slots → D → D → D → AH → Res D) (x y z : V) (H : Hp) : Prop :=
  ∃ m δ h x' y' z' r, RH K L m H h ∧ RSl K L m H σ δ ∧ VR K L m H x x' ∧ VR K L m H y y' ∧ VR K L m H z z' ∧ f δ x' y' z' h = some r ∧ Fin K L W m H σ Q r
theorem step1 {ea : Slots → AH → Res D} {f : Slots → D → AH → Res D} (q : tE K L W (fun δ h => bindR (ea δ h) fun x h => f δ x h) σ H Q) :
    tE K L W ea σ H fun v H1 => Hold1 K L W σ Q f v H1 := by
  obtain ⟨m, δ, h, xs, r, R, S, V, e, g⟩ := q
  rcases bindR_some e with ⟨x, h1, e1, e2⟩ | ⟨ee, e1, rfl⟩
  · exact ⟨m, δ, h, [], _, R, S, .nil, e1, fun m1 v H1 x1 R1 r1 k1 => ⟨m1, δ, h1, x, r, R1, S.keep R x1 k1, r1, e2, g.mono R R1 x1 k1⟩⟩
  · exact ⟨m, δ, h, [], _, R, S, .nil, e1, g⟩
theorem step2 {f : Slots → D → D → AH → Res D} {x : V} {ev : Slots → AH → Res D} (q : Hold1 K L W σ Q (fun δ x h => bindR (ev δ h) fun y h => f δ x y h) x H) :
    tE K L W ev σ H fun v H1 => Hold2 K L W σ Q f x v H1 := by
  obtain ⟨m, δ, h, x', r, R, S, V, e, g⟩ := q
  rcases bindR_some e with ⟨y, h1, e1, e2⟩ | ⟨ee, e1, rfl⟩
  · exact ⟨m, δ, h, [], _, R, S, .nil, e1, fun m1 v H1 x1 R1 r1 k1 => ⟨m1, δ, h1, x', y, r, R1, S.keep R x1 k1, V.keep R x1 k1, r1, e2, g.mono R R1 x1 k1⟩⟩
  · exact ⟨m, δ, h, [], _, R, S, .nil, e1, g⟩
theorem step3 {f : Slots → D → D → D → AH → Res D} {x y : V} {ev : Slots → AH → Res D} (q : Hold2 K L W σ Q (fun δ x y h => bindR (ev δ h) fun z h => f δ x y z h) x y H) :
    tE K L W ev σ H fun v H1 => Hold3 K L W σ Q f x y v H1 := by
  obtain ⟨m, δ, h, x', y', r, R, S, V, V', e, g⟩ := q
  rcases bindR_some e with ⟨z, h1, e1, e2⟩ | ⟨ee, e1, rfl⟩
  · exact ⟨m, δ, h, [], _, R, S, .nil, e1, fun m1 v H1 x1 R1 r1 k1 => ⟨m1, δ, h1, x', y', z, r, R1, S.keep R x1 k1, V.keep R x1 k1, V'.keep R x1 k1, r1, e2, g.mono R R1 x1 k1⟩⟩
  · exact ⟨m, δ, h, [], _, R, S, .nil, e1, g⟩
/-- values in hand -/
def HoldL (K : PySem.W.Frag) (L : Pl) (W : WX) (σ : L2.St) (Q : VK) (f : Slots → List D → AH → Res D) (vs : List V) (H : Hp) : Prop :=
  ∃ m δ h xs r, RH K L m H h ∧ RSl K L m H σ δ ∧ VRs K L m H vs xs ∧ f δ xs h = some r ∧ Fin K L W m H σ Q r
theorem stepL {ea : Slots → AH → Res (List D)} {f : Slots → List D → AH → Res D} (q : tE K L W (fun δ h => bindR (ea δ h) fun x h => f δ x h) σ H Q) :
    tA K L W ea σ H fun us H1 => HoldL K L W σ Q f us H1 := by
  obtain ⟨m, δ, h, xs, r, R, S, V, e, g⟩ := q
  rcases bindR_some e with ⟨x, h1, e1, e2⟩ | ⟨ee, e1, rfl⟩
  · exact ⟨m, δ, h, _, R, S, e1, fun m1 v H1 x1 R1 r1 k1 => ⟨m1, δ, h1, x, r, R1, S.keep R x1 k1, r1, e2, g.mono R R1 x1 k1⟩⟩
  · exact ⟨m, δ, h, _, R, S, e1, g⟩
theorem Hold1.go {f : Slots → D → AH → Res D} {g : D → AH → Res D} (q : Hold1 K L W σ Q f x H) (e : ∀ δ x h, f δ x h = g x h) (n : ∀ x h e, g x h ≠ some (.ex e)) : r1 K L g x H Q := by
  obtain ⟨m, δ, h, x', r, R, S, V, e1, F⟩ := q
  rw [e] at e1
  cases r with
  | ok d h' => exact ⟨m, h, x', d, h', R, V, e1, F⟩
  | ex ee => exact absurd e1 (n _ _ _)
theorem Hold2.go {f : Slots → D → D → AH → Res D} {g : D → D → AH → Res D} (q : Hold2 K L W σ Q f x y H) (e : ∀ δ x y h, f δ x y h = g x y h) (n : ∀ x y h e, g x y h ≠ some (.ex e)) : r2 K L g x y H Q := by
  obtain ⟨m, δ, h, x', y', r, R, S, V, V', e1, F⟩ := q
  rw [e] at e1
  cases r with
  | ok d h' => exact ⟨m, h, x', y', d, h', R, V, V', e1, F⟩
  | ex ee => exact absurd e1 (n _ _ _ _)
theorem Hold3.go {f : Slots → D → D → D → AH → Res D} {g : D → D → D → AH → Res D} (q : Hold3 K L W σ Q f x y z H) (e : ∀ δ x y z h, f δ x y z h = g x y z h) (n : ∀ x y z h e, g x y z h ≠ some (.ex e)) : r3 K L g x y z H Q := by
  obtain ⟨m, δ, h, x', y', z', r, R, S, V, V', V'', e1, F⟩ := q
  rw [e] at e1
  cases r with
  | ok d h' => exact ⟨m, h, x', y', z', d, h', R, V, V', V'', e1, F⟩
  | ex ee => exact absurd e1 (n _ _ _ _ _)
theorem HoldL.go {f : Slots → List D → AH → Res D} {g : List D → AH → Res D} (q : HoldL K L W σ Q f vs H) (e : ∀ δ x h, f δ x h = g x h) (n : ∀ x h e, g x h ≠ some (.ex e)) : rL K L g vs H Q := by
  obtain ⟨m, δ, h, x', r, R, S, V, e1, F⟩ := q
  rw [e] at e1
  cases r with
  | ok d h' => exact ⟨m, h, x', d, h', R, V, e1, F⟩
  | ex ee => exact absurd e1 (n _ _ _)
theorem map_ne {α : Type} {o : Option α} {f : α → R D} (h : ∀ a e, f a ≠ .ex e) {e : Exc} : o.map f ≠ some (.ex e) := by
  cases o with
  | none => simp
  | some a => simpa using h a e
end

theorem sOf_len (s : List Nat) : (sOf s).length = s.length := by simp [sOf, Str.length]
theorem sOf_app (s t : List Nat) : sOf s ++ sOf t = sOf (s ++ t) := by
  show Str.mk (s.toArray ++ t.toArray) = Str.mk _
  simp
theorem beq_sOf (s t : List Nat) : (sOf s == sOf t) = (s == t) := by
  rw [Bool.eq_iff_iff]
  simp only [beq_iff_eq]
  exact ⟨sOf_inj, fun e => by rw [e]⟩
theorem szl_line : szl = sizeLine := rfl

section
variable {X : Cx} {L : Pl} {K : PySem.W.Frag} {m : List Addr} {H : Hp} {h : AH} {v : V} {d : D}
theorem some_ok {α : Type} {a b : α} {h h' : AH} (e : (some (.ok a h) : Res α) = some (.ok b h')) : a = b ∧ h = h' := by cases e; exact ⟨rfl, rfl⟩
theorem if_some {α : Type} {c : Prop} [Decidable c] {t : Option α} {r : α} (e : (if c then t else none) = some r) : c ∧ t = some r := by
  by_cases q : c
  · rw [if_pos q] at e; exact ⟨q, e⟩
  · rw [if_neg q] at e; cases e
theorem int2_some {x y : D} {f : Int → Int → Res D} {r : R D} (e : int2 x y f = some r) : ∃ i j, x = .int i ∧ y = .int j ∧ f i j = some r := by
  cases x <;> first | (cases y <;> first | exact ⟨_, _, rfl, rfl, e⟩ | cases e) | cases e
theorem cat_some {a b : D} {r : R D} (e : catR a b h = some r) : ∃ l1 l2, trkOf h a = some l1 ∧ trkOf h b = some l2 ∧ l1.length + l2.length ≤ szl ∧ r = .ok (.lst (l1 ++ l2)) h := by
  unfold catR at e
  rw [Option.bind_eq_some_iff] at e
  obtain ⟨l1, e1, e⟩ := e
  rw [Option.bind_eq_some_iff] at e
  obtain ⟨l2, e2, e⟩ := e
  obtain ⟨c, e⟩ := if_some e
  cases e
  exact ⟨l1, l2, e1, e2, c, rfl⟩
theorem rep_some {a b : D} {r : R D} (e : repR a b h = some r) : ∃ k l, b = .int k ∧ trkOf h a = some l ∧ (0 ≤ k ∧ k < 2 ^ 62 ∧ l.length * k.toNat ≤ szl) ∧ r = .ok (.lst (List.replicate k.toNat l).flatten) h := by
  cases b <;> first | (simp [repR] at e; done) | skip
  unfold repR at e
  simp only at e
  rw [Option.bind_eq_some_iff] at e
  obtain ⟨l1, e1, e⟩ := e
  obtain ⟨c, e⟩ := if_some e
  cases e
  exact ⟨_, l1, rfl, e1, c, rfl⟩
/-- a list of the program's own making, seen in the heap -/
theorem VR.trk' (R : RH K L m H h) {l : List D} (r : VR K L m H v d) (e : trkOf h d = some l) : ∃ a xs, v = .ref a ∧ H a = some (.lst xs) ∧ VRs K L m H xs l := VR.trk R r e
theorem VRs.rep {vs : List V} {ds : List D} (r : VRs K L m H vs ds) : ∀ n : Nat, VRs K L m H (List.replicate n vs).flatten (List.replicate n ds).flatten
  | 0 => .nil
  | n + 1 => by
    rw [List.replicate_succ, List.replicate_succ, List.flatten_cons, List.flatten_cons]
    exact r.append (VRs.rep r n)

theorem op_bin {o : BinO} {p : Operator} (ok : okBin o p = true) : OpR X (binaryOp p) (r2 X.K L (binR o)) := by
  intro pins s σ H x y v u Q I rx ry ⟨m, h, x', y', d, h', R, vx, vy, e, q⟩
  cases o <;> cases p <;> first | cases ok | skip
  · -- add
    show wpAny _ _ _ _ _ _
    cases x' with
    | int i =>
      cases y' with
      | int j => cases e; cases vx; cases vy; exact op_add pins s σ H _ _ v u Q I rx ry ⟨i, j, rfl, rfl, q.here R (.int _)⟩
      | _ => cases e
    | str a =>
      cases y' with
      | str b =>
        obtain ⟨c, e⟩ := if_some e
        cases e; cases vx; cases vy
        refine op_add_str pins s σ H _ _ v u Q I rx ry ⟨sOf a, sOf b, rfl, rfl, by rw [sOf_len, sOf_len]; exact c, ?_⟩
        rw [sOf_app]
        exact q.here R (.str _)
      | _ => cases e
    | tup a =>
      cases y' with
      | tup b =>
        obtain ⟨c, e⟩ := if_some e
        cases e
        obtain ⟨p1, xs, rfl, qx, rx'⟩ := vx.inv_tup
        obtain ⟨p2, ys, rfl, qy, ry'⟩ := vy.inv_tup
        refine op_catA pins s σ H _ _ v u Q I rx ry ⟨p1, p2, xs, ys, rfl, rfl, qx, qy, by rw [rx'.length, ry'.length]; exact c, fun z => ?_, fun _ z => ?_, fun _ _ p n => ?_⟩
        · subst z
          cases rx'
          exact q.here R (.tup qy ry')
        · subst z
          cases ry'
          exact q.here R (.tup qx (by rw [List.append_nil]; exact rx'))
        · exact q.tup R (rx'.append ry') n
      | _ => cases e
    | lst a =>
      obtain ⟨l1, l2, e1, e2, c, e⟩ := cat_some (a := .lst a) (b := y') (h := h) e
      cases e
      obtain ⟨p1, xs, rfl, qx, rx'⟩ := vx.trk R e1
      obtain ⟨p2, ys, rfl, qy, ry'⟩ := vy.trk R e2
      exact op_cat pins s σ H _ _ v u Q I rx ry ⟨p1, p2, xs, ys, rfl, rfl, qx, qy, by rw [rx'.length, ry'.length]; exact c, fun p n => q.lst R (rx'.append ry') n⟩
    | loc a =>
      obtain ⟨l1, l2, e1, e2, c, e⟩ := cat_some (a := .loc a) (b := y') (h := h) e
      cases e
      obtain ⟨p1, xs, rfl, qx, rx'⟩ := vx.trk R e1
      obtain ⟨p2, ys, rfl, qy, ry'⟩ := vy.trk R e2
      exact op_cat pins s σ H _ _ v u Q I rx ry ⟨p1, p2, xs, ys, rfl, rfl, qx, qy, by rw [rx'.length, ry'.length]; exact c, fun p n => q.lst R (rx'.append ry') n⟩
    | _ => cases e
  · -- sub
    obtain ⟨i, j, rfl, rfl, e⟩ := int2_some e
    cases e; cases vx; cases vy
    exact op_sub pins s σ H _ _ v u Q I rx ry ⟨i, j, rfl, rfl, q.here R (.int _)⟩
  · -- mul
    have rp : ∀ {y' : D} {l0 : D}, VR X.K L m H x l0 → VR X.K L m H y y' → repR l0 y' h = some (.ok d h') → wpAny (model X.prog X.w) X.A (binaryOp .Mult v u) (EP X pins σ Q) X.xe s := fun {y' l0} vx vy e => by
      obtain ⟨k, l1, rfl, e1, ⟨c1, c2, c3⟩, e⟩ := rep_some e
      cases e
      obtain ⟨p1, xs, rfl, qx, rx'⟩ := vx.trk R e1
      cases vy
      exact op_rep pins s σ H _ _ v u Q I rx ry ⟨p1, k, xs, rfl, rfl, qx, by omega, by omega, by rw [rx'.length]; exact c3, fun p n => q.lst R (rx'.rep _) n⟩
    cases x' with
    | int i =>
      cases y' with
      | int j =>
        obtain ⟨c, e⟩ := if_some e
        cases e; cases vx; cases vy
        exact op_mul pins s σ H _ _ v u Q I rx ry ⟨i, j, rfl, rfl, .inl c, q.here R (.int _)⟩
      | _ => cases e
    | lst a => exact rp vx vy e
    | loc a => exact rp vx vy e
    | _ => cases e
  · obtain ⟨i, j, rfl, rfl, e⟩ := int2_some e
    obtain ⟨c, e⟩ := if_some e
    cases e; cases vx; cases vy
    exact op_fdiv pins s σ H _ _ v u Q I rx ry ⟨i, j, rfl, rfl, c, q.here R (.int _)⟩
  · obtain ⟨i, j, rfl, rfl, e⟩ := int2_some e
    obtain ⟨c, e⟩ := if_some e
    cases e; cases vx; cases vy
    exact op_mod pins s σ H _ _ v u Q I rx ry ⟨i, j, rfl, rfl, c, q.here R (.int _)⟩
theorem bin_ne {o : BinO} {x y : D} {h : AH} {e : Exc} : binR o x y h ≠ some (.ex e) := by
  cases o <;> cases x <;> cases y <;> simp [binR, addR, mulR, int2, catR, repR, Option.bind_eq_some_iff] <;> intros <;> (try split) <;> simp

/-! equality of data -/
mutual
def toP : D → PyData
  | .non => .none
  | .bl b => .bool b
  | .int i => .int i
  | .str s => .str (sOf s)
  | .tup l => .tuple (toPs l)
  | .lst l => .list (toPs l)
  | .inp l => .list (toPs l)
  | .loc _ => .none
  | .fn _ => .none
def toPs : List D → List PyData
  | [] => []
  | d :: r => toP d :: toPs r
end
mutual
theorem vr_dp (R : RH K L m H h) : ∀ (d : D) (v : V), VR K L m H v d → pureD d = true → Dp K H v (toP d)
  | .non, _, r, _ => by cases r; exact .non
  | .bl b, _, r, _ => by cases r; exact .bl b
  | .int i, _, r, _ => by cases r; exact .int i
  | .str s, _, r, p => by cases r; exact .str _
  | .tup l, _, r, p => by
    obtain ⟨a, xs, rfl, q, rs⟩ := r.inv_tup
    exact .tup q (vrs_dp R l xs rs p)
  | .lst l, _, r, p => by
    obtain ⟨a, xs, rfl, q, n, rs⟩ := r.inv_lst
    exact .lst (.of q) (vrs_dp R l xs rs p)
  | .inp l, _, r, p => by
    cases r with
    | inp q n rs => exact .lst (.inl q) (vrs_dp R l _ rs p)
    | inpK q rs => exact .lst (.inr q) (vrs_dp R l _ rs p)
  | .loc _, _, _, p => by cases p
  | .fn _, _, _, p => by cases p
theorem vrs_dp (R : RH K L m H h) : ∀ (ds : List D) (vs : List V), VRs K L m H vs ds → pureDs ds = true → DpAll K H vs (toPs ds)
  | [], _, r, _ => by cases r; exact .nil
  | d :: ds, _, r, p => by
    cases r with
    | cons q rs =>
      simp only [pureDs, Bool.and_eq_true] at p
      exact .cons (vr_dp R d _ q p.1) (vrs_dp R ds _ rs p.2)
end
mutual
theorem lay_toP : ∀ d : D, pureD d = true → (toP d).canLay0 = true
  | .non, _ => rfl
  | .bl b, _ => rfl
  | .int i, _ => rfl
  | .str s, p => by
    show PyData.strOk _ = true
    simp only [pureD, List.all_eq_true, decide_eq_true_eq] at p
    simp only [PyData.strOk, sOf]
    rw [← Array.all_toList]
    simp only [List.all_eq_true, decide_eq_true_eq]
    intro c hc
    have := p c hc
    omega
  | .tup l, p => lay_toPs l p
  | .lst l, p => lay_toPs l p
  | .inp l, p => lay_toPs l p
  | .loc _, p => by cases p
  | .fn _, p => by cases p
theorem lay_toPs : ∀ d : List D, pureDs d = true → PyData.canLayAll0 (toPs d) = true
  | [], _ => rfl
  | d :: ds, p => by
    simp only [pureDs, Bool.and_eq_true] at p
    simp only [toPs, PyData.canLayAll0, lay_toP d p.1, lay_toPs ds p.2]
    rfl
end
mutual
theorem depth_toP : ∀ d : D, pureD d = true → (toP d).depth = depthD d
  | .non, _ => rfl
  | .bl b, _ => rfl
  | .int i, _ => rfl
  | .str s, p => rfl
  | .tup l, p => congrArg (· + 1) (depth_toPs l p)
  | .lst l, p => congrArg (· + 1) (depth_toPs l p)
  | .inp l, p => congrArg (· + 1) (depth_toPs l p)
  | .loc _, p => by cases p
  | .fn _, p => by cases p
theorem depth_toPs : ∀ d : List D, pureDs d = true → PyData.depthAll (toPs d) = depthDs d
  | [], _ => rfl
  | d :: ds, p => by
    simp only [pureDs, Bool.and_eq_true] at p
    simp only [toPs, PyData.depthAll, depthDs, depth_toP d p.1, depth_toPs ds p.2]
end
mutual
theorem eqv_toP : ∀ a b : D, pureD a = true → pureD b = true → PyData.eqv (toP a) (toP b) = eqD a b
  | a, b, p1, p2 => by
    cases a <;> first | (cases p1; done) | skip
    all_goals (cases b <;> first | (cases p2; done) | skip)
    all_goals first | rfl | (simp only [toP, PyData.eqv, eqD, beq_sOf]; done) | exact eqv_toPs _ _ p1 p2
theorem eqv_toPs : ∀ a b : List D, pureDs a = true → pureDs b = true → PyData.eqvAll (toPs a) (toPs b) = eqDs a b
  | [], [], _, _ => rfl
  | [], _ :: _, _, _ => rfl
  | _ :: _, [], _, _ => rfl
  | a :: as, b :: bs, p1, p2 => by
    simp only [pureDs, Bool.and_eq_true] at p1 p2
    simp only [toPs, PyData.eqvAll, eqDs, eqv_toP a b p1.1 p2.1, eqv_toPs as bs p1.2 p2.2]
end
end
end MM
namespace MM
open PySem PySem.Spec PyProof.Rows L2

section
variable {X : Cx} {L : Pl} {K : PySem.W.Frag} {m : List Addr} {H : Hp} {h : AH} {v x y : V} {d x' y' : D}

/-! ### comparing -/
theorem scal_dp (ra : VR K L m H x x') (c : isScal x' = true) : flatV x = true := by
  cases ra <;> first | rfl | cases c
/-- equal, as the kit says it of two values without parts -/
theorem eqV_eqD (ra : VR K L m H x x') (rb : VR K L m H y y') (c1 : isScal x' = true) (c2 : isScal y' = true) : eqV x y = eqD x' y' := by
  cases ra <;> first | cases c1 | skip
  all_goals (cases rb <;> first | cases c2 | skip)
  all_goals first | rfl | (simp only [eqV, eqD, beq_sOf])
theorem scal_dec (ra : VR K L m H x x') (rb : VR K L m H y y') (c1 : isScal x' = true) (c2 : isScal y' = true) (s : scal x y = true) : decide (x = y) = eqD x' y' := by
  cases ra <;> first | cases c1 | skip
  all_goals (cases rb <;> first | cases c2 | skip)
  all_goals first | cases s | skip
  all_goals first | rfl | (simp [eqD]; done) | skip
  · rw [dec_bl]; rfl
  · rw [dec_int]; rfl
  · rw [dec_str, beq_sOf]; rfl
def eqJ (K : PySem.W.Frag) (neg : Bool) (x y : V) (H : Hp) (b : Bool) : Prop :=
  (scal x y = true ∧ decide (x = y) = b) ∨ ∃ d e, Dp K H x d ∧ Dp K H y e ∧ SeqAt.shaped d = true ∧ d.depth ≤ 64 ∧ PyData.eqv d e = b ∧ e.canLay0 = true
theorem op_eqs (hu : X.A.units + 64 < cLine) : OpR X (compareOp .Eq) (r2 X.K L (fun x y h => (eqR x y).map fun c => .ok (.bl c) h)) ∧ OpR X (compareOp .NotEq) (r2 X.K L (fun x y h => (eqR x y).map fun c => .ok (.bl (!c)) h)) := by
  have key : ∀ {m H h x y x' y' b}, RH X.K L m H h → VR X.K L m H x x' → VR X.K L m H y y' → eqR x' y' = some b →
      (scal x y = true ∧ decide (x = y) = b) ∨ ∃ d e, Dp X.K H x d ∧ Dp X.K H y e ∧ d.canLay0 = true ∧ e.canLay0 = true ∧ min d.depth e.depth ≤ 64 ∧ PyData.eqv d e = b := by
    intro m H h x y x' y' b R vx vy e
    have pu : pureD x' = true → pureD y' = true → min (depthD x') (depthD y') ≤ 64 → eqD x' y' = b → (scal x y = true ∧ decide (x = y) = b) ∨ ∃ d e, Dp X.K H x d ∧ Dp X.K H y e ∧ d.canLay0 = true ∧ e.canLay0 = true ∧ min d.depth e.depth ≤ 64 ∧ PyData.eqv d e = b := fun p1 p2 p3 e =>
      .inr ⟨toP x', toP y', vr_dp R x' x vx p1, vr_dp R y' y vy p2, lay_toP x' p1, lay_toP y' p2, by rw [depth_toP x' p1, depth_toP y' p2]; exact p3, by rw [eqv_toP x' y' p1 p2]; exact e⟩
    unfold eqR at e
    by_cases c : (isScal x' && isScal y') = true
    · rw [if_pos c] at e
      cases e
      rw [Bool.and_eq_true] at c
      by_cases s : scal x y = true
      · exact .inl ⟨s, scal_dec vx vy c.1 c.2 s⟩
      · refine pu ?_ ?_ ?_ rfl
        all_goals (cases vx <;> first | cases c.1 | skip)
        all_goals (cases vy <;> first | cases c.2 | skip)
        all_goals first | exact absurd rfl s | rfl | exact Nat.zero_le _
    · rw [if_neg c] at e
      obtain ⟨c, e⟩ := if_some e
      rw [Bool.and_eq_true, Bool.and_eq_true, decide_eq_true_eq] at c
      cases e
      exact pu c.1.1 c.1.2 c.2 rfl
  constructor
  · intro pins s σ H x y v u Q I rx ry ⟨m, h, x', y', d, h', R, vx, vy, e, q⟩
    rw [Option.map_eq_some_iff] at e
    obtain ⟨b, e, e2⟩ := e
    cases e2
    rcases key R vx vy e with ⟨s1, e1⟩ | ⟨d, e, h1, h2, c1, c2, c3, e1⟩
    · exact op_eq pins s σ H x y v u Q I rx ry ⟨s1, by rw [e1]; exact q.here R (.bl _)⟩
    · obtain ⟨as, r1⟩ := Dp.reads I d x v h1 rx
      obtain ⟨bs, r2⟩ := Dp.reads I e y u h2 ry
      exact SeqAt.compareEq_reads r1 r2 c1 c2 (by omega) ⟨.bl _, H, I, rfl, by rw [e1]; exact q.here R (.bl _)⟩
  · intro pins s σ H x y v u Q I rx ry ⟨m, h, x', y', d, h', R, vx, vy, e, q⟩
    rw [Option.map_eq_some_iff] at e
    obtain ⟨b, e, e2⟩ := e
    cases e2
    rcases key R vx vy e with ⟨s1, e1⟩ | ⟨d, e, h1, h2, c1, c2, c3, e1⟩
    · exact op_ne pins s σ H x y v u Q I rx ry ⟨s1, by rw [e1]; exact q.here R (.bl _)⟩
    · obtain ⟨as, r1⟩ := Dp.reads I d x v h1 rx
      obtain ⟨bs, r2⟩ := Dp.reads I e y u h2 ry
      exact SeqAt.compareNe_reads r1 r2 c1 c2 (by omega) ⟨.bl _, H, I, rfl, by rw [e1]; exact q.here R (.bl _)⟩
theorem cmpI_some {f : Int → Int → Bool} {a b : D} {c : Bool} (e : cmpI a b f = some c) : ∃ i j, a = .int i ∧ b = .int j ∧ f i j = c := by
  cases a <;> first | (cases e; done) | skip
  cases b <;> first | (cases e; done) | skip
  exact ⟨_, _, rfl, rfl, by simpa [cmpI] using e⟩
def cmpF (o : CmpO) (x y : D) (h : AH) : Res D := (cmpR o h x y).map fun c => .ok (.bl c) h
theorem op_cmp {o : CmpO} {p : CmpOp} (ok : okCmp o p = true) (hu : X.A.units + 64 < cLine) : OpR X (compareOp p) (r2 X.K L (cmpF o)) := by
  intro pins s σ H x y v u Q I rx ry hh
  cases o <;> cases p <;> first | (cases ok; done) | skip
  case eq.Eq => exact (op_eqs hu).1 pins s σ H x y v u Q I rx ry hh
  case ne.NotEq =>
    obtain ⟨m, h, x', y', d, h', R, vx, vy, e, q⟩ := hh
    refine (op_eqs hu).2 pins s σ H x y v u Q I rx ry ⟨m, h, x', y', d, h', R, vx, vy, ?_, q⟩
    rw [← e]
    show _ = ((eqR x' y').map (!·)).map _
    rw [Option.map_map]
    rfl
  all_goals
    obtain ⟨m, h, x', y', d, h', R, vx, vy, e, q⟩ := hh
    obtain ⟨c, e1, e2⟩ := Option.map_eq_some_iff.mp e
    obtain ⟨i, j, rfl, rfl, e3⟩ := cmpI_some e1
    cases e2; subst e3; cases vx; cases vy
  · exact op_lt pins s σ H _ _ v u Q I rx ry ⟨i, j, rfl, rfl, q.here R (.bl _)⟩
  · exact op_le pins s σ H _ _ v u Q I rx ry ⟨i, j, rfl, rfl, q.here R (.bl _)⟩
  · exact op_gt pins s σ H _ _ v u Q I rx ry ⟨i, j, rfl, rfl, q.here R (.bl _)⟩
  · exact op_ge pins s σ H _ _ v u Q I rx ry ⟨i, j, rfl, rfl, q.here R (.bl _)⟩
theorem okCmp_mark {o : CmpO} {p : CmpOp} (ok : okCmp o p = true) (b : Expr) : behindInMarks p b = false := by
  cases o <;> cases p <;> first | (cases ok; done) | exact nomark _
/-- l == [], l != [] -/
def nilF (neg : Bool) (x : D) (h : AH) : Res D := (lstOf h x).map fun l => .ok (.bl (if neg then !l.isEmpty else l.isEmpty)) h
theorem op_nil (hu : X.A.units < cLine) : OpR X (compareOp .Eq) (fun x y H Q => ∃ a p xs, x = .ref a ∧ y = .ref p ∧ SqL X.K H a xs ∧ H p = some (.lst []) ∧ Q (.bl xs.isEmpty) H) := by
  intro pins s σ H x y v u Q I rx ry ⟨a, p, xs, e1, e2, h1, h2, q⟩
  subst e1 e2
  cases rx; cases ry
  obtain ⟨its, r1, p1, _⟩ := I.list h1
  obtain ⟨its2, r2, p2, _⟩ := I.list (.of h2)
  have e2 : its2 = [] := by cases its2 with
    | nil => rfl
    | cons a b => have := r2.length; simp at this
  subst e2
  cases xs with
  | nil =>
    have e1 : its = [] := by cases its with
      | nil => rfl
      | cons a b => have := r1.length; simp at this
    subst e1
    exact SeqAt.eq_listAt (e := fun _ => true) p1.isList p2.isList rfl hu (fun j h1 _ => by simp at h1) ⟨.bl true, H, I, rfl, q⟩
  | cons x xs =>
    refine SeqAt.eq_list_lengthsAt p1.isList p2.isList ?_ hu ⟨.bl false, H, I, rfl, q⟩
    have := r1.length
    simp at this ⊢
    cases its with
    | nil => simp at this
    | cons => simp
theorem op_notnil (hu : X.A.units < cLine) : OpR X (compareOp .NotEq) (fun x y H Q => ∃ a p xs, x = .ref a ∧ y = .ref p ∧ SqL X.K H a xs ∧ H p = some (.lst []) ∧ Q (.bl (!xs.isEmpty)) H) := by
  intro pins s σ H x y v u Q I rx ry ⟨a, p, xs, e1, e2, h1, h2, q⟩
  subst e1 e2
  cases rx; cases ry
  obtain ⟨its, r1, p1, _⟩ := I.list h1
  obtain ⟨its2, r2, p2, _⟩ := I.list (.of h2)
  have e2 : its2 = [] := by cases its2 with
    | nil => rfl
    | cons a b => have := r2.length; simp at this
  subst e2
  cases xs with
  | nil =>
    have e1 : its = [] := by cases its with
      | nil => rfl
      | cons a b => have := r1.length; simp at this
    subst e1
    exact SeqAt.RcNeAt.lists (e := fun _ => true) p1.isList p2.isList rfl hu (fun j h1 _ => by simp at h1) _ _ _ _ ⟨.bl false, H, I, rfl, q⟩
  | cons x xs =>
    refine SeqAt.RcNeAt.lists_lengths p1.isList p2.isList ?_ hu _ _ _ _ ⟨.bl true, H, I, rfl, q⟩
    have := r1.length
    simp at this ⊢
    cases its with
    | nil => simp at this
    | cons => simp
/-- x in seq -/
theorem any_in {xs : List V} {l : List D} (R : VRs K L m H xs l) (rx : VR K L m H x x') (c : isScal x' = true) (cs : l.all isScal = true) : (inV x xs = l.any fun z => eqD z x') ∧ xs.all flatV = true := by
  induction l generalizing xs with
  | nil => cases R; exact ⟨rfl, rfl⟩
  | cons d l ih =>
    cases R with
    | cons r rs =>
      simp only [List.all_cons, Bool.and_eq_true] at cs
      obtain ⟨e1, e2⟩ := ih rs cs.2
      constructor
      · simp only [inV, List.any_cons] at e1 ⊢
        rw [eqV_eqD r rx cs.1 c, e1]
      · simp only [List.all_cons, e2, scal_dp r cs.1]
        rfl
def inF (neg : Bool) (x y : D) (h : AH) : Res D := match seqOf h y with
  | some l => if isScal x && l.all isScal then some (.ok (.bl (if neg then !(l.any fun z => eqD z x) else l.any fun z => eqD z x)) h) else none
  | none => none
theorem op_in {neg : Bool} {p : CmpOp} (e : p = if neg then .NotIn else .In) : OpR X (compareOp p) (r2 X.K L (inF neg)) := by
  intro pins s σ H x y v u Q I rx ry ⟨m, h, x', y', d, h', R, vx, vy, e1, q⟩
  unfold inF at e1
  cases e2 : seqOf h y' with
  | none => rw [e2] at e1; cases e1
  | some l =>
    rw [e2] at e1
    obtain ⟨c, e1⟩ := if_some e1
    rw [Bool.and_eq_true] at c
    cases e1
    obtain ⟨a, xs, rfl, sq, rs⟩ := vy.seq R e2
    obtain ⟨i1, i2⟩ := any_in rs vx c.1 c.2
    subst e
    cases neg with
    | true => exact op_notIn_seq pins s σ H _ _ v u Q I rx ry ⟨a, xs, rfl, sq, scal_dp vx c.1, i2, by rw [i1]; exact q.here R (.bl _)⟩
    | false => exact op_in_seq pins s σ H _ _ v u Q I rx ry ⟨a, xs, rfl, sq, scal_dp vx c.1, i2, by rw [i1]; exact q.here R (.bl _)⟩

/-! ### items, slices -/
theorem getI_atI {α : Type} (xs : List α) (i : Int) : getI xs i = atI xs i := by
  unfold getI atI ixN
  by_cases h0 : 0 ≤ i
  · rw [if_pos h0, if_pos h0]
    by_cases h1 : i < xs.length
    · rw [if_pos h1]; rfl
    · rw [if_neg h1, List.getElem?_eq_none (by omega)]; rfl
  · rw [if_neg h0, if_neg h0]
    by_cases h1 : -(xs.length : Int) ≤ i
    · rw [if_pos h1, if_pos h1]; rfl
    · rw [if_neg h1, if_neg h1]; rfl
def idxF (x y : D) (h : AH) : Res D := match y with
  | .int i => match x with
    | .str s => if s.length ≤ szl then (getI s i).map fun c => .ok (.str [c]) h else none
    | x => ((seqOf h x).bind fun l => getI l i).map fun d => .ok d h
  | _ => none
theorem VRs.getI' {vs : List V} {ds : List D} {i : Int} (r : VRs K L m H vs ds) (e : getI ds i = some d) : ∃ v, atI vs i = some v ∧ VR K L m H v d := by
  rw [← getI_atI]
  unfold getI at e ⊢
  rw [← r.length] at e
  split at e
  · rename_i c
    obtain ⟨v, e1, e2⟩ := r.get e
    exact ⟨v, by rw [if_pos c]; exact e1, e2⟩
  · rename_i c
    split at e
    · rename_i c2
      obtain ⟨v, e1, e2⟩ := r.get e
      exact ⟨v, by rw [if_neg c, if_pos c2]; exact e1, e2⟩
    · cases e
theorem ix_all : IxR X (r2 X.K L idxF) := by
  intro value slice pins s σ H x y v u Q I rx ry ⟨m, h, x', y', d, h', R, vx, vy, e, q⟩ es
  cases y' <;> first | (cases e; done) | skip
  rename_i i
  cases vy
  have sq : ((seqOf h x').bind fun l => getI l i).map (fun d => (MM.R.ok d h : MM.R D)) = some (.ok d h') → wpAny (model X.prog X.w) X.A (subscriptTail value slice v u) (EP X pins σ Q) X.xe s := fun e => by
    obtain ⟨d', e1, e2⟩ := Option.map_eq_some_iff.mp e
    obtain ⟨l, e3, e4⟩ := Option.bind_eq_some_iff.mp e1
    cases e2
    obtain ⟨a, xs, rfl, q1, rs⟩ := vx.seq R e3
    obtain ⟨w, g1, g2⟩ := rs.getI' e4
    refine ix_seq value slice pins s σ H _ _ v u Q I rx ry ?_ es
    rcases q1 with q1 | q1
    · exact .inl ⟨a, xs, i, w, rfl, rfl, q1, g1, q.here R g2⟩
    · exact .inr (.inl ⟨a, xs, i, w, rfl, rfl, q1, g1, q.here R g2⟩)
  cases x' with
  | str z =>
    obtain ⟨c, e⟩ := if_some e
    obtain ⟨n, e1, e2⟩ := Option.map_eq_some_iff.mp e
    cases e2
    cases vx
    refine ix_seq value slice pins s σ H _ _ v u Q I rx ry (.inr (.inr ⟨sOf z, i, n, rfl, rfl, by rw [sOf_len]; exact c, ?_, q.here R (.str [n])⟩)) es
    show atI z.toArray.toList i = some n
    rw [← getI_atI]
    exact e1
  | _ => exact sq e
theorem plainIx {e : Expr} (h : notSlice e = true) : PlainIx e := by
  intro o i
  cases e <;> first | rfl | cases h
theorem cutO_sIx (n d : Nat) (o : Option Int) : HT.sIx n d o = cutO n d o := by
  cases o with
  | none => rfl
  | some i => rfl
def rSl (K : PySem.W.Frag) (L : Pl) : V → Option Int → Option Int → Hp → VK → Prop := fun x lo hi H Q => ∃ m h x' d h', RH K L m H h ∧ VR K L m H x x' ∧ slR x' lo hi h = some (.ok d h') ∧ Yes K L m H Q d h'
theorem VRs.cut {vs : List V} {ds : List D} (r : VRs K L m H vs ds) (lo hi : Option Int) : VRs K L m H (cutV vs lo hi) (cutS ds lo hi) := by
  unfold cutV cutS MM.cut
  rw [r.length, cutO_sIx, cutO_sIx]
  exact (r.drop _).take _
theorem sl_all : SlR X (rSl X.K L) := by
  intro pins s σ H x v vl vu lo hi sl Q I rx hs pl pu ⟨m, h, x', d, h', R, vx, e, q⟩
  have go : (lstOf h x').map (fun l => (MM.R.ok (D.lst (cutS l lo hi)) h : MM.R D)) = some (.ok d h') → ∃ T id, typeLookup (.type T) "__getitem__" = pure (some (.builtin id)) ∧ s.TypeIs v T ∧ wpAny (model X.prog X.w) X.A (getItem v (.ref sl)) (EP X pins σ Q) X.xe s := fun e => by
    obtain ⟨l, e1, e2⟩ := Option.map_eq_some_iff.mp e
    cases e2
    obtain ⟨a, xs, rfl, q1, rs⟩ := vx.list R e1
    exact sl_list pins s σ H _ v vl vu lo hi sl Q I rx hs pl pu ⟨a, xs, rfl, q1, fun p n => q.lst R (rs.cut lo hi) n⟩
  cases x' with
  | tup l =>
    cases e
    obtain ⟨a, xs, rfl, q1, rs⟩ := vx.inv_tup
    refine sl_tupA pins s σ H _ v vl vu lo hi sl Q I rx hs pl pu ⟨a, xs, rfl, q1, fun ⟨z1, z2⟩ => ?_, fun _ p n => q.tup R (rs.cut lo hi) n⟩
    refine q.here R (.tup q1 ?_)
    rw [rs.length, cutO_sIx] at z1 z2
    unfold cutS MM.cut
    rw [z1, z2]
    simpa using rs
  | _ => exact go e
theorem sl_ne {x : D} {lo hi : Option Int} {h : AH} {e : Exc} : slR x lo hi h ≠ some (.ex e) := by
  cases x <;> simp [slR]
end
end MM
namespace MM
open PySem PySem.Spec PyProof.Rows L2

def biVal : BI → Value
  | .len => .builtin "len" | .tuple => .type "tuple" | .list => .type "list" | .listm => .type "list" | .all => .builtin "all" | .any => .builtin "any" | .max2 => .builtin "max" | .min2 => .builtin "min"
  | .maxd => .builtin "max" | .int => .type "int" | .str => .type "str" | .ord => .builtin "ord" | .dict => .type "dict"
theorem boot_bi : ∀ b, bootBuiltins (Str.ofString (biName b)) = some (biVal b) := by
  intro b
  cases b <;> decide +kernel

section
variable {X : Cx} {L : Pl} {K : PySem.W.Frag} {m : List Addr} {H : Hp} {h : AH} {v x y : V} {d x' y' : D}
theorem digits_toString (n : Nat) : digits n = (toString (n : Int)).toList.map Char.toNat := rfl
theorem bi1_some {vs : List D} {f : D → Res D} {r : R D} (e : bi1 vs f = some r) : ∃ d, vs = [d] ∧ f d = some r := by
  unfold bi1 at e
  split at e
  · exact ⟨_, rfl, e⟩
  · cases e
theorem bi2_some {vs : List D} {f : Int → Int → Res D} {r : R D} (e : bi2 vs f = some r) : ∃ i j, vs = [.int i, .int j] ∧ f i j = some r := by
  unfold bi2 at e
  split at e
  · split at e
    · split at e
      · exact ⟨_, _, rfl, e⟩
      · cases e
    · cases e
  · cases e
theorem VRs.one_of {vs : List V} (r : VRs K L m H vs [d]) : ∃ v, vs = [v] ∧ VR K L m H v d := by
  cases r with
  | cons q r => cases r; exact ⟨_, rfl, q⟩
theorem VRs.two_of {vs : List V} {e : D} (r : VRs K L m H vs [d, e]) : ∃ v w, vs = [v, w] ∧ VR K L m H v d ∧ VR K L m H w e := by
  cases r with
  | cons q r =>
    cases r with
    | cons q' r => cases r; exact ⟨_, _, rfl, q, q'⟩
theorem len_seq (R : RH K L m H h) (r : VR K L m H v d) {l : List D} (e : seqOf h d = some l) : LenV K v H l.length := by
  obtain ⟨a, xs, rfl, q, rs⟩ := r.seq R e
  rw [← rs.length]
  rcases q with q | q
  · exact .inl ⟨xs, q, rfl⟩
  · exact .inr ⟨xs, q, rfl⟩
theorem natAbs_log {i : Int} (h : 0 ≤ i ∧ i < 10 ^ 18) : i.natAbs.log2 < 1920 := by
  have h1 : i.natAbs < 2 ^ 64 := by omega
  by_cases z : i.natAbs = 0
  · rw [z]; decide
  · have := (Nat.log2_lt z).mpr h1
    omega
theorem lenOf_some {n : Nat} (e : lenOf h d = some n) : (∃ s, d = .str s ∧ s.length ≤ szl ∧ n = s.length) ∨ ∃ l, seqOf h d = some l ∧ n = l.length := by
  have go : (seqOf h d).map List.length = some n → (∃ s, d = .str s ∧ s.length ≤ szl ∧ n = s.length) ∨ ∃ l, seqOf h d = some l ∧ n = l.length := fun e => by
    obtain ⟨l, e1, e2⟩ := Option.map_eq_some_iff.mp e
    exact .inr ⟨l, e1, e2.symm⟩
  cases d with
  | str s =>
    obtain ⟨c, e⟩ := if_some e
    cases e
    exact .inl ⟨s, rfl, c, rfl⟩
  | _ => exact go e
theorem ordR_some {r : R D} (e : ordR d h = some r) : ∃ c, d = .str [c] ∧ r = .ok (.int c) h := by
  unfold ordR at e
  split at e
  · split at e
    · cases e; exact ⟨_, rfl, rfl⟩
    · cases e
  · cases e
theorem strR_some {r : R D} (e : strR d h = some r) : ∃ i, d = .int i ∧ (0 ≤ i ∧ i < 10 ^ 18) ∧ r = .ok (.str (digits i.toNat)) h := by
  unfold strR at e
  split at e
  · obtain ⟨c, e⟩ := if_some e
    cases e; exact ⟨_, rfl, c, rfl⟩
  · cases e
theorem dictR_ne {e : Exc} : dictR d h ≠ some (.ex e) := by
  unfold dictR
  split
  · split <;> simp
  · simp
theorem call_bi (hc : X.calm = true) (b : BI) (ok : biOk b = true) : CallR X (biVal b) (rL X.K L (biR b)) := by
  intro pins s σ H xs us Q I r ⟨m, h, ds, d, h', R, vr, e, q⟩
  cases b <;> first | (cases ok; done) | skip
  case len =>
    obtain ⟨d1, rfl, e⟩ := bi1_some e
    obtain ⟨v, rfl, rv⟩ := vr.one_of
    obtain ⟨n, e1, e2⟩ := Option.map_eq_some_iff.mp e
    cases e2
    refine call_len pins s σ H _ us Q I r ⟨v, n, rfl, ?_, q.here R (.int _)⟩
    rcases lenOf_some e1 with ⟨z, rfl, c, rfl⟩ | ⟨l, e3, rfl⟩
    · cases rv
      exact ⟨by rw [sOf_len]; exact c, by rw [sOf_len]⟩
    · exact len_seq R rv e3
  case tuple =>
    obtain ⟨d1, rfl, e⟩ := bi1_some e
    obtain ⟨v, rfl, rv⟩ := vr.one_of
    obtain ⟨l, e1, e2⟩ := Option.map_eq_some_iff.mp e
    cases e2
    obtain ⟨a, xs, rfl, sq, rs⟩ := rv.seq R e1
    refine call_tuple_of pins s σ H _ us Q I r ⟨a, xs, rfl, ?_⟩
    rcases sq with sq | sq
    · exact .inl ⟨sq, fun p n => q.tup R rs n⟩
    · exact .inr ⟨sq, q.here R (.tup sq rs)⟩
  case list =>
    obtain ⟨d1, rfl, e⟩ := bi1_some e
    obtain ⟨v, rfl, rv⟩ := vr.one_of
    obtain ⟨l, e1, e2⟩ := Option.map_eq_some_iff.mp e
    cases e2
    obtain ⟨a, xs, rfl, sq, rs⟩ := rv.seq R e1
    exact call_list_of pins s σ H _ us Q I r ⟨a, xs, rfl, sq, fun p n => q.lst R rs n⟩
  case listm =>
    obtain ⟨d1, rfl, e⟩ := bi1_some e
    obtain ⟨v, rfl, rv⟩ := vr.one_of
    obtain ⟨l, e1, e2⟩ := Option.map_eq_some_iff.mp e
    cases e2
    obtain ⟨a, xs, rfl, sq, rs⟩ := rv.seq R e1
    exact call_list_of pins s σ H _ us Q I r ⟨a, xs, rfl, sq, fun p n => q.loc R rs n⟩
  case all =>
    obtain ⟨d1, rfl, e⟩ := bi1_some e
    obtain ⟨v, rfl, rv⟩ := vr.one_of
    obtain ⟨bs, e1, e2⟩ := Option.map_eq_some_iff.mp e
    cases e2
    obtain ⟨l, e3, e4⟩ := Option.bind_eq_some_iff.mp e1
    obtain ⟨a, xs, rfl, sq, rs⟩ := rv.list R e3
    have := rs.bls e4
    subst this
    exact cr_all hc pins s σ H _ us Q I r ⟨a, bs, rfl, sq, q.here R (.bl _)⟩
  case any =>
    obtain ⟨d1, rfl, e⟩ := bi1_some e
    obtain ⟨v, rfl, rv⟩ := vr.one_of
    obtain ⟨bs, e1, e2⟩ := Option.map_eq_some_iff.mp e
    cases e2
    obtain ⟨l, e3, e4⟩ := Option.bind_eq_some_iff.mp e1
    obtain ⟨a, xs, rfl, sq, rs⟩ := rv.list R e3
    have := rs.bls e4
    subst this
    exact cr_any hc pins s σ H _ us Q I r ⟨a, bs, rfl, sq, q.here R (.bl _)⟩
  case max2 =>
    obtain ⟨i, j, rfl, e⟩ := bi2_some e
    obtain ⟨v, w, rfl, rv, rw'⟩ := vr.two_of
    cases rv; cases rw'; cases e
    exact call_max2 hc pins s σ H _ us Q I r ⟨i, j, rfl, q.here R (.int _)⟩
  case min2 =>
    obtain ⟨i, j, rfl, e⟩ := bi2_some e
    obtain ⟨v, w, rfl, rv, rw'⟩ := vr.two_of
    cases rv; cases rw'; cases e
    exact call_min2 hc pins s σ H _ us Q I r ⟨i, j, rfl, q.here R (.int _)⟩
  case int =>
    obtain ⟨d1, rfl, e⟩ := bi1_some e
    obtain ⟨v, rfl, rv⟩ := vr.one_of
    cases rv <;> first | (cases e; done) | skip
    · cases e
      exact call_int1 pins s σ H _ us Q I r (.inr ⟨_, rfl, q.here R (.int _)⟩)
    · cases e
      exact call_int1 pins s σ H _ us Q I r (.inl ⟨_, rfl, q.here R (.int _)⟩)
  case str =>
    obtain ⟨d1, rfl, e⟩ := bi1_some e
    obtain ⟨v, rfl, rv⟩ := vr.one_of
    obtain ⟨i, rfl, c, e⟩ := strR_some e
    cases e
    cases rv
    refine call_str_int pins s σ H _ us Q I r ⟨i, rfl, natAbs_log c, ?_⟩
    have e1 : (i.toNat : Int) = i := Int.toNat_of_nonneg c.1
    have e2 : Str.ofString (toString i) = sOf (digits i.toNat) := by
      rw [ofString_cds, digits_toString, e1]
      rfl
    rw [e2]
    exact q.here R (.str _)
  case ord =>
    obtain ⟨d1, rfl, e⟩ := bi1_some e
    obtain ⟨v, rfl, rv⟩ := vr.one_of
    obtain ⟨c, rfl, e⟩ := ordR_some e
    cases e
    cases rv
    exact call_ord pins s σ H _ us Q I r ⟨_, rfl, rfl, q.here R (.int _)⟩
theorem bi_ne {b : BI} {vs : List D} {h : AH} {e : Exc} : biR b vs h ≠ some (.ex e) := by
  intro z
  cases b
  case max2 => obtain ⟨_, _, rfl, z⟩ := bi2_some z; cases z
  case min2 => obtain ⟨_, _, rfl, z⟩ := bi2_some z; cases z
  all_goals obtain ⟨d, rfl, z⟩ := bi1_some z
  case int => cases d <;> cases z
  case str => obtain ⟨_, _, _, z⟩ := strR_some z; cases z
  case ord => obtain ⟨_, _, z⟩ := ordR_some z; cases z
  case dict => exact dictR_ne z
  all_goals exact map_ne (fun _ _ z => by cases z) z

/-! ### methods of lists, tuples, texts -/
def appF (x y : D) (h : AH) : Res D := match x with
  | .loc n => match h[n]? with
    | some (.lst l) => if l.length < szl then some (.ok .non (h.set n (.lst (l ++ [y])))) else none
    | _ => none
  | _ => none
def extF (x y : D) (h : AH) : Res D := match x with
  | .loc n => match h[n]?, extOf h y with
    | some (.lst l), some m => if l.length + m.length ≤ szl then some (.ok .non (h.set n (.lst (l ++ m)))) else none
    | _, _ => none
  | _ => none
def popF (x : D) (h : AH) : Res D := match x with
  | .loc n => match h[n]? with
    | some (.lst l) => (l.getLast?).map fun d => .ok d (h.set n (.lst l.dropLast))
    | _ => none
  | _ => none
def cntF (x y : D) (h : AH) : Res D := match (lstOf h x).bind allInt, y with
  | some l, .int k => some (.ok (.int (l.count k)) h)
  | _, _ => none
def ixF (x y : D) (h : AH) : Res D := match x, y with
  | .tup l, .int k => if l.all isScal then (l.findIdx? fun z => eqD z (.int k)).map fun (i : Nat) => .ok (.int (i : Int)) h else none
  | _, _ => none
def joinF (x y : D) (h : AH) : Res D := match x, (lstOf h y).bind allStr with
  | .str [], some l => if (l.flatten).length ≤ szl ∧ l.length ≤ szl then some (.ok (.str l.flatten) h) else none
  | _, _ => none

/-- what lies at a location -/
theorem VR.at_loc (R : RH K L m H h) {n : Nat} {o : HObj} (r : VR K L m H v (.loc n)) (e : h[n]? = some o) : ∃ a, v = .ref a ∧ m[n]? = some a ∧ HR K L m H a o := by
  obtain ⟨a, rfl, q⟩ := r.inv_loc
  exact ⟨a, rfl, q, R.at_ n o a e q⟩
theorem Yes.mut {Q : VK} {n : Nat} {a : Addr} {o : HO} {u : HObj} (q : Yes K L m H Q .non (h.set n u)) (R : RH K L m H h) (e : m[n]? = some a) (r : HR K L m (upd H a o) a u) : Q .non (upd H a o) :=
  q m .non _ Ext.refl (R.set e r) .non (Keep.mut (List.mem_of_getElem? e))
theorem mt_app : MtR X "list.append" (fun x vs H Q => ∃ y, vs = [y] ∧ r2 X.K L appF x y H Q) := by
  intro pins s σ H x vs v us Q I rx rs ⟨y, e0, m, h, x', y', d, h', R, vx, vy, e, q⟩
  subst e0
  unfold appF at e
  split at e
  · rename_i n
    split at e
    · rename_i l e1
      obtain ⟨c, e⟩ := if_some e
      cases e
      obtain ⟨a, rfl, e2, xs, e3, rl⟩ := vx.at_loc R e1
      refine mt_append pins s σ H _ _ v us Q I rx rs ⟨a, xs, y, rfl, rfl, e3, by rw [rl.length]; exact c, ?_⟩
      have hm := List.mem_of_getElem? e2
      exact q.mut R e2 ⟨_, upd_same, (rl.append (.cons vy .nil)).keep R Ext.refl (Keep.mut hm)⟩
    · cases e
  · cases e
open PySem.AutoSeq1 in
theorem ext_tup (l : Addr) (items : Array Value) (n : Nat) (b : Addr) (items2 : Array Value) (n2 : Nat) (dd : Option Addr) (sl : Array (Option Value)) (hs0 : ¬(!items.isEmpty && Builtin.List.listTooLong (items.size + items2.size)) = true) (hs1 : items.size ≤ sizeLine) (hs2 : items.size + items2.size ≤ sizeLine + 1) :
    Meets (Builtin.«list.extend» ⟨[.ref l, .ref b], []⟩) (fun _ R s => s.heap.get? l = some { cls := .type "list", dict := none, data := .seq items n, slots := #[] } ∧ s.heap.get? b = some { cls := .type "tuple", dict := dd, data := .seq items2 n2, slots := sl } ∧ R (.ok (.ret Value.none)) { s with heap := s.heap.update l (Obj.mapSeq fun x => x ++ items2), toks := s.toks }) :=
  .of_wp fun prog w A R s h => by
    obtain ⟨hp, g, d, tk, os⟩ := s; obtain ⟨hl, hb, h⟩ := h; have f1 := idx_int; have f2 := AutoSeq1.sub_tuple_tuple; have f3 := AutoSeq1.sub_list_list; have f4 := AutoSeq1.sub_tuple_list; have f5 := AutoSeq1.sub_list_tuple;
    have hz' : (items ++ items2).size ≤ sizeLine + 1 := by rw [Array.size_append]; exact hs2
    wp_walk using (wpAny_updateSeq hl rfl (hz := hs1) (_hz' := hz')), wpAny_loadPart' hl, wpAny_loadPart' hb; exact ⟨_, rfl, h⟩
theorem mt_extendT : MtM X "list.extend" (fun x vs H Q => ∃ l b xs zs, x = .ref l ∧ vs = [.ref b] ∧ H l = some (.lst xs) ∧ SqT X.K H b zs ∧ xs.length + zs.length ≤ sizeLine ∧ Q .non (upd H l (.lst (xs ++ zs)))) := by
  intro pins s σ H x vs v us Q I rx rv h
  obtain ⟨l, b, xs, zs, rfl, rfl, hH, hB, hz, q⟩ := h
  cases rx
  obtain ⟨u, rfl, ru⟩ := rv.one
  cases ru
  obtain ⟨z, its, n, r, hl, e⟩ := I.lstM hH
  obtain ⟨its2, r2, ⟨⟨cls, dd, data, sl⟩, ho, hc, n2, hd⟩, z2⟩ := I.tuple hB
  simp only at hc hd
  subst hc hd
  have hl2 := r2.length
  have hsz : its.toArray.size + its2.toArray.size ≤ sizeLine := by rw [List.size_toArray, List.size_toArray]; omega
  have hlong : ¬ (!its.toArray.isEmpty && Builtin.List.listTooLong (its.toArray.size + its2.toArray.size)) = true := by
    rw [notLongL hsz, Bool.and_false]
    exact Bool.false_ne_true
  refine call_meets F.slot_list_extend ⟨_, e, rfl⟩ F.entry_list_extend (F.args_list_extend_2 _ _)
    (ext_tup l its.toArray n b its2.toArray n2 dd sl hlong (by rw [List.size_toArray]; omega) (by omega)) ⟨e, ho, ?_⟩
  refine ⟨.non, _, I.lset (its' := its ++ its2) hH e (by simp) (r.append r2) ?_, rfl, q⟩
  rw [List.length_append]
  omega
theorem mt_ext : MtR X "list.extend" (fun x vs H Q => ∃ y, vs = [y] ∧ r2 X.K L extF x y H Q) := by
  intro pins s σ H x vs v us Q I rx rs ⟨y, e0, m, h, x', y', d, h', R, vx, vy, e, q⟩
  subst e0
  unfold extF at e
  split at e
  · rename_i n
    split at e
    · rename_i l l2 e1 e2
      obtain ⟨c, e⟩ := if_some e
      cases e
      obtain ⟨a, rfl, e3, xs, e4, rl⟩ := vx.at_loc R e1
      have hm := List.mem_of_getElem? e3
      have fin : ∀ {zs : List V}, VRs X.K L m H zs l2 → xs.length + zs.length ≤ sizeLine ∧ Q .non (upd H a (.lst (xs ++ zs))) := fun {zs} rz =>
        ⟨by rw [rl.length, rz.length]; exact c, q.mut R e3 ⟨_, upd_same, (rl.append rz).keep R Ext.refl (Keep.mut hm)⟩⟩
      have lst : trkOf h y' = some l2 → wpAny (model X.prog X.w) X.A (call (.builtin "list.extend") (v :: us)) (EP X pins σ Q) X.xe s := fun e2 => by
        obtain ⟨b, zs, rfl, q2, rz⟩ := vy.trk R e2
        exact mt_extend pins s σ H _ _ v us Q I rx rs ⟨a, b, xs, zs, rfl, rfl, e4, q2, fin rz⟩
      cases y' with
      | tup _ =>
        cases e2
        obtain ⟨b, zs, rfl, q2, rz⟩ := vy.inv_tup
        exact mt_extendT pins s σ H _ _ v us Q I rx rs ⟨a, b, xs, zs, rfl, rfl, e4, q2, fin rz⟩
      | lst _ => exact lst e2
      | loc _ => exact lst e2
      | _ => cases e2
    · cases e
  · cases e
theorem mt_pops : MtR X "list.pop" (fun x vs H Q => vs = [] ∧ r1 X.K L popF x H Q) := by
  intro pins s σ H x vs v us Q I rx rs ⟨e0, m, h, x', d, h', R, vx, e, q⟩
  subst e0
  unfold popF at e
  split at e
  · rename_i n
    split at e
    · rename_i l e1
      obtain ⟨d', e2, e⟩ := Option.map_eq_some_iff.mp e
      cases e
      obtain ⟨a, rfl, e3, xs, e4, rl⟩ := vx.at_loc R e1
      rw [List.getLast?_eq_getElem?] at e2
      obtain ⟨w, e5, rw'⟩ := rl.get e2
      rw [← rl.length] at e5
      refine mt_pop pins s σ H _ _ v us Q I rx rs ⟨a, xs, w, rfl, rfl, e4, e5, ?_⟩
      have hm := List.mem_of_getElem? e3
      have kk : Keep m H (upd H a (.lst xs.dropLast)) := Keep.mut hm
      refine q m w _ Ext.refl (R.set e3 ⟨_, upd_same, ?_⟩) (rw'.keep R Ext.refl kk) kk
      have hd : VRs X.K L m H xs.dropLast l.dropLast := by
        rw [List.dropLast_eq_take, List.dropLast_eq_take, rl.length]
        exact rl.take _
      exact hd.keep R Ext.refl kk
    · cases e
  · cases e
theorem mt_cnt : MtR X "list.count" (fun x vs H Q => ∃ y, vs = [y] ∧ r2 X.K L cntF x y H Q) := by
  intro pins s σ H x vs v us Q I rx rs ⟨y, e0, m, h, x', y', d, h', R, vx, vy, e, q⟩
  subst e0
  unfold cntF at e
  split at e
  · rename_i l k e1
    cases e
    obtain ⟨l0, e2, e3⟩ := Option.bind_eq_some_iff.mp e1
    obtain ⟨a, xs, rfl, q1, rl⟩ := vx.list R e2
    have := rl.ints e3
    subst this
    cases vy
    exact mt_lcount pins s σ H _ _ v us Q I rx rs ⟨a, l, k, rfl, rfl, q1, q.here R (.int _)⟩
  · cases e
/-- t.index(y), of things without parts -/
def rTix (K : PySem.W.Frag) : V → List V → Hp → VK → Prop := fun x xs H Q => ∃ p ys y j z, x = .ref p ∧ xs = [y] ∧ SqT K H p ys ∧ flatV y = true ∧ ys.all flatV = true ∧ ys[j]? = some z ∧ eqV z y = true ∧ (∀ m z', m < j → ys[m]? = some z' → eqV z' y = false) ∧ Q (.int (j : Nat)) H
theorem mt_tix : MtR X "tuple.index" (rTix X.K) := by
  intro pins s σ H x xs v us Q I rx rs h
  obtain ⟨p, ys, y, j, z, ex, exs, sq, fy, fl, hj, hit, hno, q⟩ := h
  subst ex exs
  cases rx
  obtain ⟨u, rfl, ru⟩ := vals1 rs
  obtain ⟨its, r, ⟨⟨cls, dd, data, sl⟩, ho, hc, n, hd⟩, hz⟩ := I.tuple sq
  simp only at hc hd
  subst hc hd
  obtain ⟨w, hw, rw'⟩ := r.get hj
  have lt : j < its.toArray.size := by
    rw [List.size_toArray]
    exact (List.getElem?_eq_some_iff.mp hw).1
  have at_ : ∀ (m : Nat) (hm : m < its.toArray.size), ∃ z', ys[m]? = some z' ∧ RelV z' its.toArray[m] := fun m hm => by
    have hm1 : m < its.length := by simpa using hm
    have hm2 : m < ys.length := by rw [r.length]; exact hm1
    obtain ⟨w', hw', r'⟩ := r.get (List.getElem?_eq_getElem hm2)
    refine ⟨ys[m], List.getElem?_eq_getElem hm2, ?_⟩
    have e : w' = its.toArray[m] := by
      rw [List.getElem?_eq_getElem hm1] at hw'
      cases hw'
      simp
    rw [← e]
    exact r'
  refine call_meets F.slot_tuple_index ⟨_, ho, rfl⟩ F.entry_tuple_index (F.args_tuple_index_2 _ _) (TI.tuple_indexAt p its.toArray n dd sl u (eqU y) j lt ?_ fun m hm hmj => ?_)
    ⟨ho, fun b hb => mem_eqAt ru fy r fl b (by simpa using hb), ⟨.int (j : Nat), H, I.tok _, ⟨_, rfl⟩, q⟩⟩
  · obtain ⟨z', h1, h2⟩ := at_ j lt
    rw [hj] at h1
    cases h1
    rw [eqU_of h2 (flat_at fl hj)]
    exact hit
  · obtain ⟨z', h1, h2⟩ := at_ m hm
    rw [eqU_of h2 (flat_at fl h1)]
    exact hno m z' hmj h1
theorem tix_of {m : List Addr} {H : Hp} {h : AH} {x y : V} {x' y' : D} {r : R D} {Q : VK} (R : RH K L m H h) (vx : VR K L m H x x') (vy : VR K L m H y y') (e : ixF x' y' h = some r) (q : ∀ d h', r = .ok d h' → Yes K L m H Q d h') : rTix K x [y] H Q := by
  unfold ixF at e
  split at e
  · rename_i l k
    obtain ⟨c, e⟩ := if_some e
    obtain ⟨j, e1, e2⟩ := Option.map_eq_some_iff.mp e
    subst e2
    obtain ⟨a, xs, rfl, sq, rl⟩ := vx.inv_tup
    obtain ⟨lt, h1, h2⟩ := List.findIdx?_eq_some_iff_getElem.mp e1
    have c' := c
    rw [List.all_eq_true] at c'
    obtain ⟨w, hw, rw'⟩ := rl.get (List.getElem?_eq_getElem lt)
    refine ⟨a, xs, y, j, w, rfl, rfl, sq, scal_dp vy rfl, (any_in rl vy rfl c).2, hw, ?_, fun m z' hm hz => ?_, (q _ _ rfl).here R (.int _)⟩
    · rw [eqV_eqD rw' vy (c' _ (List.getElem_mem lt)) rfl]
      exact h1
    · obtain ⟨d, hd, rd⟩ := rl.getV hz
      have lm : m < l.length := by omega
      rw [List.getElem?_eq_getElem lm] at hd
      cases hd
      rw [eqV_eqD rd vy (c' _ (List.getElem_mem lm)) rfl]
      have := h2 m hm
      simpa using this
  · cases e
theorem joinL_nil : ∀ l : List (List Nat), TL.joinL [] l = l.flatten
  | [] => rfl
  | [p] => by simp [TL.joinL]
  | p :: q :: r => by
    show p ++ ([] ++ TL.joinL [] (q :: r)) = _
    rw [MM.joinL_nil (q :: r)]
    simp
theorem join_sOf (l : List (List Nat)) : Txt.join (sOf []) (l.map sOf) = sOf l.flatten := by
  refine TL.ext_tl ?_
  rw [TL.join_eq, TL.tl_join, List.map_map]
  have e : (l.map (TL.tl ∘ sOf)) = l := by
    conv => rhs; rw [← List.map_id l]
    exact List.map_congr_left fun a _ => TL.tl_mk a
  rw [e]
  have e2 : TL.tl (sOf []) = [] := rfl
  rw [e2, joinL_nil, sOf, TL.tl_mk]
theorem mt_joins : MtR X "str.join" (fun x vs H Q => ∃ y, vs = [y] ∧ r2 X.K L joinF x y H Q) := by
  intro pins s σ H x vs v us Q I rx rs ⟨y, e0, m, h, x', y', d, h', R, vx, vy, e, q⟩
  subst e0
  unfold joinF at e
  split at e
  · rename_i l e1
    obtain ⟨⟨c, c2⟩, e⟩ := if_some e
    cases e
    obtain ⟨l0, e2, e3⟩ := Option.bind_eq_some_iff.mp e1
    obtain ⟨a, xs, rfl, q1, rl⟩ := vy.list R e2
    have := rl.strs e3
    subst this
    cases vx
    refine mt_join pins s σ H _ _ v us Q I rx rs ⟨sOf [], a, l.map sOf, rfl, rfl, .inl q1, ?_, ?_⟩
    · have : ((l.map sOf).map (·.length)).sum = l.flatten.length := by
        rw [List.map_map, List.length_flatten]
        exact congrArg List.sum (List.map_congr_left fun a _ => sOf_len a)
      rw [this, sOf_len]
      show _ + _ * 0 ≤ szl
      rw [Nat.mul_zero, Nat.add_zero]
      exact c
    · rw [join_sOf]
      exact q.here R (.str _)
  · cases e
end
end MM
namespace MM
open PySem PySem.Spec PyProof.Rows L2

/-! ### what the text's things are -/
/-- what the calls of a function do -/
def spF (K : PySem.W.Frag) (L : Pl) (Φ : List D → AH → Res D) : Sp := fun vs H Q E => ∃ m h ds r, RH K L m H h ∧ VRs K L m H vs ds ∧ Φ ds h = some r ∧ Fin K L (fun cls d _ H => E cls d H) m H [] Q r
def kOf : D → Key
  | .int i => .inl i
  | .str s => .inr (sOf s)
  | _ => .inl 0
/-- one row of a table of the top -/
def TabE (w : World) (K : PySem.W.Frag) (fn : Fn → Addr) (e : DictEntry) (p : D × D) : Prop :=
  keyOk p.1 = true ∧ keyIs (kOf p.1) e.key = true ∧ e.hash = keyH w (kOf p.1) ∧ RelV (toV e.val) e.val ∧ ∀ L m H, L.fn = fn → VR K L m H (toV e.val) p.2
def TabEs (w : World) (K : PySem.W.Frag) (fn : Fn → Addr) : List DictEntry → List (D × D) → Prop
  | [], [] => True
  | e :: es, p :: ps => TabE w K fn e p ∧ TabEs w K fn es ps
  | _, _ => False
def TabAt (w : World) (K : PySem.W.Frag) (fn : Fn → Addr) (a : Addr) (t : List (D × D)) : Prop :=
  ∃ es n, K.lookup a = some ⟨.type "dict", none, .dict es n, #[]⟩ ∧ (a == sysModules) = false ∧ TabEs w K fn es.toList t
/-- what the class Wrong is: its error, its own __init__ -/
def spW (C : Addr) : Sp := fun vs H Q _ => ∃ (a : Addr) (k p : V), vs = [.ref a, k, p] ∧ H a = some (exo a C none) ∧
  ∀ dx, H dx = none → dx ≠ a → Q .non (upd (upd (upd H dx (exd dx [(Str.ofString "kind", k)])) a (exo a C (some dx))) dx (exd dx [(Str.ofString "position", p), (Str.ofString "kind", k)]))
structure WrongOk (P : Program) (w : World) (K : PySem.W.Frag) (mg : Str → Option Value) (base : Heap) (C : Addr) : Prop where
  gl : mg (Str.ofString "Wrong") = some (.ref C)
  T : OexC K C
  exm : PySem.W.exmOne K (.ref C) (.ref C) = some true
  init : ∃ fI fd ps, PySem.W.findIn K (.ref C) "__init__" = some (some (.ref fI)) ∧ PySem.W.typeIn K (.ref fI) = some (.type "function") ∧ FnOk P w K mg base (L2.CX P w) 1 fI fd ps (spW C) ∧ Binds K fd ps []
structure NodocOk (K : PySem.W.Frag) (mg : Str → Option Value) (C : Addr) : Prop where
  gl : mg (Str.ofString "NoDocument") = some (.ref C)
  ex : PySem.W.excIn K C [.type "ValueError", .type "Exception", .type "BaseException", .type "object"] "ValueError.__new__" = true
  kp : PySem.W.keepIn K (.ref C) = true
  sub : PySem.W.subIn K (.ref C) (.type "BaseException") = some true
  ty : PySem.W.typeIn K (.ref C) = some (.type "type")
  exm : PySem.W.exmOne K (.ref C) (.ref C) = some true
structure Fct (P : Program) (w : World) (K : PySem.W.Frag) (mg : Str → Option Value) (base : Heap) (L : Pl) (G : Gam) (Fs : Fn → List D → AH → Res D) (k : Nat) : Prop where
  fn : ∀ f, G.isG f = true → ∃ fd ps, (∀ z, FnOk P w K mg base (L2.CX P w) k (L.fn f) fd ps (spF K { L with hid := z } (Fs f))) ∧ Binds K fd ps []
  gl : ∀ f, G.isG f = true → mg (Str.ofString (G.gname f)) = some (.ref (L.fn f)) ∧ PySem.W.keepIn K (.ref (L.fn f)) = true
  gls : ∀ p ∈ G.gls, ∃ u v, mg (Str.ofString p.1) = some u ∧ RelV v u ∧ (∀ z m H h, RH K { L with hid := z } m H h → VR K { L with hid := z } m H v p.2) ∧ ∀ t, p.2 = .tup t → ∃ a o, v = .ref a ∧ K.lookup a = some o ∧ o.cls = .type "tuple" ∧ o.dict = none
  bi : ∀ b, mg (Str.ofString (biName b)) = none
  rg : mg (Str.ofString "range") = none
  tabs : ∀ p ∈ G.tabs, ∃ a, mg (Str.ofString p.1) = some (.ref a) ∧ TabAt w K L.fn a p.2
  wr : G.hasW = true → WrongOk P w K mg base (L.cl "Wrong")
  nd : G.hasN = true → NodocOk K mg (L.cl "NoDocument")
structure Gd (L : Pl) (G : Gam) (N : List Str) (Fs : Fn → List D → AH → Res D) (k : Nat) (X : Cx) (sc : Scope) (W : WX) : Prop where
  n_ : X.N = N
  nd : N.Nodup
  sc : X.env.scope = sc
  fs : Fct X.prog X.w X.K X.mg X.base L G Fs k
  tk : Takes X W
  hr : Room (k + 1) X.A
  hk : 2 ≤ k
  calm : X.calm = true
theorem Gd.hu {L : Pl} {G : Gam} {N : List Str} {Fs : Fn → List D → AH → Res D} {k : Nat} {X : Cx} {sc : Scope} {W : WX} (g : Gd L G N Fs k X sc W) : X.A.units + 64 < cLine := g.hr.units
theorem Fct.hide {P : Program} {w : World} {K : PySem.W.Frag} {mg : Str → Option Value} {base : Heap} {L : Pl} {G : Gam} {Fs : Fn → List D → AH → Res D} {k : Nat} (f : Fct P w K mg base L G Fs k) (z : List Addr) : Fct P w K mg base { L with hid := z } G Fs k :=
  ⟨f.fn, f.gl, f.gls, f.bi, f.rg, f.tabs, f.wr, f.nd⟩

section
variable {K : PySem.W.Frag} {L : Pl} {W : WX} {σ : L2.St} {Q Q' : VK} {m m' : List Addr} {H H' : Hp} {h h' : AH} {v x y z : V} {d : D} {vs : List V} {xs : List D} {δ : Slots} {a p : Addr}
theorem Fin.imp {r : R D} (f : Fin K L W m H σ Q r) (i : ∀ v H, Q v H → Q' v H) : Fin K L W m H σ Q' r := by
  cases r with
  | ok d h' => exact fun m' v H' x R r k => i _ _ (f m' v H' x R r k)
  | ex e => exact f
theorem tE.imp {ev : Slots → AH → Res D} (q : tE K L W ev σ H Q) (i : ∀ v H, Q v H → Q' v H) : tE K L W ev σ H Q' := by
  obtain ⟨m, δ, h, xs, r, R, S, V, e, f⟩ := q
  exact ⟨m, δ, h, xs, r, R, S, V, e, f.imp i⟩
theorem tA.imp {Q Q' : List V → Hp → Prop} {ev : Slots → AH → Res (List D)} (q : tA K L W ev σ H Q) (i : ∀ v H, Q v H → Q' v H) : tA K L W ev σ H Q' := by
  obtain ⟨m, δ, h, r, R, S, e, f⟩ := q
  refine ⟨m, δ, h, r, R, S, e, ?_⟩
  cases r with
  | ok d h' => exact fun m' v H' x R r k => i _ _ (f m' v H' x R r k)
  | ex e => exact f
/-- an end without more: the value is there -/
theorem tE.fin {ev : Slots → AH → Res D} (q : tE K L W ev σ H Q) : ∃ m δ h r, RH K L m H h ∧ RSl K L m H σ δ ∧ ev δ h = some r ∧ Fin K L W m H σ Q r := by
  obtain ⟨m, δ, h, xs, r, R, S, V, e, f⟩ := q
  exact ⟨m, δ, h, r, R, S, e, f⟩
theorem slot_eq : ∀ (δ : Slots) (i : Nat), slot δ i = (δ[i]?).join
  | [], _ => rfl
  | _ :: _, 0 => rfl
  | _ :: r, n + 1 => by simp [slot, slot_eq r n]
theorem setS_eq : ∀ (δ : Slots) (i : Nat) (d : D), setS δ i d = δ.set i (some d)
  | [], _, _ => rfl
  | _ :: _, 0, _ => rfl
  | _ :: r, n + 1, d => by simp [setS, setS_eq r n]
theorem wipeS_eq : ∀ (δ : Slots) (i : Nat), wipeS δ i = δ.set i none
  | [], _ => rfl
  | _ :: _, 0 => rfl
  | _ :: r, n + 1 => by simp [wipeS, wipeS_eq r n]
theorem RSl.slot (S : RSl K L m H σ δ) {i : Nat} (e : slot δ i = some d) : ∃ v, σ[i]? = some (some v) ∧ VR K L m H v d := by
  rw [slot_eq] at e
  cases q : δ[i]? with
  | none => rw [q] at e; cases e
  | some o =>
    rw [q] at e
    cases o with
    | none => cases e
    | some d' => cases e; exact S.2 i _ q
theorem RSl.set (S : RSl K L m H σ δ) (i : Nat) (r : VR K L m H v d) : RSl K L m H (σ.set i (some v)) (setS δ i d) := by
  rw [setS_eq]
  refine ⟨by rw [List.length_set, List.length_set]; exact S.1, fun j e q => ?_⟩
  by_cases hj : i = j
  · subst hj
    have lt : i < δ.length := by
      have := (List.getElem?_eq_some_iff.mp q).1
      rwa [List.length_set] at this
    rw [List.getElem?_set_self lt] at q
    cases q
    exact ⟨v, List.getElem?_set_self (by rw [S.1]; exact lt), r⟩
  · rw [List.getElem?_set_ne hj] at q ⊢
    exact S.2 j e q
end

/-! ### steps -/
section
variable {X : Cx} {L : Pl} {G : Gam} {N : List Str} {Fs : Fn → List D → AH → Res D} {k : Nat} {sc : Scope} {W : WX}

theorem isStr_eq {x : Str} {s : String} (h : isStr x s = true) : x = Str.ofString s := of_decide_eq_true h
theorem visB_ok {sc : Scope} {x : Str} (h : visB sc x = true) : Vis sc x := by
  unfold visB at h
  unfold Vis
  split at h
  · rename_i q; exact .inl q
  · rename_i q; exact .inr (.inl q)
  · rename_i q; exact .inr (.inr q)
  · cases h
theorem globB_ok {sc : Scope} {x : Str} (h : globB sc x = true) : sc.names.lookup x = some .globalImplicit := by
  unfold globB at h
  split at h
  · rename_i q; exact q
  · cases h
theorem plainName_ok {x : Str} (h : plainName x = true) : (x == ("__debug__" : Str)) = false ∧ (x == ("__classdict__" : Str)) = false ∧ x ≠ "__name__" := by
  unfold plainName at h
  simp only [Bool.and_eq_true, Bool.not_eq_true'] at h
  exact ⟨h.1.1, h.1.2, fun e => by rw [e] at h; exact absurd h.2 (by decide)⟩
/-- a name of the text's top, or of the language -/
theorem isGlobal_ok (g : Gd L G N Fs k X sc W) {e : Expr} {s : String} (h : isGlobal sc e s = true) : ∃ pos, e = .Name (Str.ofString s) pos ∧ Gl X (Str.ofString s) ∧ ((Str.ofString s) == ("__debug__" : Str)) = false ∧ (Str.ofString s) ≠ "__name__" := by
  unfold isGlobal at h
  split at h
  · simp only [Bool.and_eq_true] at h
    have e1 := isStr_eq h.1.1
    subst e1
    refine ⟨_, rfl, ?_, (plainName_ok h.2).1, (plainName_ok h.2).2.2⟩
    show X.env.kindOf _ = _
    have := globB_ok h.1.2
    rw [← g.sc] at this
    exact this
  · cases h

/-! #### leaves -/
theorem E_const {ev : Slots → AH → Res D} {e : Expr} {v : V} {d : D} (h : PE X e (tC v)) (he : ∀ δ h, ev δ h = some (.ok d h)) (r : ∀ m H h, RH X.K L m H h → VR X.K L m H v d) : PE X e (tE X.K L W ev) :=
  h.imp fun σ H Q q => by
    obtain ⟨m, δ, h, r', R, S, e, f⟩ := q.fin
    rw [he] at e
    cases e
    exact f m v H Ext.refl R (r m H h R) Keep.refl
theorem E_var (g : Gd L G N Fs k X sc W) {i : Nat} {e : Expr} (h : isSlot N sc e i = true) : PE X e (tE X.K L W (evalE Fs (.var i))) := by
  unfold isSlot at h
  split at h
  · simp only [Bool.and_eq_true, decide_eq_true_eq] at h
    refine (pe_var (i := i) (by rw [g.n_]; exact h.1.1) (by rw [g.sc]; exact visB_ok h.1.2) (plainName_ok h.2).1 (plainName_ok h.2).2.1).imp fun σ H Q q => ?_
    obtain ⟨m, δ, h, r', R, S, e, f⟩ := q.fin
    obtain ⟨d, e1, e2⟩ := Option.map_eq_some_iff.mp e
    cases e2
    obtain ⟨v, e3, r⟩ := S.slot e1
    exact ⟨v, e3, f m v H Ext.refl R r Keep.refl⟩
  · cases h
theorem E_gl (g : Gd L G N Fs k X sc W) {x : String} {d : D} {e : Expr} (h : isGlobal sc e x = true) (h2 : glIn G x d = true) : PE X e (tE X.K L W (evalE Fs (.gl x d))) := by
  obtain ⟨pos, rfl, g1, g2, g3⟩ := isGlobal_ok g h
  unfold glIn at h2
  rw [List.any_eq_true] at h2
  obtain ⟨p, hp, h3⟩ := h2
  simp only [Bool.and_eq_true, decide_eq_true_eq] at h3
  have e1 := beqD_ok h3.2
  obtain ⟨u, v, m1, r, vr, _⟩ := g.fs.gls p hp
  rw [h3.1] at m1
  rw [e1] at vr
  exact E_const (pe_glob g1 m1 r g2) (fun _ _ => rfl) (fun m H h R => vr L.hid m H h R)

/-! #### sums, tests -/
theorem E_bin {a b : IE} {o : BinO} {p : Operator} {x y : Expr} {pos : Pos} (ok : okBin o p = true) (ha : PE X x (tE X.K L W (evalE Fs a))) (hb : PE X y (tE X.K L W (evalE Fs b))) :
    PE X (.BinOp x p y pos) (tE X.K L W (evalE Fs (.bin o a b))) :=
  (pe_op (op_bin (L := L) ok) ha hb).imp fun σ H Q q =>
    (step1 (f := fun δ x h => bindR (evalE Fs b δ h) fun y h => binR o x y h) q).imp fun v H1 q => (step2 (f := fun _ x y h => binR o x y h) q).imp fun w H2 q => q.go (fun _ _ _ _ => rfl) fun _ _ _ _ => bin_ne
theorem cmpF_ne {o : CmpO} {x y : D} {h : AH} {e : Exc} : cmpF o x y h ≠ some (.ex e) := map_ne fun _ _ z => by cases z
/-- a test of two values, as an expression and as a condition -/
theorem E_cmp2 {a b ir : IE} {f : D → D → AH → Res D} {p : CmpOp} {r : R2} {x y : Expr} {pos : Pos} (ho : OpR X (compareOp p) r) (hm : behindInMarks p y = false) (ha : PE X x (tE X.K L W (evalE Fs a))) (hb : PE X y (tE X.K L W (evalE Fs b)))
    (he : ∀ δ h, evalE Fs ir δ h = bindR (evalE Fs a δ h) fun x h => bindR (evalE Fs b δ h) fun y h => f x y h) (n : ∀ x y h e, f x y h ≠ some (.ex e)) (hr : ∀ x y H Q, r2 X.K L f x y H Q → r x y H Q) :
    PE X (.Compare x [p] [y] pos) (tE X.K L W (evalE Fs ir)) ∧ PT X (.Compare x [p] [y] pos) (tT X.K L W (evalE Fs ir)) := by
  have key : ∀ σ H Q, tE X.K L W (evalE Fs ir) σ H Q → tOp r (tE X.K L W (evalE Fs a)) (tE X.K L W (evalE Fs b)) σ H Q := fun σ H Q q => by
    have q : tE X.K L W (fun δ h => bindR (evalE Fs a δ h) fun x h => bindR (evalE Fs b δ h) fun y h => f x y h) σ H Q := by
      have e : evalE Fs ir = fun δ h => bindR (evalE Fs a δ h) fun x h => bindR (evalE Fs b δ h) fun y h => f x y h := funext fun δ => funext fun h => he δ h
      rw [e] at q
      exact q
    exact (step1 (f := fun δ x h => bindR (evalE Fs b δ h) fun y h => f x y h) q).imp fun v H1 q => (step2 (f := fun _ x y h => f x y h) q).imp fun w H2 q => hr _ _ _ _ (q.go (fun _ _ _ _ => rfl) n)
  exact ⟨(pe_cmpR ho ha hb hm).imp key, (pt_cmpR ho ha hb hm).imp fun σ H Q q => key σ H _ q⟩
theorem E_cmp (hu : X.A.units + 64 < cLine) {a b : IE} {o : CmpO} {p : CmpOp} {x y : Expr} {pos : Pos} (ok : okCmp o p = true) (ha : PE X x (tE X.K L W (evalE Fs a))) (hb : PE X y (tE X.K L W (evalE Fs b))) :
    PE X (.Compare x [p] [y] pos) (tE X.K L W (evalE Fs (.cmp o a b))) ∧ PT X (.Compare x [p] [y] pos) (tT X.K L W (evalE Fs (.cmp o a b))) :=
  E_cmp2 (f := cmpF o) (op_cmp (L := L) ok hu) (okCmp_mark ok y) ha hb (fun _ _ => rfl) (fun _ _ _ _ => cmpF_ne) fun _ _ _ _ q => q
theorem vr_non {m : List Addr} {H : Hp} {v : V} {d : D} (r : VR X.K L m H v d) : decide (v = .non) = isNon d := by
  cases r <;> first | rfl | exact decide_eq_false (fun z => by cases z)
theorem pe_non' {j pos} : PE X (.Constant .none j pos) (tE X.K L W (evalE Fs .non)) := E_const pe_non (fun _ _ => rfl) fun _ _ _ _ => .non
theorem E_isN {a : IE} {x : Expr} {j : Nat} {pos pos2 : Pos} (ha : PE X x (tE X.K L W (evalE Fs a))) :
    PE X (.Compare x [.Is] [.Constant .none j pos2] pos) (tE X.K L W (evalE Fs (.isN a))) ∧ PT X (.Compare x [.Is] [.Constant .none j pos2] pos) (tT X.K L W (evalE Fs (.isN a))) := by
  refine E_cmp2 (b := .non) (f := fun x y h => match y with | .non => some (.ok (.bl (isNon x)) h) | _ => none) op_isN (nomark _) ha pe_non' (fun _ _ => rfl) (fun x y h e z => ?_) fun x y H Q ⟨m, h, x', y', d, h', R, vx, vy, e, q⟩ => ?_
  · cases y <;> cases z
  · cases vy <;> first | (cases e; done) | skip
    cases e
    exact ⟨rfl, by rw [vr_non vx]; exact q.here R (.bl _)⟩
theorem E_notN {a : IE} {x : Expr} {j : Nat} {pos pos2 : Pos} (ha : PE X x (tE X.K L W (evalE Fs a))) :
    PE X (.Compare x [.IsNot] [.Constant .none j pos2] pos) (tE X.K L W (evalE Fs (.notN a))) ∧ PT X (.Compare x [.IsNot] [.Constant .none j pos2] pos) (tT X.K L W (evalE Fs (.notN a))) := by
  refine E_cmp2 (b := .non) (f := fun x y h => match y with | .non => some (.ok (.bl (!isNon x)) h) | _ => none) op_notN (nomark _) ha pe_non' (fun _ _ => rfl) (fun x y h e z => ?_) fun x y H Q ⟨m, h, x', y', d, h', R, vx, vy, e, q⟩ => ?_
  · cases y <;> cases z
  · cases vy <;> first | (cases e; done) | skip
    cases e
    exact ⟨rfl, by rw [vr_non vx]; exact q.here R (.bl _)⟩
theorem inF_ne {b : Bool} {x y : D} {h : AH} {e : Exc} : inF b x y h ≠ some (.ex e) := by
  unfold inF
  split
  · split <;> simp
  · simp
theorem E_isin {a b : IE} {x y : Expr} {pos : Pos} (hm : behindInMarks .In y = false) (ha : PE X x (tE X.K L W (evalE Fs a))) (hb : PE X y (tE X.K L W (evalE Fs b))) :
    PE X (.Compare x [.In] [y] pos) (tE X.K L W (evalE Fs (.isin a b))) ∧ PT X (.Compare x [.In] [y] pos) (tT X.K L W (evalE Fs (.isin a b))) :=
  E_cmp2 (f := inF false) (op_in (L := L) rfl) hm ha hb (fun _ _ => rfl) (fun _ _ _ _ => inF_ne) fun _ _ _ _ q => q
theorem E_notin {a b : IE} {x y : Expr} {pos : Pos} (hm : behindInMarks .NotIn y = false) (ha : PE X x (tE X.K L W (evalE Fs a))) (hb : PE X y (tE X.K L W (evalE Fs b))) :
    PE X (.Compare x [.NotIn] [y] pos) (tE X.K L W (evalE Fs (.notin a b))) ∧ PT X (.Compare x [.NotIn] [y] pos) (tT X.K L W (evalE Fs (.notin a b))) :=
  E_cmp2 (f := inF true) (op_in (L := L) rfl) hm ha hb (fun _ _ => rfl) (fun _ _ _ _ => inF_ne) fun _ _ _ _ q => q
end
end MM
namespace MM
open PySem PySem.Spec PyProof.Rows L2
section
variable {X : Cx} {L : Pl} {G : Gam} {N : List Str} {Fs : Fn → List D → AH → Res D} {k : Nat} {sc : Scope} {W : WX}

/-! #### l == [] -/
theorem nil_step {neg : Bool} {ea : Slots → AH → Res D} {σ : L2.St} {H : Hp} {Q : VK} (q : tE X.K L W (fun δ h => bindR (ea δ h) fun x h => nilF neg x h) σ H Q) :
    tOp (fun x y H Q => ∃ a p xs, x = .ref a ∧ y = .ref p ∧ SqL X.K H a xs ∧ H p = some (.lst []) ∧ Q (.bl (if neg then !xs.isEmpty else xs.isEmpty)) H) (tE X.K L W ea) (tLst tNil) σ H Q := by
  refine (step1 (f := fun _ x h => nilF neg x h) q).imp fun x H1 q => ?_
  have q : r1 X.K L (nilF neg) x H1 Q := q.go (fun _ _ _ => rfl) fun _ _ _ => map_ne fun _ _ z => by cases z
  obtain ⟨m, h, x', d, h', R, vx, e, Y⟩ := q
  obtain ⟨l, e1, e2⟩ := Option.map_eq_some_iff.mp e
  cases e2
  obtain ⟨a, xs, rfl, rd, rl⟩ := vx.list R e1
  refine ⟨Nat.zero_le _, fun p n => ⟨a, p, xs, rfl, rfl, ?_, upd_same, ?_⟩⟩
  · rcases rd with (rd | ⟨o, rd⟩) | rd
    · exact .inl (.inl (by rw [upd_ne (ne_of_none rd n)]; exact rd))
    · exact .inl (.inr ⟨o, by rw [upd_ne (ne_of_none rd n)]; exact rd⟩)
    · exact .inr rd
  · have e3 : xs.isEmpty = l.isEmpty := by
      have := rl.length
      cases xs <;> cases l <;> simp at this ⊢
    rw [e3]
    exact Y m (.bl _) _ Ext.refl (R.new n) (.bl _) (Keep.new n)
theorem E_isnil (hu : X.A.units + 64 < cLine) {a : IE} {x : Expr} {pos pos2 : Pos} (ha : PE X x (tE X.K L W (evalE Fs a))) :
    PE X (.Compare x [.Eq] [.List [] pos2] pos) (tE X.K L W (evalE Fs (.isnil a))) ∧ PT X (.Compare x [.Eq] [.List [] pos2] pos) (tT X.K L W (evalE Fs (.isnil a))) :=
  ⟨PE.imp (pe_cmpR (op_nil (by omega)) ha (pe_lst pa_nil) (nomark _)) fun σ H Q q => nil_step (neg := false) q, PT.imp (pt_cmpR (op_nil (by omega)) ha (pe_lst pa_nil) (nomark _)) fun σ H Q q => nil_step (neg := false) q⟩
theorem E_notnil (hu : X.A.units + 64 < cLine) {a : IE} {x : Expr} {pos pos2 : Pos} (ha : PE X x (tE X.K L W (evalE Fs a))) :
    PE X (.Compare x [.NotEq] [.List [] pos2] pos) (tE X.K L W (evalE Fs (.notnil a))) ∧ PT X (.Compare x [.NotEq] [.List [] pos2] pos) (tT X.K L W (evalE Fs (.notnil a))) :=
  ⟨PE.imp (pe_cmpR (op_notnil (by omega)) ha (pe_lst pa_nil) (nomark _)) fun σ H Q q => nil_step (neg := true) q, PT.imp (pt_cmpR (op_notnil (by omega)) ha (pe_lst pa_nil) (nomark _)) fun σ H Q q => nil_step (neg := true) q⟩

/-! #### a < b < c -/
def chF (F : Fn → List D → AH → Res D) (o1 o2 : CmpO) (c : IE) (δ : Slots) (x y : D) (h : AH) : Res D := match cmpR o1 h x y with
  | some k => if k = true then bindR (evalE F c δ h) fun z h => (cmpR o2 h y z).map fun c => .ok (.bl c) h else some (.ok (.bl false) h)
  | none => none
theorem chain_step {a b c : IE} {o1 o2 : CmpO} {σ : L2.St} {H : Hp} {Q : VK} (q : tE X.K L W (evalE Fs (.chain a o1 b o2 c)) σ H Q) :
    tChain (r2 X.K L (cmpF o1)) (r2 X.K L (cmpF o2)) (tE X.K L W (evalE Fs a)) (tE X.K L W (evalE Fs b)) (tE X.K L W (evalE Fs c)) σ H Q := by
  refine (step1 (f := fun δ x h => bindR (evalE Fs b δ h) fun y h => chF Fs o1 o2 c δ x y h) q).imp fun x H1 q => (step2 (f := chF Fs o1 o2 c) q).imp fun y H2 q => ?_
  obtain ⟨m, δ, h, x', y', r, R, S, vx, vy, e, f⟩ := q
  unfold chF at e
  split at e
  · rename_i k e1
    refine ⟨m, h, x', y', .bl k, h, R, vx, vy, by unfold cmpF; rw [e1]; rfl, fun m1 v1 H3 x1 R1 r1 k1 => ?_⟩
    cases r1
    refine ⟨k, rfl, ?_⟩
    cases k with
    | false =>
      rw [if_neg Bool.false_ne_true] at e ⊢
      cases e
      exact f m1 _ H3 x1 R1 (.bl _) k1
    | true =>
      rw [if_pos rfl] at e ⊢
      have f1 := f.mono R R1 x1 k1
      rcases bindR_some e with ⟨z, h1, e2, e3⟩ | ⟨ee, e2, rfl⟩
      · refine ⟨m1, δ, h, [], _, R1, S.keep R x1 k1, .nil, e2, fun m2 w H4 x2 R2 r2 k2 => ?_⟩
        obtain ⟨cc, e4, e5⟩ := Option.map_eq_some_iff.mp e3
        cases e5
        exact ⟨m2, h1, y', z, .bl cc, h1, R2, (vy.keep R x1 k1).keep R1 x2 k2, r2, by unfold cmpF; rw [e4]; rfl, f1.mono R1 R2 x2 k2⟩
      · exact ⟨m1, δ, h, [], _, R1, S.keep R x1 k1, .nil, e2, f1⟩
  · cases e
theorem E_chain (hu : X.A.units + 64 < cLine) {a b c : IE} {o1 o2 : CmpO} {p1 p2 : CmpOp} {x y z : Expr} {pos : Pos} (ok1 : okCmp o1 p1 = true) (ok2 : okCmp o2 p2 = true) (ha : PE X x (tE X.K L W (evalE Fs a))) (hb : PE X y (tE X.K L W (evalE Fs b))) (hc : PE X z (tE X.K L W (evalE Fs c))) :
    PE X (.Compare x [p1, p2] [y, z] pos) (tE X.K L W (evalE Fs (.chain a o1 b o2 c))) ∧ PT X (.Compare x [p1, p2] [y, z] pos) (tT X.K L W (evalE Fs (.chain a o1 b o2 c))) := by
  have hm : lastMarks [p1, p2] [y, z] = false := okCmp_mark ok2 z
  exact ⟨PE.imp (pe_chain (op_cmp (L := L) ok1 hu) (op_cmp (L := L) ok2 hu) ha hb hc hm) fun σ H Q q => chain_step q, PT.imp (pt_chain (op_cmp (L := L) ok1 hu) (op_cmp (L := L) ok2 hu) ha hb hc hm) fun σ H Q q => chain_step q⟩

/-! #### and, or, not, if -/
theorem vr_bl {m : List Addr} {H : Hp} {v : V} {d : D} {f : Bool → Res D} {r : R D} (rv : VR X.K L m H v d) (e : (match (generalizing := false) d with | .bl k => f k | _ => none) = some r) : ∃ k, d = .bl k ∧ v = .bl k ∧ f k = some r := by
  cases d <;> first | (cases e; done) | skip
  cases rv
  exact ⟨_, rfl, rfl, e⟩
theorem and_step {a b : IE} {σ : L2.St} {H : Hp} {Q : VK} (q : tE X.K L W (evalE Fs (.and a b)) σ H Q) :
    tE X.K L W (evalE Fs a) σ H fun x H1 => ∃ c, x = .bl c ∧ if c = true then tE X.K L W (evalE Fs b) σ H1 Q else Q (.bl false) H1 := by
  refine (step1 (f := fun δ x h => match x with | .bl k => if k = true then evalE Fs b δ h else some (.ok (.bl false) h) | _ => none) q).imp fun x H1 q => ?_
  obtain ⟨m, δ, h, x', r, R, S, vx, e, f⟩ := q
  obtain ⟨k, rfl, rfl, e⟩ := vr_bl vx e
  refine ⟨k, rfl, ?_⟩
  cases k with
  | false =>
    rw [if_neg Bool.false_ne_true] at e ⊢
    cases e
    exact f m _ H1 Ext.refl R (.bl _) Keep.refl
  | true =>
    rw [if_pos rfl] at e ⊢
    exact ⟨m, δ, h, [], r, R, S, .nil, e, f⟩
theorem or_step {a b : IE} {σ : L2.St} {H : Hp} {Q : VK} (q : tE X.K L W (evalE Fs (.or a b)) σ H Q) :
    tE X.K L W (evalE Fs a) σ H fun x H1 => ∃ c, x = .bl c ∧ if c = true then Q (.bl true) H1 else tE X.K L W (evalE Fs b) σ H1 Q := by
  refine (step1 (f := fun δ x h => match x with | .bl k => if k = true then some (.ok (.bl true) h) else evalE Fs b δ h | _ => none) q).imp fun x H1 q => ?_
  obtain ⟨m, δ, h, x', r, R, S, vx, e, f⟩ := q
  obtain ⟨k, rfl, rfl, e⟩ := vr_bl vx e
  refine ⟨k, rfl, ?_⟩
  cases k with
  | true =>
    rw [if_pos rfl] at e ⊢
    cases e
    exact f m _ H1 Ext.refl R (.bl _) Keep.refl
  | false =>
    rw [if_neg Bool.false_ne_true] at e ⊢
    exact ⟨m, δ, h, [], r, R, S, .nil, e, f⟩
theorem not_step {a : IE} {σ : L2.St} {H : Hp} {Q : VK} (q : tE X.K L W (evalE Fs (.not a)) σ H Q) :
    tE X.K L W (evalE Fs a) σ H fun x H1 => ∃ c, x = .bl c ∧ Q (.bl (!c)) H1 := by
  refine (step1 (f := fun δ x h => match x with | .bl b => some (.ok (.bl (!b)) h) | _ => none) q).imp fun x H1 q => ?_
  obtain ⟨m, δ, h, x', r, R, S, vx, e, f⟩ := q
  obtain ⟨k, rfl, rfl, e⟩ := vr_bl vx e
  cases e
  exact ⟨k, rfl, f m _ H1 Ext.refl R (.bl _) Keep.refl⟩
theorem if_step {c a b : IE} {σ : L2.St} {H : Hp} {Q : VK} (q : tE X.K L W (evalE Fs (.ife c a b)) σ H Q) :
    tIf (tT X.K L W (evalE Fs c)) (tE X.K L W (evalE Fs a)) (tE X.K L W (evalE Fs b)) σ H Q := by
  refine (step1 (f := fun δ x h => match x with | .bl k => if k = true then evalE Fs a δ h else evalE Fs b δ h | _ => none) q).imp fun x H1 q => ?_
  obtain ⟨m, δ, h, x', r, R, S, vx, e, f⟩ := q
  obtain ⟨k, rfl, rfl, e⟩ := vr_bl vx e
  refine ⟨k, rfl, ?_⟩
  cases k with
  | true =>
    rw [if_pos rfl] at e ⊢
    exact ⟨m, δ, h, [], r, R, S, .nil, e, f⟩
  | false =>
    rw [if_neg Bool.false_ne_true] at e ⊢
    exact ⟨m, δ, h, [], r, R, S, .nil, e, f⟩
def ptPlain : Expr → Bool
  | .Name .. | .Call .. | .Attribute .. | .Subscript .. | .Constant .. | .Tuple .. | .List .. | .ListComp .. | .BinOp .. => true
  | _ => false
theorem PT_val {e : Expr} {ev : Slots → AH → Res D} (h : PE X e (tE X.K L W ev)) (p : ptPlain e = true) : PT X e (tT X.K L W ev) :=
  pt_val h (by intro _; cases e <;> first | rfl | cases p)
theorem pw_of {op : BoolOp} {l : List Expr} {pos : Pos} {t : TT} (h : PT X (.BoolOp op l pos) t) : PW X (.BoolOp op l pos) t := ⟨fun _ pins s σ H Q I q => h.run pins s σ H Q I q⟩
theorem T_and {a b : IE} {x y : Expr} {r : List Expr} {pos : Pos} (ha : PT X x (tT X.K L W (evalE Fs a))) (hb : PW X (.BoolOp .And (y :: r) pos) (tT X.K L W (evalE Fs b))) : PT X (.BoolOp .And (x :: y :: r) pos) (tT X.K L W (evalE Fs (.and a b))) :=
  PT.imp (pw_and ha hb).pt fun σ H Q q => (and_step q).imp fun v H1 ⟨c, e, q⟩ => ⟨c, e, by
    cases c with
    | true => exact q
    | false => obtain ⟨_, e, q⟩ := q; cases e; exact q⟩
theorem T_or {a b : IE} {x y : Expr} {r : List Expr} {pos : Pos} (ha : PT X x (tT X.K L W (evalE Fs a))) (hb : PW X (.BoolOp .Or (y :: r) pos) (tT X.K L W (evalE Fs b))) : PT X (.BoolOp .Or (x :: y :: r) pos) (tT X.K L W (evalE Fs (.or a b))) :=
  PT.imp (pw_or ha hb).pt fun σ H Q q => (or_step q).imp fun v H1 ⟨c, e, q⟩ => ⟨c, e, by
    cases c with
    | false => exact q
    | true => obtain ⟨_, e, q⟩ := q; cases e; exact q⟩
theorem T_not {a : IE} {x : Expr} {pos : Pos} (ha : PT X x (tT X.K L W (evalE Fs a))) : PT X (.UnaryOp .Not x pos) (tT X.K L W (evalE Fs (.not a))) :=
  PT.imp (pt_not ha) fun σ H Q q => (not_step q).imp fun v H1 ⟨c, e, q⟩ => ⟨c, e, by obtain ⟨_, e, q⟩ := q; cases e; exact q⟩

/-! #### items, slices -/
theorem idxF_ne {x y : D} {h : AH} {e : Exc} : idxF x y h ≠ some (.ex e) := by
  unfold idxF
  split
  · split
    · split
      · exact map_ne fun _ _ z => by cases z
      · simp
    · exact map_ne fun _ _ z => by cases z
  · simp
theorem E_idx {a b : IE} {x y : Expr} {pos : Pos} (hs : notSlice y = true) (ha : PE X x (tE X.K L W (evalE Fs a))) (hb : PE X y (tE X.K L W (evalE Fs b))) : PE X (.Subscript x y pos) (tE X.K L W (evalE Fs (.idx a b))) :=
  PE.imp (pe_ix (ix_all (L := L)) ha hb (plainIx hs)) fun σ H Q q =>
    (step1 (f := fun δ x h => bindR (evalE Fs b δ h) fun y h => idxF x y h) q).imp fun v H1 q => (step2 (f := fun _ x y h => idxF x y h) q).imp fun w H2 q => q.go (fun _ _ _ _ => rfl) fun _ _ _ _ => idxF_ne
theorem vr_int {m : List Addr} {H : Hp} {v : V} {d : D} {f : Int → Res D} {r : R D} (rv : VR X.K L m H v d) (e : (match (generalizing := false) d with | .int k => f k | _ => none) = some r) : ∃ k, d = .int k ∧ v = .int k ∧ f k = some r := by
  cases d <;> first | (cases e; done) | skip
  cases rv
  exact ⟨_, rfl, rfl, e⟩
theorem fin_sl {m : List Addr} {H : Hp} {h : AH} {σ : L2.St} {x : V} {x' : D} {lo hi : Option Int} {r : R D} {Q : VK} (R : RH X.K L m H h) (vx : VR X.K L m H x x') (e : slR x' lo hi h = some r) (f : Fin X.K L W m H σ Q r) : rSl X.K L x lo hi H Q := by
  cases r with
  | ok d h' => exact ⟨m, h, x', d, h', R, vx, e, f⟩
  | ex ee => exact absurd e sl_ne
theorem E_sl2 {a lo hi : IE} {x y z : Expr} {pos p2 : Pos} (ha : PE X x (tE X.K L W (evalE Fs a))) (hl : PE X y (tE X.K L W (evalE Fs lo))) (hh : PE X z (tE X.K L W (evalE Fs hi))) : PE X (.Subscript x (.Slice (some y) (some z) none p2) pos) (tE X.K L W (evalE Fs (.sl2 a lo hi))) :=
  PE.imp (pe_slice (sl_all (L := L)) ha (po_some hl) (po_some hh)) fun σ H Q q => by
    refine (step1 (f := fun δ x h => bindR (evalE Fs lo δ h) fun y h => match y with
      | .int i => bindR (evalE Fs hi δ h) fun z h => match z with
        | .int j => slR x (some i) (some j) h
        | _ => none
      | _ => none) q).imp fun v H1 q => (step2 (f := fun δ x y h => match y with
      | .int i => bindR (evalE Fs hi δ h) fun z h => match z with
        | .int j => slR x (some i) (some j) h
        | _ => none
      | _ => none) q).imp fun w H2 q => ?_
    obtain ⟨m, δ, h, x', y', r, R, S, vx, vy, e, f⟩ := q
    obtain ⟨i, rfl, rfl, e⟩ := vr_int vy e
    refine ⟨i, rfl, ?_⟩
    rcases bindR_some e with ⟨z, h1, e2, e3⟩ | ⟨ee, e2, rfl⟩
    · refine ⟨m, δ, h, [], _, R, S, .nil, e2, fun m1 w H3 x1 R1 r1 k1 => ?_⟩
      obtain ⟨j, rfl, rfl, e⟩ := vr_int r1 e3
      exact ⟨j, rfl, fin_sl R1 (vx.keep R x1 k1) e (f.mono R R1 x1 k1)⟩
    · exact ⟨m, δ, h, [], _, R, S, .nil, e2, f⟩
theorem E_slF {a lo : IE} {x y : Expr} {pos p2 : Pos} (ha : PE X x (tE X.K L W (evalE Fs a))) (hl : PE X y (tE X.K L W (evalE Fs lo))) : PE X (.Subscript x (.Slice (some y) none none p2) pos) (tE X.K L W (evalE Fs (.slF a lo))) :=
  PE.imp (pe_slice (sl_all (L := L)) ha (po_some hl) po_none) fun σ H Q q => by
    refine (step1 (f := fun δ x h => bindR (evalE Fs lo δ h) fun y h => match y with
      | .int i => slR x (some i) none h
      | _ => none) q).imp fun v H1 q => (step2 (f := fun δ x y h => match y with
      | .int i => slR x (some i) none h
      | _ => none) q).imp fun w H2 q => ?_
    obtain ⟨m, δ, h, x', y', r, R, S, vx, vy, e, f⟩ := q
    obtain ⟨i, rfl, rfl, e⟩ := vr_int vy e
    exact ⟨i, rfl, fin_sl R vx e f⟩
theorem E_slT {a hi : IE} {x z : Expr} {pos p2 : Pos} (ha : PE X x (tE X.K L W (evalE Fs a))) (hl : PE X z (tE X.K L W (evalE Fs hi))) : PE X (.Subscript x (.Slice none (some z) none p2) pos) (tE X.K L W (evalE Fs (.slT a hi))) :=
  PE.imp (pe_slice (sl_all (L := L)) ha po_none (po_some hl)) fun σ H Q q => by
    refine (step1 (f := fun δ x h => bindR (evalE Fs hi δ h) fun y h => match y with
      | .int i => slR x none (some i) h
      | _ => none) q).imp fun v H1 q => (step2 (f := fun δ x y h => match y with
      | .int i => slR x none (some i) h
      | _ => none) q).imp fun w H2 q => ?_
    obtain ⟨m, δ, h, x', y', r, R, S, vx, vy, e, f⟩ := q
    obtain ⟨i, rfl, rfl, e⟩ := vr_int vy e
    exact ⟨i, rfl, fin_sl R vx e f⟩

/-! #### lists of values -/
theorem evalEs_len : ∀ (es : IEs) (l : List Expr) (δ : Slots) (h h' : AH) (ds : List D), chkEs G N es sc l = true → evalEs Fs es δ h = some (.ok ds h') → ds.length = l.length
  | .nil, l, _, _, _, _, c, e => by
    cases e
    cases l with
    | nil => rfl
    | cons => cases c
  | .cons a r, l, δ, h, h', ds, c, e => by
    cases l with
    | nil => simp [chkEs] at c
    | cons x y =>
      have c2 : chkEs G N r sc y = true := by
        simp only [chkEs, Bool.and_eq_true] at c
        exact c.2
      rcases bindR_some e with ⟨d, h1, _, e2⟩ | ⟨_, _, z⟩
      · rcases bindR_some e2 with ⟨d2, h2, e3, e4⟩ | ⟨_, _, z⟩
        · cases e4
          simp [evalEs_len r y δ h1 _ _ c2 e3]
        · cases z
      · cases z
theorem A_nil : PA X [] (tA X.K L W (evalEs Fs .nil)) := PA.imp pa_nil fun σ H Q q => by
  obtain ⟨m, δ, h, r, R, S, e, f⟩ := q
  cases e
  exact f m [] H Ext.refl R .nil Keep.refl
theorem A_cons {a : IE} {r : IEs} {x : Expr} {y : List Expr} (ha : PE X x (tE X.K L W (evalE Fs a))) (hr : PA X y (tA X.K L W (evalEs Fs r))) (hs : starEach (x :: y) X.env = (false, eval x X.env) :: starEach y X.env) : PA X (x :: y) (tA X.K L W (evalEs Fs (.cons a r))) :=
  PA.imp (pa_cons ha hr hs) fun σ H Q q => by
    obtain ⟨m, δ, h, r', R, S, e, f⟩ := q
    rcases bindR_some e with ⟨d, h1, e1, e2⟩ | ⟨ee, e1, rfl⟩
    · refine ⟨m, δ, h, [], _, R, S, .nil, e1, fun m1 v H1 x1 R1 r1 k1 => ?_⟩
      rcases bindR_some e2 with ⟨ds, h2, e3, e4⟩ | ⟨ee, e3, rfl⟩
      · cases e4
        exact ⟨m1, δ, h1, _, R1, S.keep R x1 k1, e3, fun m2 vs H2 x2 R2 r2 k2 => f m2 (v :: vs) H2 (x1.trans R R1 k1 x2) R2 (.cons (r1.keep R1 x2 k2) r2) (k1.trans R x1 k2)⟩
      · exact ⟨m1, δ, h1, _, R1, S.keep R x1 k1, e3, fun cls dx H2 q k2 => f cls dx H2 q (k1.trans R x1 k2)⟩
    · exact ⟨m, δ, h, [], _, R, S, .nil, e1, f⟩
theorem len_step {es : IEs} {l : List Expr} {σ : L2.St} {H : Hp} {Q : VK} {f : List D → AH → Res D} (c : chkEs G N es sc l = true) (hl : l.length ≤ 64) (q : tE X.K L W (fun δ h => bindR (evalEs Fs es δ h) fun vs h => f vs h) σ H Q) (n : ∀ x h e, f x h ≠ some (.ex e)) :
    tA X.K L W (evalEs Fs es) σ H fun vs H1 => vs.length ≤ sizeLine ∧ rL X.K L f vs H1 Q := by
  obtain ⟨m, δ, h, r, R, S, e, g⟩ := q.fin
  rcases bindR_some e with ⟨x, h1, e1, e2⟩ | ⟨ee, e1, rfl⟩
  · refine ⟨m, δ, h, _, R, S, e1, fun m1 v H1 x1 R1 r1 k1 => ⟨?_, ?_⟩⟩
    · rw [r1.length, evalEs_len es l δ h h1 x c e1]
      exact Nat.le_trans hl (by decide)
    · have g1 := g.mono R R1 x1 k1
      cases r with
      | ok d h' => exact ⟨m1, h1, x, d, h', R1, r1, e2, g1⟩
      | ex ee => exact absurd e2 (n _ _ _)
  · exact ⟨m, δ, h, _, R, S, e1, g⟩
theorem E_tup {es : IEs} {l : List Expr} {k : Nat} {pos : Pos} (c : chkEs G N es sc l = true) (hl : l.length ≤ 64) (h : PA X l (tA X.K L W (evalEs Fs es))) : PE X (.Tuple l k pos) (tE X.K L W (evalE Fs (.tup es))) :=
  PE.imp (pe_tup h) fun σ H Q q => (len_step (f := fun vs h => some (.ok (.tup vs) h)) c hl q (fun _ _ _ z => by cases z)).imp fun vs H1 ⟨hz, m, h, ds, d, h', R, rv, e, y⟩ => ⟨hz, fun p n => by cases e; exact y.tup R rv n⟩
theorem E_lst {es : IEs} {l : List Expr} {pos : Pos} (c : chkEs G N es sc l = true) (hl : l.length ≤ 64) (h : PA X l (tA X.K L W (evalEs Fs es))) : PE X (.List l pos) (tE X.K L W (evalE Fs (.lst es))) :=
  PE.imp (pe_lst h) fun σ H Q q => (len_step (f := fun vs h => some (.ok (.lst vs) h)) c hl q (fun _ _ _ z => by cases z)).imp fun vs H1 ⟨hz, m, h, ds, d, h', R, rv, e, y⟩ => ⟨hz, fun p n => by cases e; exact y.lst R rv n⟩
theorem E_mk {es : IEs} {l : List Expr} {pos : Pos} (c : chkEs G N es sc l = true) (hl : l.length ≤ 64) (h : PA X l (tA X.K L W (evalEs Fs es))) : PE X (.List l pos) (tE X.K L W (evalE Fs (.mk es))) :=
  PE.imp (pe_lst h) fun σ H Q q => (len_step (f := fun vs h => some (.ok (.loc h.length) (h ++ [.lst vs]))) c hl q (fun _ _ _ z => by cases z)).imp fun vs H1 ⟨hz, m, h, ds, d, h', R, rv, e, y⟩ => ⟨hz, fun p n => by cases e; exact y.loc R rv n⟩
/-- no star in it -/
def noStar : List Expr → Bool
  | [] => true
  | e :: r => notStar e && noStar r
theorem star_cons {env : Env} {e : Expr} {es : List Expr} (h : notStar e = true) : starEach (e :: es) env = (false, eval e env) :: starEach es env := by
  cases e <;> first | rfl | cases h
theorem star_any {pos : Pos} {env : Env} : ∀ {es : List Expr}, noStar es = true → (backTo pos (starEach es env)).any (·.1) = false
  | [], _ => rfl
  | e :: es, h => by
    simp only [noStar, Bool.and_eq_true] at h
    have ih := star_any (pos := pos) (env := env) h.2
    rw [star_cons h.1]
    simpa [backTo] using ih
theorem noStar_of : ∀ {es : IEs} {l : List Expr}, chkEs G N es sc l = true → noStar l = true
  | .nil, l, c => by cases l with
    | nil => rfl
    | cons => cases c
  | .cons a r, l, c => by
    cases l with
    | nil => rfl
    | cons x y =>
      simp only [chkEs, Bool.and_eq_true] at c
      simp only [noStar, c.1.1, noStar_of c.2]
      rfl
end
end MM
namespace MM
open PySem PySem.Spec PyProof.Rows L2
section
variable {X : Cx} {L : Pl} {G : Gam} {N : List Str} {Fs : Fn → List D → AH → Res D} {k : Nat} {sc : Scope} {W : WX}

/-! #### calls -/
theorem E_call (g : Gd L G N Fs k X sc W) {f : Fn} {es : IEs} {fe : Expr} {l : List Expr} {pos : Pos} (h1 : isGlobal sc fe (G.gname f) = true) (h2 : G.isG f = true) (c : chkEs G N es sc l = true) (hl : l.isEmpty = false) (h : PA X l (tA X.K L W (evalEs Fs es))) :
    PE X (.Call fe l [] pos) (tE X.K L W (evalE Fs (.call f es))) := by
  obtain ⟨p, rfl, g1, g2, g3⟩ := isGlobal_ok g h1
  obtain ⟨fd, ps, F, B⟩ := g.fs.fn f h2
  obtain ⟨m1, m2⟩ := g.fs.gl f h2
  cases l with
  | nil => cases hl
  | cons e l =>
    have ns := noStar_of c
    simp only [noStar, Bool.and_eq_true] at ns
    refine PE.imp (pe_callS (F L.hid) (g.hr.mono (Nat.le_succ k)) g1 m1 m2 B (E := WE W) (passAt g.tk) h g2 (star_cons ns.1) (star_any ns.2)) fun σ H Q q => ?_
    refine (stepL (f := fun _ vs h => Fs f vs h) q).imp fun vs H1 ⟨m, δ, h, xs, r, R, S, V, e, fin⟩ => ⟨m, h, xs, r, R, V, e, ?_⟩
    cases r with
    | ok d h' => exact fin
    | ex ee => exact fin
theorem E_bi (g : Gd L G N Fs k X sc W) {b : BI} {es : IEs} {fe : Expr} {l : List Expr} {pos : Pos} (h1 : isGlobal sc fe (biName b) = true) (ok : biOk b = true) (c : chkEs G N es sc l = true) (hl : l.isEmpty = false) (h : PA X l (tA X.K L W (evalEs Fs es))) :
    PE X (.Call fe l [] pos) (tE X.K L W (evalE Fs (.bi b es))) := by
  obtain ⟨p, rfl, g1, g2, g3⟩ := isGlobal_ok g h1
  cases l with
  | nil => cases hl
  | cons e l =>
    have ns := noStar_of c
    simp only [noStar, Bool.and_eq_true] at ns
    have step : ∀ σ H Q, tE X.K L W (evalE Fs (.bi b es)) σ H Q → tCB (rL X.K L (biR b)) (tA X.K L W (evalEs Fs es)) σ H Q := fun σ H Q q =>
      (stepL (f := fun _ vs h => biR b vs h) q).imp fun vs H1 q => q.go (fun _ _ _ => rfl) fun _ _ _ => bi_ne
    have hb := boot_bi b
    have cb := call_bi (L := L) g.calm b ok
    have key : (∃ id, biVal b = .builtin id) ∨ ∃ T, biVal b = .type T := by cases b <;> first | exact .inl ⟨_, rfl⟩ | exact .inr ⟨_, rfl⟩
    rcases key with ⟨id, e1⟩ | ⟨T, e1⟩
    · rw [e1] at hb cb
      exact PE.imp (pe_callB cb g1 (g.fs.bi b) hb h g3 g2 (star_cons ns.1) (star_any ns.2)) step
    · rw [e1] at hb cb
      exact PE.imp (pe_callTy cb g1 (g.fs.bi b) hb h g3 g2 (star_cons ns.1) (star_any ns.2)) step

/-! #### tables of the top -/
theorem kOf_is {m : List Addr} {H : Hp} {x : V} {x' : D} {u : Value} (r : VR X.K L m H x x') (ok : keyOk x' = true) (ru : RelV x u) : keyIs (kOf x') u = true := by
  cases r <;> first | (cases ok; done) | skip
  · obtain ⟨t, rfl⟩ := ru
    exact keyIs_int _ t
  · obtain ⟨t, rfl⟩ := ru
    exact keyIs_str _ t
theorem kOf_eq {a b : D} (ha : keyOk a = true) (hb : keyOk b = true) : decide (kOf b = kOf a) = eqD a b := by
  cases a <;> first | (cases ha; done) | skip
  all_goals (cases b <;> first | (cases hb; done) | skip)
  · rw [Bool.eq_iff_iff]
    simp [kOf, eqD]
    exact ⟨fun h => h.symm, fun h => h.symm⟩
  · rw [Bool.eq_iff_iff]
    simp [kOf, eqD]
  · rw [Bool.eq_iff_iff]
    simp [kOf, eqD]
  · rw [Bool.eq_iff_iff]
    rw [decide_eq_true_iff]
    simp only [kOf, eqD, beq_iff_eq]
    exact ⟨fun h => (sOf_inj (Sum.inr.inj h)).symm, fun h => by rw [h]⟩
theorem tab_find {w : World} {fn : Fn → Addr} (hf : L.fn = fn) {x' : D} (ok : keyOk x' = true) : ∀ (es : List DictEntry) (t : List (D × D)), TabEs w X.K fn es t →
    match tabGet t x' with
    | some d => ∃ e, es.find? (fun e => keyIs (kOf x') e.key) = some e ∧ RelV (toV e.val) e.val ∧ ∀ m H, VR X.K L m H (toV e.val) d
    | none => es.find? (fun e => keyIs (kOf x') e.key) = none
  | [], [], _ => rfl
  | [], _ :: _, h => h.elim
  | _ :: _, [], h => h.elim
  | e :: es, p :: ps, ⟨⟨h0, h1, h2, h3, h4⟩, hr⟩ => by
    have ih := tab_find hf ok es ps hr
    have ek : keyIs (kOf x') e.key = eqD p.1 x' := by
      have := KeyKind.is_eq_decide (knd := mixKind X.prog X.w) h1 (kOf x')
      rw [mixKind_is] at this
      rw [this, kOf_eq h0 ok]
    unfold tabGet
    rw [List.find?_cons, ek]
    cases q : eqD p.1 x' with
    | true => exact ⟨e, rfl, h3, fun m H => h4 L m H hf⟩
    | false => exact ih
theorem tab_map {w : World} {fn : Fn → Addr} {es : List DictEntry} {t : List (D × D)} (h : TabEs w X.K fn es t) : ∀ e ∈ es, ∃ k, keyIs k e.key = true ∧ e.hash = keyH w k := by
  induction es generalizing t with
  | nil => intro e he; simp at he
  | cons e es ih =>
    cases t with
    | nil => exact h.elim
    | cons p ps =>
      obtain ⟨⟨_, h1, h2, _, _⟩, hr⟩ := h
      intro e' he
      rcases List.mem_cons.mp he with rfl | he
      · exact ⟨_, h1, h2⟩
      · exact ih hr e' he
theorem tab_mapOf {pins : List (Addr × Obj)} {σ : L2.St} {H : Hp} {s : Shared} {fn : Fn → Addr} {a : Addr} {t : List (D × D)} (I : L2.Inv X pins σ H s) (h : TabAt X.w X.K fn a t) :
    ∃ es n, (a == sysModules) = false ∧ TabEs X.w X.K fn es.toList t ∧ s.heap.MapOf (mixKind X.prog X.w) a (fun k => findBy keyIs es k) ∧ X.K.lookup a = some ⟨.type "dict", none, .dict es n, #[]⟩ := by
  obtain ⟨es, n, h1, h2, h3⟩ := h
  exact ⟨es, n, h2, h3, ⟨_, es, n, I.kIn _ _ h1, ⟨rfl, rfl, rfl⟩, rfl, fun e he => tab_map h3 e (Array.mem_toList_iff.mpr he), fun _ => rfl⟩, h1⟩
theorem find_list {es : Array DictEntry} {k : Key} : findBy keyIs es k = (es.toList.find? fun e => keyIs k e.key).map (·.val) := by
  unfold findBy
  rw [← Array.find?_toList]
def rTab (K : PySem.W.Frag) (L : Pl) (a : Addr) (t : List (D × D)) (neg : Bool) : R2 := fun x y H Q => ∃ m h x', RH K L m H h ∧ VR K L m H x x' ∧ y = .ref a ∧ keyOk x' = true ∧ Q (.bl (if neg then !(tabGet t x').isSome else (tabGet t x').isSome)) H
theorem tab_some {pins : List (Addr × Obj)} {σ : L2.St} {H : Hp} {s : Shared} {a : Addr} {t : List (D × D)} {x' : D} (I : L2.Inv X pins σ H s) (h : TabAt X.w X.K L.fn a t) (ok : keyOk x' = true) :
    ∃ es, (a == sysModules) = false ∧ s.heap.MapOf (mixKind X.prog X.w) a (fun k => findBy keyIs es k) ∧ (findBy keyIs es (kOf x')).isSome = (tabGet t x').isSome ∧ ∀ d, tabGet t x' = some d → ∃ u, findBy keyIs es (kOf x') = some u ∧ RelV (toV u) u ∧ ∀ m H, VR X.K L m H (toV u) d := by
  obtain ⟨es, n, low, te, mo, _⟩ := tab_mapOf I h
  have f := tab_find (L := L) rfl ok es.toList t te
  refine ⟨es, low, mo, ?_, fun d hd => ?_⟩
  · rw [find_list]
    cases q : tabGet t x' with
    | none => rw [q] at f; rw [f]; rfl
    | some d => rw [q] at f; obtain ⟨e, e1, _⟩ := f; rw [e1]; rfl
  · rw [hd] at f
    obtain ⟨e, e1, e2, e3⟩ := f
    exact ⟨e.val, by rw [find_list, e1]; rfl, e2, e3⟩
theorem op_tab {a : Addr} {t : List (D × D)} (h : TabAt X.w X.K L.fn a t) {neg : Bool} {p : CmpOp} (ep : p = if neg then .NotIn else .In) : OpR X (compareOp p) (rTab X.K L a t neg) := by
  intro pins s σ H x y v u Q I rx ry ⟨m, hh, x', R, vx, ey, ok, q⟩
  subst ey
  cases ry
  obtain ⟨es, low, mo, e1, _⟩ := tab_some I h ok
  subst ep
  cases neg with
  | false =>
    refine wpAny_in_of (knd := mixKind X.prog X.w) (k := kOf x') (kOf_is vx ok rx) low mo ?_
    rw [e1]
    exact ⟨.bl _, H, I.tok _, rfl, q⟩
  | true =>
    refine wpAny_notIn_of (knd := mixKind X.prog X.w) (k := kOf x') (kOf_is vx ok rx) low mo ?_
    rw [e1]
    exact ⟨.bl _, H, I.tok _, rfl, q⟩
theorem tab_gl (g : Gd L G N Fs k X sc W) {n : String} {t : List (D × D)} (h : tabIn G n t = true) : ∃ a, X.mg (Str.ofString n) = some (.ref a) ∧ TabAt X.w X.K L.fn a t := by
  unfold tabIn at h
  rw [List.any_eq_true] at h
  obtain ⟨p, hp, h2⟩ := h
  simp only [Bool.and_eq_true, decide_eq_true_eq] at h2
  have e : ∀ (x y : List (D × D)), beqTab x y = true → x = y := by
    intro x
    induction x with
    | nil => intro y hy; cases y with
      | nil => rfl
      | cons => simp [beqTab] at hy
    | cons a x ih => intro y hy; cases y with
      | nil => simp [beqTab] at hy
      | cons b y =>
        simp only [beqTab, Bool.and_eq_true] at hy
        obtain ⟨⟨h1, h2⟩, h3⟩ := hy
        rw [ih y h3, show a = b from Prod.ext (beqD_ok h1) (beqD_ok h2)]
  have := e _ _ h2.2
  obtain ⟨a, h3, h4⟩ := g.fs.tabs p hp
  rw [h2.1] at h3
  rw [this] at h4
  exact ⟨a, h3, h4⟩
theorem E_gin (g : Gd L G N Fs k X sc W) {n : String} {t : List (D × D)} {a : IE} {x y : Expr} {pos : Pos} (h1 : isGlobal sc y n = true) (h2 : tabIn G n t = true) (ha : PE X x (tE X.K L W (evalE Fs a))) :
    (PE X (.Compare x [.In] [y] pos) (tE X.K L W (evalE Fs (.gin n t a))) ∧ PT X (.Compare x [.In] [y] pos) (tT X.K L W (evalE Fs (.gin n t a)))) ∧
    (PE X (.Compare x [.NotIn] [y] pos) (tE X.K L W (evalE Fs (.gnin n t a))) ∧ PT X (.Compare x [.NotIn] [y] pos) (tT X.K L W (evalE Fs (.gnin n t a)))) := by
  obtain ⟨pp, rfl, g1, g2, g3⟩ := isGlobal_ok g h1
  obtain ⟨ad, m1, tb⟩ := tab_gl g h2
  have step : ∀ (neg : Bool) σ H Q, tE X.K L W (fun δ h => bindR (evalE Fs a δ h) fun x h => if keyOk x then some (.ok (.bl (if neg then !(tabGet t x).isSome else (tabGet t x).isSome)) h) else none) σ H Q → tOp (rTab X.K L ad t neg) (tE X.K L W (evalE Fs a)) (tC (.ref ad)) σ H Q := fun neg σ H Q q => by
    refine (step1 (f := fun δ x h => if keyOk x then some (.ok (.bl (if neg then !(tabGet t x).isSome else (tabGet t x).isSome)) h) else none) q).imp fun v H1 ⟨m, δ, h, x', r, R, S, vx, e, f⟩ => ?_
    obtain ⟨ok, e⟩ := if_some e
    cases e
    exact ⟨m, h, x', R, vx, rfl, ok, f m _ H1 Ext.refl R (.bl _) Keep.refl⟩
  have pg := pe_glob (v := .ref ad) (pos := pp) g1 m1 rfl g2
  exact ⟨⟨PE.imp (pe_cmpR (op_tab (L := L) tb (neg := false) rfl) ha pg rfl) (step false), PT.imp (pt_cmpR (op_tab (L := L) tb (neg := false) rfl) ha pg rfl) fun σ H Q q => step false σ H _ q⟩,
    ⟨PE.imp (pe_cmpR (op_tab (L := L) tb (neg := true) rfl) ha pg rfl) (step true), PT.imp (pt_cmpR (op_tab (L := L) tb (neg := true) rfl) ha pg rfl) fun σ H Q q => step true σ H _ q⟩⟩
theorem E_gget (g : Gd L G N Fs k X sc W) {n : String} {t : List (D × D)} {a : IE} {x y : Expr} {pos : Pos} (h1 : isGlobal sc x n = true) (h2 : tabIn G n t = true) (hs : notSlice y = true) (ha : PE X y (tE X.K L W (evalE Fs a))) :
    PE X (.Subscript x y pos) (tE X.K L W (evalE Fs (.gget n t a))) := by
  obtain ⟨pp, rfl, g1, g2, g3⟩ := isGlobal_ok g h1
  obtain ⟨ad, m1, tb⟩ := tab_gl g h2
  refine ⟨fun pins s σ H Q I q => ?_⟩
  refine subD_of PySem.F.slot_dict_getitem.lookup (plainIx hs) (ld_glob I g1 m1 ?_ g2)
  have q := step1 (f := fun δ x h => if keyOk x then (tabGet t x).map fun d => .ok d h else none) q
  refine thn (ha.run pins s σ H _ I q) fun iv s2 ⟨y', H2, I2, ry, m, δ, h, x', r, R, S, vx, e, f⟩ => ?_
  obtain ⟨ok, e⟩ := if_some e
  obtain ⟨d, e1, e2⟩ := Option.map_eq_some_iff.mp e
  subst e2
  obtain ⟨es, low, mo, _, e3⟩ := tab_some I2 tb ok
  obtain ⟨u, e4, ru, vr⟩ := e3 d e1
  exact ⟨mo.typeIs, wpAny_getItem_of (knd := mixKind X.prog X.w) (k := kOf x') (kOf_is vx ok ry) mo e4 ⟨toV u, H2, I2.tok _, ru, f m _ H2 Ext.refl R (vr m H2) Keep.refl⟩⟩
/-! #### methods of lists, texts -/
theorem base_ok {o : Expr} {nm : Str} {env : Env} (h : plainBase o = true) : attributeBase o nm env (eval o env) = eval o env := by
  cases o <;> first | rfl | skip
  rename_i f l kw p
  cases f <;> first | rfl | skip
  cases l <;> first | rfl | skip
  cases kw <;> first | rfl | (cases h; done)
theorem few1 {pos : Pos} {env : Env} {e : Expr} (h : notStar e = true) : ((backTo pos (starEach [e] env)).all (fun x => !x.1) && (backToKw pos (keywordEach [] env)).all (fun x => x.1.isSome) && decide ([e].length + ([] : List Keyword).length + (if ([] : List Keyword).isEmpty then 0 else 1) < 30)) = true := by
  rw [star_cons h]
  rfl
theorem isLst_ty {m : List Addr} {H : Hp} {h : AH} {x : V} {x' : D} (R : RH X.K L m H h) (r : VR X.K L m H x x') (e : isLst h x' = true) : tyV X.K "list" x H := by
  have go : ∀ l, lstOf h x' = some l → tyV X.K "list" x H := fun l e => by
    obtain ⟨a, xs, rfl, q, _⟩ := r.list R e
    exact .inl ⟨rfl, xs, q⟩
  cases x' with
  | lst l => exact go l rfl
  | inp l => exact go l rfl
  | loc n =>
    unfold isLst at e
    simp only at e
    split at e
    · rename_i l e1
      exact go l (by simp [lstOf, e1])
    · cases e
  | _ => cases e
/-- x.m(y) -/
theorem E_m1 {a b ir : IE} {T id : String} {nm : Str} {ok : AH → D → Bool} {f : D → D → AH → Res D} {o y : Expr} {ap pos : Pos} (pa : PlainAttrs T) (slot : Slot T nm id) (hty : typeOf (.builtin id) = pure (.type "method_descriptor"))
    (hm : MtR X id (fun x vs H Q => ∃ y, vs = [y] ∧ r2 X.K L f x y H Q)) (ty : ∀ {m H h x x'}, RH X.K L m H h → VR X.K L m H x x' → ok h x' = true → tyV X.K T x H) (n : ∀ x y h e, f x y h ≠ some (.ex e))
    (he : ∀ δ h, evalE Fs ir δ h = bindR (evalE Fs a δ h) fun x h => if ok h x then bindR (evalE Fs b δ h) fun y h => f x y h else none)
    (ho : PE X o (tE X.K L W (evalE Fs a))) (hy : PE X y (tE X.K L W (evalE Fs b))) (h1 : plainBase o = true) (h2 : notStar y = true) (h3 : (ap.endLine == pos.line) = true) :
    PE X (.Call (.Attribute o nm ap) [y] [] pos) (tE X.K L W (evalE Fs ir)) :=
  PE.imp (pe_bm pa slot hty hm ho (pa_cons hy pa_nil (star_cons h2)) (base_ok h1) (few1 h2) h3 (star_cons h2) rfl) fun σ H Q q => by
    have e0 : evalE Fs ir = fun δ h => bindR (evalE Fs a δ h) fun x h => if ok h x then bindR (evalE Fs b δ h) fun y h => f x y h else none := funext fun δ => funext fun h => he δ h
    rw [e0] at q
    refine (step1 (f := fun δ x h => if ok h x then bindR (evalE Fs b δ h) fun y h => f x y h else none) q).imp fun x H1 ⟨m, δ, h, x', r, R, S, vx, e, fin⟩ => ?_
    obtain ⟨c, e⟩ := if_some e
    refine ⟨ty R vx c, ?_⟩
    have q2 : Hold1 X.K L W σ Q (fun δ x h => bindR (evalE Fs b δ h) fun y h => f x y h) x H1 := ⟨m, δ, h, x', r, R, S, vx, e, fin⟩
    exact (step2 (f := fun _ x y h => f x y h) q2).imp fun y H2 q => ⟨y, rfl, q.go (fun _ _ _ _ => rfl) n⟩
theorem ty_desc : typeOf (.builtin "list.append") = pure (.type "method_descriptor") ∧ typeOf (.builtin "list.extend") = pure (.type "method_descriptor") ∧ typeOf (.builtin "list.count") = pure (.type "method_descriptor") ∧ typeOf (.builtin "list.pop") = pure (.type "method_descriptor")
    ∧ typeOf (.builtin "str.join") = pure (.type "method_descriptor") ∧ typeOf (.builtin "tuple.index") = pure (.type "method_descriptor") := by
  refine ⟨?_, ?_, ?_, ?_, ?_, ?_⟩ <;> rfl
theorem appF_ne {x y : D} {h : AH} {e : Exc} : appF x y h ≠ some (.ex e) := by
  unfold appF
  split
  · split
    · split <;> simp
    · simp
  · simp
theorem extF_ne {x y : D} {h : AH} {e : Exc} : extF x y h ≠ some (.ex e) := by
  unfold extF
  split
  · split
    · split <;> simp
    · simp
  · simp
theorem popF_ne {x : D} {h : AH} {e : Exc} : popF x h ≠ some (.ex e) := by
  unfold popF
  split
  · split
    · exact map_ne fun _ _ z => by cases z
    · simp
  · simp
theorem cntF_ne {x y : D} {h : AH} {e : Exc} : cntF x y h ≠ some (.ex e) := by
  unfold cntF
  split <;> simp
theorem joinF_ne {x y : D} {h : AH} {e : Exc} : joinF x y h ≠ some (.ex e) := by
  unfold joinF
  split
  · split <;> simp
  · simp
theorem ixF_ne {x y : D} {h : AH} {e : Exc} : ixF x y h ≠ some (.ex e) := by
  unfold ixF
  split
  · split
    · exact map_ne fun _ _ z => by cases z
    · simp
  · simp
theorem E_app {a b : IE} {o y : Expr} {ap pos : Pos} (ho : PE X o (tE X.K L W (evalE Fs a))) (hy : PE X y (tE X.K L W (evalE Fs b))) (h1 : plainBase o = true) (h2 : notStar y = true) (h3 : (ap.endLine == pos.line) = true) :
    PE X (.Call (.Attribute o (Str.ofString "append") ap) [y] [] pos) (tE X.K L W (evalE Fs (.app a b))) :=
  E_m1 (f := appF) F.plainAttrs_list F.slot_list_append ty_desc.1 mt_app (fun R r e => isLst_ty R r e) (fun _ _ _ _ => appF_ne) (fun _ _ => rfl) ho hy h1 h2 h3
theorem E_ext {a b : IE} {o y : Expr} {ap pos : Pos} (ho : PE X o (tE X.K L W (evalE Fs a))) (hy : PE X y (tE X.K L W (evalE Fs b))) (h1 : plainBase o = true) (h2 : notStar y = true) (h3 : (ap.endLine == pos.line) = true) :
    PE X (.Call (.Attribute o (Str.ofString "extend") ap) [y] [] pos) (tE X.K L W (evalE Fs (.ext a b))) :=
  E_m1 (f := extF) F.plainAttrs_list F.slot_list_extend ty_desc.2.1 mt_ext (fun R r e => isLst_ty R r e) (fun _ _ _ _ => extF_ne) (fun _ _ => rfl) ho hy h1 h2 h3
theorem E_cnt {a b : IE} {o y : Expr} {ap pos : Pos} (ho : PE X o (tE X.K L W (evalE Fs a))) (hy : PE X y (tE X.K L W (evalE Fs b))) (h1 : plainBase o = true) (h2 : notStar y = true) (h3 : (ap.endLine == pos.line) = true) :
    PE X (.Call (.Attribute o (Str.ofString "count") ap) [y] [] pos) (tE X.K L W (evalE Fs (.cnt a b))) :=
  E_m1 (f := cntF) F.plainAttrs_list F.slot_list_count ty_desc.2.2.1 mt_cnt (fun R r e => isLst_ty R r e) (fun _ _ _ _ => cntF_ne) (fun _ _ => rfl) ho hy h1 h2 h3
theorem E_join {a b : IE} {o y : Expr} {ap pos : Pos} (ho : PE X o (tE X.K L W (evalE Fs a))) (hy : PE X y (tE X.K L W (evalE Fs b))) (h1 : plainBase o = true) (h2 : notStar y = true) (h3 : (ap.endLine == pos.line) = true) :
    PE X (.Call (.Attribute o (Str.ofString "join") ap) [y] [] pos) (tE X.K L W (evalE Fs (.join a b))) :=
  E_m1 (f := joinF) (ok := fun _ x => isStrD x) F.plainAttrs_str F.slot_str_join ty_desc.2.2.2.2.1 mt_joins (fun R r e => by cases r <;> first | rfl | cases e) (fun _ _ _ _ => joinF_ne) (fun _ _ => rfl) ho hy h1 h2 h3
theorem E_index (g : Gd L G N Fs k X sc W) {t : List D} {b : IE} {gn : String} {o y : Expr} {ap pos : Pos} (h0 : isGlobal sc o gn = true) (h00 : glIn G gn (.tup t) = true) (hy : PE X y (tE X.K L W (evalE Fs b))) (h1 : plainBase o = true) (h2 : notStar y = true) (h3 : (ap.endLine == pos.line) = true) :
    PE X (.Call (.Attribute o (Str.ofString "index") ap) [y] [] pos) (tE X.K L W (evalE Fs (.index (.gl gn (.tup t)) b))) := by
  obtain ⟨p0, rfl, g1, g2, g3⟩ := isGlobal_ok g h0
  unfold glIn at h00
  rw [List.any_eq_true] at h00
  obtain ⟨p, hp, h3'⟩ := h00
  simp only [Bool.and_eq_true, decide_eq_true_eq] at h3'
  have e1 := beqD_ok h3'.2
  obtain ⟨u, v, m1, r, vr, ktu⟩ := g.fs.gls p hp
  rw [h3'.1] at m1
  obtain ⟨a, ob, rfl, lk, lc, ld⟩ := ktu t e1
  rw [e1] at vr
  refine PE.imp (pe_bm F.plainAttrs_tuple F.slot_tuple_index ty_desc.2.2.2.2.2 mt_tix (pe_glob g1 m1 r g2) (pa_cons hy pa_nil (star_cons h2)) (base_ok h1) (few1 h2) h3 (star_cons h2) rfl) fun σ H Q q => ?_
  refine ⟨.inr (.inl ⟨rfl, ob, lk, lc, ld⟩), ?_⟩
  obtain ⟨m, δ, h, r', R, S, e, f⟩ := q.fin
  have e : (bindR (evalE Fs b δ h) fun y h => ixF (.tup t) y h) = some r' := e
  have vx := vr L.hid m H h R
  rcases bindR_some e with ⟨d, h1, e2, e3⟩ | ⟨ee, e2, rfl⟩
  · refine ⟨m, δ, h, [], _, R, S, .nil, e2, fun m2 w H2 x2 R2 r2 k2 => tix_of R2 (vx.keep R x2 k2) r2 e3 fun d h' z => ?_⟩
    subst z
    exact f.mono R R2 x2 k2
  · exact ⟨m, δ, h, [], _, R, S, .nil, e2, f⟩
theorem E_pop {a : IE} {o : Expr} {ap pos : Pos} (ho : PE X o (tE X.K L W (evalE Fs a))) (h1 : plainBase o = true) (h3 : (ap.endLine == pos.line) = true) :
    PE X (.Call (.Attribute o (Str.ofString "pop") ap) [] [] pos) (tE X.K L W (evalE Fs (.pop a))) :=
  PE.imp (pe_bm0 F.plainAttrs_list F.slot_list_pop ty_desc.2.2.2.1 (mt_pops (L := L)) ho (base_ok h1) h3) fun σ H Q q => by
    refine (step1 (f := fun _ x h => popF x h) q).imp fun x H1 q => ?_
    have q : r1 X.K L popF x H1 Q := q.go (fun _ _ _ => rfl) fun _ _ _ => popF_ne
    refine ⟨?_, rfl, q⟩
    obtain ⟨m, h, x', d, h', R, vx, e, q⟩ := q
    refine isLst_ty R vx ?_
    unfold popF at e
    split at e
    · split at e
      · rename_i e1
        simp [e1]
      · cases e
    · cases e

/-! #### targets -/
def tgV : List Nat → List V → L2.St → L2.St
  | i :: is, v :: vs, σ => tgV is vs (σ.set i (some v))
  | _, _, σ => σ
theorem onlyLoc_ok {sc : Scope} {x : Str} (h : onlyLoc sc x = true) : sc.names.lookup x = some .local := by
  unfold onlyLoc at h
  split at h
  · rename_i q; exact q
  · cases h
theorem names_ok (hN : X.N = N) (nd : N.Nodup) (hs : X.env.scope = sc) : ∀ (is : List Nat) (es : List Expr), chkNames N sc is es = true → PGs X es (fun vs σ H Q => vs.length = is.length ∧ Q (tgV is vs σ) H) ∧ (assignEach es X.env).length = is.length ∧ (assignEach es X.env).findIdx? (·.1) = none
  | [], [], _ => ⟨⟨fun pins s σ H vs us Q I r ⟨q1, q⟩ => by
      cases vs with
      | nil => exact pgs_nil.run pins s σ H [] us Q I r ⟨rfl, q⟩
      | cons => cases q1⟩, rfl, rfl⟩
  | [], _ :: _, h => by cases h
  | _ :: _, [], h => by cases h
  | i :: is, e :: es, h => by
    simp only [chkNames, Bool.and_eq_true] at h
    obtain ⟨h1, h2⟩ := h
    obtain ⟨ih, il, ii⟩ := names_ok hN nd hs is es h2
    split at h1
    · rename_i x pos
      simp only [Bool.and_eq_true, decide_eq_true_eq] at h1
      have lk : X.env.scope.names.lookup x = some .local := by rw [hs]; exact onlyLoc_ok h1.2
      have hd : PG X (.Name x pos) (gName i) := pg_name (by rw [hN]; exact nd) (by rw [hN]; exact h1.1) (.inl lk) (.inr lk)
      refine ⟨⟨fun pins s σ H vs us Q I r ⟨q1, q⟩ => ?_⟩, congrArg (· + 1) il, ?_⟩
      · cases vs with
        | nil => cases q1
        | cons v vs => exact (pgs_cons hd ih).run pins s σ H (v :: vs) us Q I r ⟨v, vs, rfl, by simpa using q1, q⟩
      · show List.findIdx? _ ((false, assign (.Name x pos) X.env) :: assignEach es X.env) = none
        rw [List.findIdx?_cons, ii]
        rfl
    · cases h1
/-- what a target makes of a value -/
def gT (K : PySem.W.Frag) (t : Tg) : TG := fun v σ H Q => match t with
  | .one i => Q (σ.set i (some v)) H
  | .tup is => ∃ a xs, v = .ref a ∧ SqT K H a xs ∧ xs.length = is.length ∧ Q (tgV is xs σ) H
theorem tg_ok (hN : X.N = N) (nd : N.Nodup) (hs : X.env.scope = sc) (hc : X.calm = true) {t : Tg} {e : Expr} (h : chkTg N sc t e = true) : PG X e (gT X.K t) := by
  cases t with
  | one i =>
    have h : chkNames N sc [i] [e] = true := h
    simp only [chkNames, Bool.and_eq_true] at h
    obtain ⟨h1, _⟩ := h
    split at h1
    · rename_i x pos
      simp only [Bool.and_eq_true, decide_eq_true_eq] at h1
      have lk : X.env.scope.names.lookup x = some .local := by rw [hs]; exact onlyLoc_ok h1.2
      exact pg_name (by rw [hN]; exact nd) (by rw [hN]; exact h1.1) (.inl lk) (.inr lk)
    · cases h1
  | tup is =>
    unfold chkTg at h
    simp only at h
    split at h
    · rename_i es k pos
      obtain ⟨h1, h2, h3⟩ := names_ok hN nd hs is es h
      exact ⟨fun pins s σ H v u Q I r ⟨a, xs, e1, e2, e3, q⟩ => (pg_tup (n := is.length) hc h1 h2 h3).run pins s σ H v u Q I r ⟨a, xs, e1, e2, e3, e3, q⟩⟩
    · cases h
end

section
variable {K : PySem.W.Frag} {L : Pl} {m : List Addr} {H : Hp} {σ : L2.St} {δ : Slots}
theorem RSl.setAll : ∀ {is : List Nat} {vs : List V} {ds : List D} {σ : L2.St} {δ : Slots}, RSl K L m H σ δ → VRs K L m H vs ds → RSl K L m H (tgV is vs σ) (setAll δ is ds)
  | [], _, _, _, _, S, _ => S
  | _ :: _, _, _, _, _, S, .nil => S
  | i :: is, _ :: vs, _ :: ds, _, _, S, .cons r rs => RSl.setAll (is := is) (vs := vs) (ds := ds) (S.set i r) rs
/-- the target takes the datum: so it takes the value -/
theorem gT_go {t : Tg} {v : V} {d : D} {δ' : Slots} {Q : L2.St → Hp → Prop} (S : RSl K L m H σ δ) (r : VR K L m H v d) (e : bindT t d δ = some δ') (q : ∀ σ', RSl K L m H σ' δ' → (∃ vs, σ' = tgV (tgSlots t) vs σ) → Q σ' H) : gT K t v σ H Q := by
  cases t with
  | one i => cases e; exact q _ (S.set i r) ⟨[v], rfl⟩
  | tup is =>
    unfold bindT at e
    simp only at e
    split at e
    · obtain ⟨a, xs, rfl, sq, rs⟩ := r.inv_tup
      obtain ⟨c, e⟩ := if_some e
      cases e
      exact ⟨a, xs, rfl, sq, by rw [rs.length]; exact c, q _ (S.setAll rs) ⟨xs, rfl⟩⟩
    · cases e
theorem tgV_length : ∀ (is : List Nat) (vs : List V) (σ : L2.St), (tgV is vs σ).length = σ.length
  | [], _, _ => rfl
  | _ :: _, [], _ => rfl
  | i :: is, v :: vs, σ => by rw [tgV, tgV_length is vs, List.length_set]
theorem tgV_out {i : Nat} : ∀ (is : List Nat) (vs : List V) (σ : L2.St), i ∉ is → (tgV is vs σ)[i]? = σ[i]?
  | [], _, _, _ => rfl
  | _ :: _, [], _, _ => rfl
  | j :: is, v :: vs, σ, h => by
    simp only [List.mem_cons, not_or] at h
    rw [tgV, tgV_out is vs _ h.2, List.getElem?_set_ne (fun z => h.1 z.symm)]
theorem wipe_in {i : Nat} : ∀ {vs : List Nat} {σ : L2.St}, i ∈ vs → i < σ.length → (L2.wipe σ vs)[i]? = some none
  | [], _, h, _ => by simp at h
  | v :: vs, σ, h, lt => by
    show ((L2.wipe σ vs).set v none)[i]? = some none
    by_cases hv : v = i
    · subst hv
      rw [List.getElem?_set_self (by rw [wipe_length]; exact lt)]
    · rw [List.getElem?_set_ne hv]
      rcases List.mem_cons.mp h with h | h
      · exact absurd h.symm hv
      · exact wipe_in h lt
/-- what a target writes is wiped again -/
theorem wipe_tgV (is : List Nat) (vs : List V) (σ : L2.St) : L2.wipe (tgV is vs σ) is = L2.wipe σ is := by
  apply List.ext_getElem?
  intro i
  by_cases h : i ∈ is
  · by_cases lt : i < σ.length
    · rw [wipe_in h (by rw [tgV_length]; exact lt), wipe_in h lt]
    · rw [List.getElem?_eq_none (by rw [wipe_length, tgV_length]; omega), List.getElem?_eq_none (by rw [wipe_length]; omega)]
  · rw [wipe_out h, wipe_out h, tgV_out is vs σ h]
theorem wipeSs_some {i : Nat} {d : D} : ∀ {is : List Nat} {δ : Slots}, (is.foldl wipeS δ)[i]? = some (some d) → δ[i]? = some (some d) ∧ i ∉ is
  | [], _, h => ⟨h, by simp⟩
  | j :: is, δ, h => by
    obtain ⟨h1, h2⟩ := wipeSs_some (is := is) h
    rw [wipeS_eq] at h1
    by_cases hj : j = i
    · subst hj
      by_cases lt : j < δ.length
      · rw [List.getElem?_set_self lt] at h1; cases h1
      · rw [List.getElem?_eq_none (by rw [List.length_set]; omega)] at h1; cases h1
    · rw [List.getElem?_set_ne hj] at h1
      exact ⟨h1, by simp [h2]; exact fun z => hj z.symm⟩
theorem wipeSs_len : ∀ (is : List Nat) (δ : Slots), (is.foldl wipeS δ).length = δ.length
  | [], _ => rfl
  | j :: is, δ => by rw [List.foldl_cons, wipeSs_len is, wipeS_eq, List.length_set]
theorem wipeT_eq (t : Tg) (δ : Slots) : wipeT t δ = (tgSlots t).foldl wipeS δ := by cases t <;> rfl
theorem RSl.wipe (S : RSl K L m H σ δ) (t : Tg) : RSl K L m H (L2.wipe σ (tgSlots t)) (wipeT t δ) := by
  rw [wipeT_eq]
  refine ⟨by rw [wipe_length, wipeSs_len]; exact S.1, fun i d e => ?_⟩
  obtain ⟨e1, e2⟩ := wipeSs_some e
  obtain ⟨v, e3, r⟩ := S.2 i d e1
  exact ⟨v, by rw [wipe_out e2]; exact e3, r⟩
end
end MM
namespace MM
open PySem PySem.Spec PyProof.Rows L2

/-! ### what a datum needs of the heap -/
structure Carry (K : PySem.W.Frag) (L L' : Pl) (m m' : List Addr) (H H' : Hp) : Prop where
  fn : L'.fn = L.fn
  cl : L'.cl = L.cl
  tup : ∀ a xs, SqT K H a xs → SqT K H' a xs
  lst : ∀ a xs, H a = some (.lst xs) → Off L m a → H' a = some (.lst xs) ∧ Off L' m' a
  inp : ∀ a xs, Rd H a (.lst xs) → Off L m a → Rd H' a (.lst xs) ∧ Off L' m' a
  loc : ∀ (n : Nat) a, m[n]? = some a → m'[n]? = some a
section
variable {K : PySem.W.Frag} {L L' : Pl} {m m' m2 : List Addr} {H H' H2 : Hp} {h h' : AH} {v : V} {d : D} {a D0 : Addr} {o : HO}
mutual
theorem VR.carry (c : Carry K L L' m m' H H') : ∀ {v : V} {d : D}, VR K L m H v d → VR K L' m' H' v d
  | _, _, .non => .non
  | _, _, .bl b => .bl b
  | _, _, .int i => .int i
  | _, _, .str s => .str s
  | _, _, .tup q r => .tup (c.tup _ _ q) (VRs.carry c r)
  | _, _, .lst q n r => .lst (c.lst _ _ q n).1 (c.lst _ _ q n).2 (VRs.carry c r)
  | _, _, .inp q n r => .inp (c.inp _ _ q n).1 (c.inp _ _ q n).2 (VRs.carry c r)
  | _, _, .inpK q r => .inpK q (VRs.carry c r)
  | _, _, .loc e => .loc (c.loc _ _ e)
  | _, _, .fn f => by rw [← c.fn]; exact .fn f
theorem VRs.carry (c : Carry K L L' m m' H H') : ∀ {vs : List V} {ds : List D}, VRs K L m H vs ds → VRs K L' m' H' vs ds
  | _, _, .nil => .nil
  | _, _, .cons q r => .cons (VR.carry c q) (VRs.carry c r)
end
theorem FRs.carry (c : Carry K L L' m m' H H') : ∀ {vs : List (Str × V)} {ds : List (String × D)}, FRs K L m H vs ds → FRs K L' m' H' vs ds
  | _, _, .nil => .nil
  | _, _, .cons q r => .cons (q.carry c) (FRs.carry c r)
theorem KRs.carry (c : Carry K L L' m m' H H') : ∀ {vs : List (Key × V)} {ds : List (List Nat × D)}, KRs K L m H vs ds → KRs K L' m' H' vs ds
  | _, _, .nil => .nil
  | _, _, .cons q r => .cons (q.carry c) (KRs.carry c r)
theorem HR.carry {o : HObj} (c : Carry K L L' m m' H H') (e : H' a = H a) (r : HR K L m H a o) : HR K L' m' H' a o := by
  cases o with
  | lst ds => obtain ⟨xs, q, r⟩ := r; exact ⟨xs, e.trans q, r.carry c⟩
  | ins cn fs => obtain ⟨dx, vs, q, r⟩ := r; exact ⟨dx, vs, by rw [c.cl]; exact e.trans q, r.carry c⟩
  | dct kvs => obtain ⟨vs, q, r⟩ := r; exact ⟨vs, e.trans q, r.carry c⟩
theorem RSl.carry {σ : L2.St} {δ : Slots} (c : Carry K L L' m m' H H') (r : RSl K L m H σ δ) : RSl K L' m' H' σ δ :=
  ⟨r.1, fun i d e => let ⟨v, e', q⟩ := r.2 i d e; ⟨v, e', q.carry c⟩⟩
theorem rd_ne {u : HO} (n : H D0 = none) (r : Rd H a u) : a ≠ D0 := fun z => by
  subst z
  rcases r with r | ⟨_, r⟩ <;> rw [n] at r <;> cases r
theorem rd_upd {u : HO} (ne : a ≠ D0) (r : Rd H a u) : Rd (upd H D0 o) a u := by
  rcases r with r | ⟨w, r⟩
  · exact .inl (by rw [upd_ne ne]; exact r)
  · exact .inr ⟨w, by rw [upd_ne ne]; exact r⟩
theorem sqT_upd {xs : List V} (ne : Rd H a (.tup xs) → a ≠ D0) (r : SqT K H a xs) : SqT K (upd H D0 o) a xs := by
  rcases r with r | r
  · exact .inl (rd_upd (ne r) r)
  · exact .inr r
/-- a new list that no datum knows of -/
theorem Carry.hide (n : H D0 = none) : Carry K L (L.hide D0) m m H (upd H D0 o) where
  fn := rfl
  cl := rfl
  tup := fun a xs q => sqT_upd (fun r => rd_ne n r) q
  lst := fun a xs q f => ⟨by rw [upd_ne (ne_of_none q n)]; exact q, f.1, fun z => by
    rcases List.mem_cons.mp z with z | z
    · exact ne_of_none q n z
    · exact f.2 z⟩
  inp := fun a xs q f => ⟨rd_upd (rd_ne n q) q, f.1, fun z => by
    rcases List.mem_cons.mp z with z | z
    · exact rd_ne n q z
    · exact f.2 z⟩
  loc := fun _ _ e => e
/-- it changes -/
theorem Carry.hidSet {xs ys : List V} (n : H D0 = some (.lst xs)) (hd : D0 ∈ L.hid) : Carry K L L m m H (upd H D0 (.lst ys)) where
  fn := rfl
  cl := rfl
  tup := fun a xs q => sqT_upd (fun r z => by
    subst z
    rcases r with r | ⟨_, r⟩ <;> rw [n] at r <;> cases r) q
  lst := fun a xs q f => ⟨by rw [upd_ne (fun z => f.2 (by rw [z]; exact hd) : a ≠ D0)]; exact q, f⟩
  inp := fun a xs q f => ⟨rd_upd (fun z => f.2 (by rw [z]; exact hd)) q, f⟩
  loc := fun _ _ e => e
/-- it is done -/
theorem Carry.unhide : Carry K (L.hide D0) L m m H H where
  fn := rfl
  cl := rfl
  tup := fun _ _ q => q
  lst := fun _ _ q f => ⟨q, f.1, fun z => f.2 (List.mem_cons_of_mem _ z)⟩
  inp := fun _ _ q f => ⟨q, f.1, fun z => f.2 (List.mem_cons_of_mem _ z)⟩
  loc := fun _ _ e => e
theorem Carry.own : Carry K (L.hide D0) L m (m ++ [D0]) H H where
  fn := rfl
  cl := rfl
  tup := fun _ _ q => q
  lst := fun _ _ q f => ⟨q, fun z => by
    rcases List.mem_append.mp z with z | z
    · exact f.1 z
    · exact f.2 (List.mem_cons.mpr (.inl (by simpa using z))), fun z => f.2 (List.mem_cons_of_mem _ z)⟩
  inp := fun _ _ q f => ⟨q, fun z => by
    rcases List.mem_append.mp z with z | z
    · exact f.1 z
    · exact f.2 (List.mem_cons.mpr (.inl (by simpa using z))), fun z => f.2 (List.mem_cons_of_mem _ z)⟩
  loc := fun n a e => by rw [List.getElem?_append_left (List.getElem?_eq_some_iff.mp e).1]; exact e
theorem Carry.keep (R : RH K L m H h) (x : Ext m m' H) (k : Keep m H H') : Carry K L L m m' H H' where
  fn := rfl
  cl := rfl
  tup := fun _ _ q => k.sqT R q
  lst := fun _ _ q n => ⟨k _ _ q n.1, x.out n.1 (by rw [q]; simp), n.2⟩
  inp := fun _ _ q n => ⟨k.rdL R q n.1, x.out n.1 (rd_some q), n.2⟩
  loc := fun _ _ e => x.old e
theorem RH.hide (R : RH K L m H h) (n : H D0 = none) : RH K (L.hide D0) m (upd H D0 o) h :=
  ⟨R.len, R.nd, fun a ha => by
    rcases List.mem_cons.mp ha with rfl | ha
    · exact ⟨R.free n, by rw [upd_same]; simp⟩
    · obtain ⟨n1, n2⟩ := R.hid a ha
      exact ⟨n1, by rw [upd_ne (fun z => n2 (by rw [z]; exact n) : a ≠ D0)]; exact n2⟩,
   fun i u a e1 e2 => (R.at_ i u a e1 e2).carry (Carry.hide n) (upd_ne fun z => R.free n (z ▸ List.mem_of_getElem? e2))⟩
theorem RH.hidSet {xs ys : List V} (R : RH K L m H h) (n : H D0 = some (.lst xs)) (hd : D0 ∈ L.hid) : RH K L m (upd H D0 (.lst ys)) h :=
  ⟨R.len, R.nd, fun a ha => ⟨(R.hid a ha).1, by
      by_cases z : a = D0
      · subst z; rw [upd_same]; simp
      · rw [upd_ne z]; exact (R.hid a ha).2⟩,
   fun i u a e1 e2 => (R.at_ i u a e1 e2).carry (Carry.hidSet n hd) (upd_ne fun z => (R.hid D0 hd).1 (z ▸ List.mem_of_getElem? e2))⟩
theorem RH.unhide (R : RH K (L.hide D0) m H h) : RH K L m H h :=
  ⟨R.len, R.nd, fun a ha => R.hid a (List.mem_cons_of_mem _ ha), fun i u a e1 e2 => (R.at_ i u a e1 e2).carry Carry.unhide rfl⟩
theorem RH.own' {xs : List V} {l : List D} (R : RH K (L.hide D0) m H h) (e : H D0 = some (.lst xs)) (r : VRs K (L.hide D0) m H xs l) (nh : D0 ∉ L.hid) : RH K L (m ++ [D0]) H (h ++ [.lst l]) := by
  have hm : D0 ∉ m := (R.hid D0 (List.mem_cons_self ..)).1
  refine ⟨by simp [R.len], ?_, fun a ha => ?_, fun i w a e1 e2 => ?_⟩
  · rw [List.nodup_append]
    refine ⟨R.nd, by simp, fun a ha b hb => ?_⟩
    simp at hb
    subst hb
    exact fun z => hm (z ▸ ha)
  · obtain ⟨n1, n2⟩ := R.hid a (List.mem_cons_of_mem _ ha)
    refine ⟨fun z => ?_, n2⟩
    rcases List.mem_append.mp z with z | z
    · exact n1 z
    · simp at z; exact nh (z ▸ ha)
  · by_cases hi : i < m.length
    · rw [List.getElem?_append_left hi] at e2
      rw [List.getElem?_append_left (by rw [← R.len]; exact hi)] at e1
      exact (R.at_ i w a e1 e2).carry Carry.own rfl
    · have hl : i < (m ++ [D0]).length := (List.getElem?_eq_some_iff.mp e2).1
      have : i = m.length := by simp at hl; omega
      subst this
      rw [List.getElem?_concat_length] at e2
      rw [R.len, List.getElem?_concat_length] at e1
      cases e1
      cases e2
      exact ⟨xs, e, r.carry Carry.own⟩
end

/-! ### what loops go through -/
inductive SrcK (K : PySem.W.Frag) (L : Pl) (m : List Addr) (H : Hp) : It → List D → Option (Nat × HObj) → Prop
  | lst {a : Addr} {xs : List V} {ds : List D} : Rd H a (.lst xs) → Off L m a → VRs K L m H xs ds → SrcK K L m H (Itl K a) ds none
  | klst {a : Addr} {xs : List V} {ds : List D} : KL K a xs → VRs K L m H xs ds → SrcK K L m H (Itl K a) ds none
  | tup {a : Addr} {xs : List V} {ds : List D} : SqT K H a xs → VRs K L m H xs ds → SrcK K L m H (Itt K a) ds none
  | loc {a : Addr} {n : Nat} {ds : List D} : m[n]? = some a → SrcK K L m H (Itl K a) ds (some (n, .lst ds))
  | rng (lo : Int) (n : Nat) : SrcK K L m H (Itr lo n) ((List.range n).map fun (k : Nat) => .int (lo + k)) none
  | sgn (s : List Nat) : SrcK K L m H (Its (sOf s)) (s.map fun c => .str [c]) none
section
variable {K : PySem.W.Frag} {L L' : Pl} {m m' m2 : List Addr} {H H' H2 : Hp} {h h' : AH} {v : V} {d : D} {a D0 : Addr} {o : HO} {J : It} {ds : List D} {lk : Option (Nat × HObj)}
theorem SrcK.carry (c : Carry K L L' m m' H H') (s : SrcK K L m H J ds lk) : SrcK K L' m' H' J ds lk := by
  cases s with
  | lst q f r => exact .lst (c.inp _ _ q f).1 (c.inp _ _ q f).2 (r.carry c)
  | klst q r => exact .klst q (r.carry c)
  | tup q r => exact .tup (c.tup _ _ q) (r.carry c)
  | loc e => exact .loc (c.loc _ _ e)
  | rng lo n => exact .rng lo n
  | sgn s => exact .sgn s
theorem sqL_of {xs ys : List V} (R : RH K L m H h) (r : Rd H a (.lst xs)) (q : Rd H a (.lst ys)) : xs = ys := by
  rcases r with r | ⟨_, r⟩ <;> rcases q with q | ⟨_, q⟩ <;> rw [r] at q <;> cases q <;> rfl
/-- what the i-th turn brings -/
structure Turn1 (K : PySem.W.Frag) (L : Pl) (m : List Addr) (h : AH) (J : It) (i : Nat) (H : Hp) (d : D) : Prop where
  go : J.go i H
  yld : ∀ x H3, J.yld i H x H3 → ∃ m3, Ext m m3 H ∧ RH K L m3 H3 h ∧ Keep m H H3 ∧ VR K L m3 H3 x d
theorem rd_val {x : V} {d : D} {i : Nat} {xs : List V} (R : RH K L m H h) (r : VR K L m H x d) : ∃ m3, Ext m m3 H ∧ RH K L m3 H h ∧ Keep m H H ∧ VR K L m3 H x d := ⟨m, Ext.refl, R, Keep.refl, r⟩
theorem lst_turn {xs : List V} {i : Nat} (R : RH K L m H h) (q : SqL K H a xs) (r : VRs K L m H xs ds) : (∀ d, ds[i]? = some d → Turn1 K L m h (Itl K a) i H d) ∧ (ds.length ≤ i → (Itl K a).stop i H) := by
  refine ⟨fun d e => ?_, fun hl => ⟨xs, q, by rw [r.length]; exact hl⟩⟩
  obtain ⟨v, e1, rv⟩ := r.get e
  refine ⟨⟨xs, v, q, e1⟩, fun x H3 ⟨z1, z2⟩ => ?_⟩
  subst z1
  have := z2 xs q
  rw [e1] at this
  cases this
  exact ⟨m, Ext.refl, R, Keep.refl, rv⟩
theorem SrcK.turn {i : Nat} (s : SrcK K L m H J ds lk) (R : RH K L m H h) (lo : lockOk lk h = true) : (∀ d, ds[i]? = some d → Turn1 K L m h J i H d) ∧ (ds.length ≤ i → J.stop i H) := by
  cases s with
  | lst q f r => exact lst_turn R (.inl q) r
  | klst q r => exact lst_turn R (.inr q) r
  | loc e =>
    unfold lockOk at lo
    simp only at lo
    split at lo
    · rename_i o' e2
      have := beqO_ok lo
      subst this
      obtain ⟨xs, e3, r⟩ := R.at_ _ _ _ e2 e
      exact lst_turn R (.of e3) r
    · cases lo
  | tup q r =>
    refine ⟨fun d e => ?_, fun hl => ⟨_, q, by rw [r.length]; exact hl⟩⟩
    obtain ⟨v, e1, rv⟩ := r.get e
    refine ⟨⟨_, v, q, e1⟩, fun x H3 ⟨z1, z2⟩ => ?_⟩
    subst z1
    have := z2 _ q
    rw [e1] at this
    cases this
    exact ⟨m, Ext.refl, R, Keep.refl, rv⟩
  | rng lo' n =>
    refine ⟨fun d e => ?_, fun hl => ?_⟩
    rotate_left
    · show n ≤ i
      simpa using hl
    have lt : i < n := by
      have := (List.getElem?_eq_some_iff.mp e).1
      simpa using this
    have e2 : d = .int (lo' + i) := by
      rw [List.getElem?_map, List.getElem?_range lt] at e
      cases e
      rfl
    subst e2
    refine ⟨lt, fun x H3 ⟨z1, z2⟩ => ?_⟩
    subst z1 z2
    exact ⟨m, Ext.refl, R, Keep.refl, .int _⟩
  | sgn s =>
    refine ⟨fun d e => ?_, fun hl => by show (sOf s).cps.size ≤ i; simpa [sOf] using hl⟩
    rw [List.getElem?_map] at e
    obtain ⟨c, e1, e2⟩ := Option.map_eq_some_iff.mp e
    subst e2
    have lt : i < s.length := (List.getElem?_eq_some_iff.mp e1).1
    refine ⟨by show i < (sOf s).cps.size; simpa [sOf] using lt, fun x H3 ⟨z1, c', z2, z3⟩ => ?_⟩
    subst z1 z3
    have e3 : c' = c := by
      have : (sOf s).cps[i]? = s[i]? := by simp [sOf]
      rw [this, e1] at z2
      cases z2
      rfl
    subst e3
    exact ⟨m, Ext.refl, R, Keep.refl, .str [c']⟩
end
def tI (K : PySem.W.Frag) (L : Pl) (W : WX) (ev : Slots → AH → Res (List D × Option (Nat × HObj))) : TI := fun σ H Rr =>
  ∃ m δ h r, RH K L m H h ∧ RSl K L m H σ δ ∧ ev δ h = some r ∧ match r with
    | .ok p h' => ∀ m' H' J, Ext m m' H → RH K L m' H' h' → Keep m H H' → SrcK K L m' H' J p.1 p.2 → Rr J H'
    | .ex e => ∀ cls dx H', XR L H' cls dx e → Keep m H H' → W cls dx σ H'
theorem PI.imp' {X : Cx} {tg e : Expr} {t t' : TI} (h : PI X tg e t) (i : ∀ σ H Q, t' σ H Q → t σ H Q) : PI X tg e t' := ⟨fun pins s σ H Q I q => h.run pins s σ H Q I (i σ H Q q)⟩
section
variable {X : Cx} {L : Pl} {G : Gam} {N : List Str} {Fs : Fn → List D → AH → Res D} {k : Nat} {sc : Scope} {W : WX} {tg : Expr}
theorem pi_seq {l : Expr} {tl : TE} (hl : PE X l tl) : PI X tg l (fun σ H R => tl σ H fun x H1 => ∃ a, x = .ref a ∧ (((∃ xs, SqL X.K H1 a xs) ∧ R (Itl X.K a) H1) ∨ ((∃ xs, SqT X.K H1 a xs) ∧ R (Itt X.K a) H1))) := by
  refine ⟨fun pins s σ H R I h => ?_⟩
  refine thn (hl.run pins s σ H _ I h) fun v s1 ⟨x, H1, I1, r1, q1⟩ => ?_
  obtain ⟨a, e, q1⟩ := q1
  subst e
  cases r1
  rcases q1 with ⟨⟨xs, hq⟩, q⟩ | ⟨⟨xs, hq⟩, q⟩
  · obtain ⟨its, rv, p, hz⟩ := I1.list hq
    refine wpAny_pyIter_list p.isList ?_
    refine ⟨s1.heap.objs.size, [s1.heap.objs.size], _, _, H1, rfl, I1.kept (t' := s1.toks) fun b o e => Heap.get?_push_of_some _ e, turn_list a _, ⟨_, Heap.get?_push_size _ rfl, rfl, rfl⟩, fun b hb => ?_, q⟩
    have e : b = s1.heap.objs.size := by simpa using hb
    subst e
    exact I1.fpOk (Nat.le_refl _) (I1.hok.fresh (Nat.le_refl _))
  · obtain ⟨its, rv, p, hz⟩ := I1.tuple hq
    refine wpAny_pyIter_tuple (show s1.heap.IsTuple a its.toArray from p) ?_
    refine ⟨s1.heap.objs.size, [s1.heap.objs.size], _, _, H1, rfl, I1.kept (t' := s1.toks) fun b o e => Heap.get?_push_of_some _ e, turn_tuple a _, ⟨_, Heap.get?_push_size _ rfl, rfl, rfl⟩, fun b hb => ?_, q⟩
    have e : b = s1.heap.objs.size := by simpa using hb
    subst e
    exact I1.fpOk (Nat.le_refl _) (I1.hok.fresh (Nat.le_refl _))
/-- a step that ends in a source -/
theorem stepI {ea : Slots → AH → Res D} {f : Slots → D → AH → Res (List D × Option (Nat × HObj))} {σ : L2.St} {H : Hp} {Rr : It → Hp → Prop} (q : tI X.K L W (fun δ h => bindR (ea δ h) fun x h => f δ x h) σ H Rr) :
    tE X.K L W ea σ H fun v H1 => ∃ m δ h x' r, RH X.K L m H1 h ∧ RSl X.K L m H1 σ δ ∧ VR X.K L m H1 v x' ∧ f δ x' h = some r ∧ match r with
    | .ok p h' => ∀ m' H' J, Ext m m' H1 → RH X.K L m' H' h' → Keep m H1 H' → SrcK X.K L m' H' J p.1 p.2 → Rr J H'
    | .ex e => ∀ cls dx H', XR L H' cls dx e → Keep m H1 H' → W cls dx σ H' := by
  obtain ⟨m, δ, h, r, R, S, e, g⟩ := q
  rcases bindR_some e with ⟨x, h1, e1, e2⟩ | ⟨ee, e1, rfl⟩
  · refine ⟨m, δ, h, [], _, R, S, .nil, e1, fun m1 v H1 x1 R1 r1 k1 => ⟨m1, δ, h1, x, r, R1, S.keep R x1 k1, r1, e2, ?_⟩⟩
    cases r with
    | ok p h' => exact fun m2 H2 J x2 R2 k2 s2 => g m2 H2 J (x1.trans R R1 k1 x2) R2 (k1.trans R x1 k2) s2
    | ex ee => exact fun cls dx H2 q k2 => g cls dx H2 q (k1.trans R x1 k2)
  · exact ⟨m, δ, h, [], _, R, S, .nil, e1, g⟩
theorem S_sq {a : IE} {e : Expr} (ha : PE X e (tE X.K L W (evalE Fs a))) : PI X tg e (tI X.K L W (evalSrc Fs (.sq a))) :=
  PI.imp' (pi_seq ha) fun σ H Rr q => by
    refine (stepI (f := fun δ x h => (seqOf h x).map fun l => .ok (l, lockOf h x) h) q).imp fun v H1 ⟨m, δ, h, x', r, R, S, vx, e, g⟩ => ?_
    obtain ⟨l, e1, e2⟩ := Option.map_eq_some_iff.mp e
    subst e2
    have g : ∀ J, SrcK X.K L m H1 J l (lockOf h x') → Rr J H1 := fun J s => g m H1 J Ext.refl R Keep.refl s
    cases vx with
    | tup q r => cases e1; exact ⟨_, rfl, .inr ⟨⟨_, q⟩, g _ (.tup q r)⟩⟩
    | lst q n r => cases e1; exact ⟨_, rfl, .inl ⟨⟨_, .of q⟩, g _ (.lst (.inl q) n r)⟩⟩
    | inp q n r => cases e1; exact ⟨_, rfl, .inl ⟨⟨_, .inl q⟩, g _ (.lst q n r)⟩⟩
    | inpK q r => cases e1; exact ⟨_, rfl, .inl ⟨⟨_, .inr q⟩, g _ (.klst q r)⟩⟩
    | @loc a n q =>
      simp only [seqOf] at e1
      split at e1
      · rename_i l' e2
        cases e1
        obtain ⟨xs, e3, r⟩ := R.at_ _ _ _ e2 q
        refine ⟨_, rfl, .inl ⟨⟨_, .of e3⟩, g _ ?_⟩⟩
        have e4 : lockOf h (.loc n) = some (n, .lst l) := by simp [lockOf, e2]
        rw [e4]
        exact .loc q
      · cases e1
    | _ => cases e1
theorem S_strs {a : IE} {e : Expr} (ha : PE X e (tE X.K L W (evalE Fs a))) : PI X tg e (tI X.K L W (evalSrc Fs (.sgns a))) :=
  PI.imp' (pi_str ha) fun σ H Rr q => by
    refine (stepI (f := fun δ x h => match x with
      | .str s => some (.ok (s.map fun c => .str [c], none) h)
      | _ => none) q).imp fun v H1 ⟨m, δ, h, x', r, R, S, vx, e, g⟩ => ?_
    cases x' <;> first | (cases e; done) | skip
    cases e
    cases vx
    exact ⟨_, rfl, g m H1 _ Ext.refl R Keep.refl (.sgn _)⟩
theorem clamp_ok {i : Int} (h : -clampI < i ∧ i < clampI) : -(2 ^ 62) ≤ i ∧ i < 2 ^ 62 := by
  unfold clampI at h
  omega
theorem S_rng {a b : IE} {x y : Expr} {p pos : Pos} (hg : Gl X (Str.ofString "range")) (hm : X.mg (Str.ofString "range") = none) (h1 : notStar x = true) (h2 : notStar y = true) (ha : PE X x (tE X.K L W (evalE Fs a))) (hb : PE X y (tE X.K L W (evalE Fs b))) :
    PI X tg (.Call (.Name (Str.ofString "range") p) [x, y] [] pos) (tI X.K L W (evalSrc Fs (.rng a b))) :=
  PI.imp' (pi_range2 hg hm (pa_cons ha (pa_cons hb pa_nil (star_cons h2)) (star_cons h1)) (by rw [star_cons h1, star_cons h2]; rfl) (by rw [star_cons h2]; rfl)) fun σ H Rr q => by
    have q : tI X.K L W (fun δ h => bindR (evalE Fs a δ h) fun x h => bindR (evalE Fs b δ h) fun y h => match x, y with
      | .int i, .int j => if -clampI < i ∧ i < clampI ∧ -clampI < j ∧ j < clampI then some (.ok ((List.range (j - i).toNat).map fun (k : Nat) => D.int (i + k), none) h) else none
      | _, _ => none) σ H Rr := q
    refine (stepI q).imp fun v H1 ⟨m, δ, h, x', r, R, S, vx, e, g⟩ => ?_
    rcases bindR_some e with ⟨y', h1, e1, e2⟩ | ⟨ee, e1, rfl⟩
    · refine ⟨m, δ, h, [], _, R, S, .nil, e1, fun m1 w H2 x1 R1 r1 k1 => ?_⟩
      cases x' <;> first | (cases e2; done) | skip
      cases y' <;> first | (cases e2; done) | skip
      rename_i i j
      obtain ⟨⟨c1, c2, c3, c4⟩, e3⟩ := if_some e2
      cases e3
      cases vx
      cases r1
      have ci := clamp_ok ⟨c1, c2⟩
      have cj := clamp_ok ⟨c3, c4⟩
      exact ⟨i, j, rfl, ⟨ci.1, ci.2, cj.1, cj.2⟩, g m1 H2 _ x1 R1 k1 (.rng _ _)⟩
    · exact ⟨m, δ, h, [], _, R, S, .nil, e1, g⟩
theorem S_rng1 {b : IE} {y : Expr} {p pos : Pos} (hg : Gl X (Str.ofString "range")) (hm : X.mg (Str.ofString "range") = none) (h2 : notStar y = true) (hb : PE X y (tE X.K L W (evalE Fs b))) :
    PI X tg (.Call (.Name (Str.ofString "range") p) [y] [] pos) (tI X.K L W (evalSrc Fs (.rng1 b))) :=
  PI.imp' (pi_range1 hg hm (pa_cons hb pa_nil (star_cons h2)) (by rw [star_cons h2]; rfl)) fun σ H Rr q => by
    refine (stepI (f := fun δ y h => match y with
      | .int j => if -clampI < j ∧ j < clampI then some (.ok ((List.range j.toNat).map fun (k : Nat) => D.int k, none) h) else none
      | _ => none) q).imp fun v H1 ⟨m, δ, h, x', r, R, S, vx, e, g⟩ => ?_
    cases x' <;> first | (cases e; done) | skip
    rename_i j
    obtain ⟨c, e3⟩ := if_some e
    cases e3
    cases vx
    have cj := clamp_ok c
    refine ⟨j, rfl, cj.1, cj.2, g m H1 _ Ext.refl R Keep.refl ?_⟩
    have : (List.range j.toNat).map (fun (k : Nat) => D.int k) = (List.range j.toNat).map (fun (k : Nat) => D.int (0 + k)) := by simp
    show SrcK _ _ _ _ _ ((List.range j.toNat).map (fun (k : Nat) => D.int k)) none
    rw [this]
    exact .rng 0 _
end
end MM
namespace MM
open PySem PySem.Spec PyProof.Rows L2

/-! ### comprehensions -/
def WF : WX := fun _ _ _ _ => False
section
variable {K : PySem.W.Frag} {L : Pl} {m : List Addr} {H : Hp} {h : AH}
theorem Ext.comp {K : PySem.W.Frag} {L : Pl} {m m' m'' : List Addr} {H H' : Hp} {h' : AH} (R' : RH K L m' H' h') (x : Ext m m' H) (k : Keep m H H') (x' : Ext m' m'' H') : Ext m m'' H := by
  obtain ⟨t2, a1, a2⟩ := x
  obtain ⟨t3, b1, b2⟩ := x'
  refine ⟨t2 ++ t3, by rw [b1, a1, List.append_assoc], fun a ha => ?_⟩
  rcases List.mem_append.mp ha with ha | ha
  · exact a2 a ha
  · cases z : H a with
    | none => rfl
    | some o =>
      exfalso
      by_cases na : a ∈ m
      · have : a ∈ m' := by rw [a1]; exact List.mem_append_left _ na
        exact R'.there this (b2 a ha)
      · have := k a o z na
        rw [b2 a ha] at this
        cases this
theorem lcGo_nil {t : Tg} {ec ee : Slots → AH → Res D} {δ : Slots} {lk : Option (Nat × HObj)} {acc l : List D} {h h3 : AH} (e : lcGo t ec ee δ lk [] acc h = some (.ok l h3)) : lockOk lk h = true ∧ l = acc ∧ h3 = h := by
  unfold lcGo at e
  obtain ⟨c, e⟩ := if_some e
  cases e
  exact ⟨c, rfl, rfl⟩
theorem lcGo_cons {t : Tg} {ec ee : Slots → AH → Res D} {δ : Slots} {lk : Option (Nat × HObj)} {d : D} {ds acc l : List D} {h h3 : AH} (e : lcGo t ec ee δ lk (d :: ds) acc h = some (.ok l h3)) :
    lockOk lk h = true ∧ ∃ δ' k h1, bindT t d δ = some δ' ∧ ec δ' h = some (.ok (.bl k) h1) ∧ (if k = true then ∃ v h2, ee δ' h1 = some (.ok v h2) ∧ acc.length < szl ∧ lcGo t ec ee δ lk ds (acc ++ [v]) h2 = some (.ok l h3) else lcGo t ec ee δ lk ds acc h1 = some (.ok l h3)) := by
  unfold lcGo at e
  obtain ⟨c, e⟩ := if_some e
  refine ⟨c, ?_⟩
  split at e
  · cases e
  · rename_i δ' e1
    rcases bindR_some e with ⟨cv, h1, e2, e3⟩ | ⟨_, _, z⟩
    · cases cv <;> first | (cases e3; done) | skip
      rename_i k
      refine ⟨δ', k, h1, e1, e2, ?_⟩
      cases k with
      | false => rw [if_neg Bool.false_ne_true]; exact e3
      | true =>
        rw [if_pos rfl]
        have e3 : (bindR (ee δ' h1) fun v h2 => if acc.length < szl then lcGo t ec ee δ lk ds (acc ++ [v]) h2 else none) = some (.ok l h3) := e3
        rcases bindR_some e3 with ⟨v, h2, e4, e5⟩ | ⟨_, _, z⟩
        · obtain ⟨c2, e5⟩ := if_some e5
          exact ⟨v, h2, e4, c2, e5⟩
        · cases z
    · cases z
end
section
variable {X : Cx} {L : Pl} {G : Gam} {N : List Str} {Fs : Fn → List D → AH → Res D} {k : Nat} {sc : Scope} {W : WX} {tg : Expr}
/-- the state of a comprehension's loop -/
structure LcInv (X : Cx) (L : Pl) (m1 : List Addr) (H1 : Hp) (D0 : Addr) (t : Tg) (ec ee : Slots → AH → Res D) (σw : L2.St) (δw : Slots) (J : It) (ds : List D) (lk : Option (Nat × HObj)) (l : List D) (h3 : AH) (i n : Nat) (H2 : Hp) : Prop where
  cnt : i + n = ds.length
  ex : ∃ m2 h2 acc accV, RH X.K (L.hide D0) m2 H2 h2 ∧ Ext m1 m2 H1 ∧ Keep m1 H1 H2 ∧ H2 D0 = some (.lst accV) ∧ VRs X.K (L.hide D0) m2 H2 accV acc ∧ RSl X.K (L.hide D0) m2 H2 σw δw ∧ SrcK X.K (L.hide D0) m2 H2 J ds lk ∧
    lcGo t ec ee δw lk (ds.drop i) acc h2 = some (.ok l h3)
theorem lc_step (g : Gd L G N Fs k X sc W) {own : Bool} {t : Tg} {s : Src} {elt cond : IE} {σ : L2.St} {H : Hp} {Q : VK} (q : tE X.K L W (evalE Fs (.lc false own t s elt cond)) σ H Q) :
    tLc (tI X.K L W (evalSrc Fs s)) (gT X.K t) (fun σ H Q => ∃ z, tT X.K { L with hid := z } WF (evalE Fs cond) σ H Q) (fun σ H Q => ∃ z, tE X.K { L with hid := z } WF (evalE Fs elt) σ H Q) (tgSlots t) σ H Q := by
  obtain ⟨m, δ, h, r, R, S, e, f⟩ := q.fin
  have e : (bindR (evalSrc Fs s δ h) fun ds h => noEx false (bindR (lcGo t (evalE Fs cond) (evalE Fs elt) (wipeT t δ) ds.2 ds.1 [] h) fun l h => if own then some (.ok (.loc h.length) (h ++ [.lst l])) else some (.ok (.lst l) h))) = some r := e
  rcases bindR_some e with ⟨⟨ds, lk⟩, h1, e1, e2⟩ | ⟨ee, e1, rfl⟩
  rotate_left
  · exact ⟨m, δ, h, _, R, S, e1, f⟩
  refine ⟨m, δ, h, _, R, S, e1, fun m1 H1 J x1 R1 k1 sk => ?_⟩
  -- the loop ends without an error
  obtain ⟨l, h3, e3, e4⟩ : ∃ l h3, lcGo t (evalE Fs cond) (evalE Fs elt) (wipeT t δ) lk ds [] h1 = some (.ok l h3) ∧ r = (if own then .ok (.loc h3.length) (h3 ++ [.lst l]) else .ok (.lst l) h3) := by
    rcases z : lcGo t (evalE Fs cond) (evalE Fs elt) (wipeT t δ) lk ds [] h1 with _ | ⟨l, h3⟩ | ee
    · rw [z] at e2; cases e2
    · rw [z] at e2
      refine ⟨l, h3, rfl, ?_⟩
      cases own <;> (cases e2; rfl)
    · rw [z] at e2; cases e2
  have f1 := f.mono R R1 x1 k1
  have S1 := S.keep R x1 k1
  intro D0 hD
  have nD : D0 ∉ L.hid := fun z => (R1.hid D0 z).2 hD
  refine ⟨LcInv X L m1 H1 D0 t (evalE Fs cond) (evalE Fs elt) (L2.wipe σ (tgSlots t)) (wipeT t δ) J ds lk l h3, ⟨ds.length, ⟨Nat.zero_add _, m1, h1, [], [], R1.hide hD, Ext.refl, Keep.new hD, upd_same, .nil, (S1.carry (Carry.hide hD)).wipe t, sk.carry (Carry.hide hD), e3⟩⟩, fun i n H2 ⟨cnt, m2, h2, acc, accV, R2, x2, k2, hD2, va, S2, s2, e5⟩ => ?_⟩
  by_cases hi : ds.length ≤ i
  · -- the end
    refine .inl ?_
    rw [List.drop_of_length_le hi] at e5
    obtain ⟨lo, rfl, rfl⟩ := lcGo_nil e5
    refine ⟨(s2.turn R2 lo).2 hi, ?_⟩
    cases own with
    | false =>
      rw [if_neg Bool.false_ne_true] at e4
      subst e4
      exact f1 m2 (.ref D0) H2 x2 R2.unhide (.lst hD2 ⟨(R2.hid D0 (List.mem_cons_self ..)).1, nD⟩ (va.carry Carry.unhide)) k2
    | true =>
      rw [if_pos rfl] at e4
      subst e4
      refine f1 (m2 ++ [D0]) (.ref D0) H2 ?_ (R2.own' hD2 va nD) (.loc (by rw [← R2.len]; exact List.getElem?_concat_length)) k2
      obtain ⟨t2, e6, e7⟩ := x2
      refine ⟨t2 ++ [D0], by rw [e6, List.append_assoc], fun a ha => ?_⟩
      rcases List.mem_append.mp ha with ha | ha
      · exact e7 a ha
      · simp at ha; rw [ha]; exact hD
  · -- one more turn
    refine .inr ?_
    have lt : i < ds.length := Nat.lt_of_not_le hi
    rw [List.drop_eq_getElem_cons lt] at e5
    obtain ⟨lo, δ', kk, h4, e6, e7, e8⟩ := lcGo_cons e5
    obtain ⟨go, yld⟩ := (s2.turn R2 lo).1 ds[i] (List.getElem?_eq_getElem lt)
    refine ⟨go, LcInv X L m1 H1 D0 t (evalE Fs cond) (evalE Fs elt) (L2.wipe σ (tgSlots t)) (wipeT t δ) J ds lk l h3 (i + 1) (n - 1), fun H' hN => ⟨n - 1, by omega, hN⟩, fun x H3 hy => ?_⟩
    obtain ⟨m3, x3, R3, k3, rx⟩ := yld x H3 hy
    have c3 := Carry.keep R2 x3 k3
    refine gT_go (S2.carry c3) rx e6 fun σ' S' hw => ⟨?_, L.hide D0 |>.hid, ?_⟩
    · obtain ⟨vs, rfl⟩ := hw
      rw [wipe_tgV]
      -- wiped twice
      apply List.ext_getElem?
      intro j
      by_cases hj : j ∈ tgSlots t
      · by_cases ltj : j < σ.length
        · rw [wipe_in hj (by rw [wipe_length]; exact ltj), wipe_in hj ltj]
        · rw [List.getElem?_eq_none (by rw [wipe_length, wipe_length]; omega), List.getElem?_eq_none (by rw [wipe_length]; omega)]
      · rw [wipe_out hj]
    · have Dm3 : D0 ∉ m3 := (R3.hid D0 (List.mem_cons_self ..)).1
      have D3 : H3 D0 = some (.lst accV) := k3 D0 _ hD2 (R2.hid D0 (List.mem_cons_self ..)).1
      have va3 := va.carry c3
      have s3 := s2.carry c3
      have S3 := S2.carry c3
      have x13 : Ext m1 m3 H1 := Ext.comp R2 x2 k2 x3
      have k13 : Keep m1 H1 H3 := fun a o e na => k3 a o (k2 a o e na) (x2.out na (by rw [e]; simp))
      refine ⟨m3, δ', h2, [], _, R3, S', .nil, e7, fun m4 w H4 x4 R4 r4 k4 => ?_⟩
      cases r4
      refine ⟨kk, rfl, ?_⟩
      have c4 := Carry.keep R3 x4 k4
      have D4 : H4 D0 = some (.lst accV) := k4 D0 _ D3 Dm3
      have x14 : Ext m1 m4 H1 := Ext.comp R3 x13 k13 x4
      have k14 : Keep m1 H1 H4 := fun a o e na => k4 a o (k13 a o e na) (x13.out na (by rw [e]; simp))
      cases kk with
      | false =>
        rw [if_neg Bool.false_ne_true] at e8
        dsimp only
        rw [if_neg Bool.false_ne_true]
        exact ⟨by omega, m4, h4, acc, accV, R4, x14, k14, D4, va3.carry c4, S3.carry c4, s3.carry c4, e8⟩
      | true =>
        rw [if_pos rfl] at e8
        dsimp only
        rw [if_pos rfl]
        obtain ⟨dv, h5, e9, lt5, e10⟩ := e8
        refine ⟨L.hide D0 |>.hid, m4, δ', h4, [], _, R4, S'.carry c4, .nil, e9, fun m5 w H5 x5 R5 r5 k5 => ?_⟩
        have c5 := Carry.keep R4 x5 k5
        have Dm4 : D0 ∉ m4 := (R4.hid D0 (List.mem_cons_self ..)).1
        have D5 : H5 D0 = some (.lst accV) := k5 D0 _ D4 Dm4
        have hid5 : D0 ∈ (L.hide D0).hid := List.mem_cons_self ..
        have va5 := (va3.carry c4).carry c5
        have c6 : Carry X.K (L.hide D0) (L.hide D0) m5 m5 H5 (upd H5 D0 (.lst (accV ++ [w]))) := Carry.hidSet D5 hid5
        refine ⟨accV, D5, by rw [va5.length]; exact lt5, ?_⟩
        refine ⟨by omega, m5, h5, acc ++ [dv], accV ++ [w], R5.hidSet D5 hid5, Ext.comp R4 x14 k14 x5, fun a o e na => ?_, upd_same, (va5.append (.cons r5 .nil)).carry c6, ((S3.carry c4).carry c5).carry c6, ((s3.carry c4).carry c5).carry c6, e10⟩
        rw [upd_ne (ne_of_none e hD)]
        exact k5 a o (k14 a o e na) (x14.out na (by rw [e]; simp))
end
end MM
namespace MM
open PySem PySem.Spec PyProof.Rows L2
section
variable {G : Gam} {N : List Str} {Fs : Fn → List D → AH → Res D} {k : Nat}
theorem folded_ok {e : Expr} {env : Env} (h : notSet e = true) : ∀ x, foldedSetIterable e env x = pure x := by
  intro x
  cases e <;> first | rfl | cases h
theorem blkB_ok {sc scope : Scope} {own : List (Str × Nat)} (h : blkB N sc scope own = true) : BlkOk N sc scope own := by
  unfold blkB at h
  simp only [Bool.and_eq_true, decide_eq_true_eq, List.all_eq_true, Bool.or_eq_true, Bool.not_eq_true', Bool.or_eq_false_iff, decide_eq_false_iff_not] at h
  obtain ⟨⟨⟨⟨h1, h2⟩, h3⟩, h4⟩, h5⟩ := h
  refine ⟨h1, h2, h3, fun y hy e => ?_, fun y hy e => ?_⟩
  · rcases h4 y hy with z | z
    · exact absurd e z
    · exact z
  · rcases h5 y hy with z | z
    · rcases e with e | e
      · exact absurd e z.1
      · exact absurd e z.2
    · exact z
theorem Gd.blk {L : Pl} {X : Cx} {sc : Scope} {W : WX} (g : Gd L G N Fs k X sc W) (z : List Addr) (s : Shared) (H : Hp) (scope : Scope) (C : Addr) (cl : List (Str × Addr)) (fp : List Addr) :
    Gd { L with hid := z } G N Fs k (X.blk s H scope (compEnvC scope cl C X.env) fp) (relS scope sc) WF where
  n_ := g.n_
  nd := g.nd
  sc := by
    rw [← g.sc]
    rfl
  fs := g.fs.hide z
  tk := fun u s' h => by
    obtain ⟨_, _, _, _, _, _, _, _, _, _, _, _, _, _, _, _, w⟩ := h
    exact w
  hr := g.hr
  hk := g.hk
  calm := g.calm
theorem E_lc {L : Pl} {X : Cx} {sc : Scope} {W : WX} (g : Gd L G N Fs k X sc W) {own : Bool} {t : Tg} {s : Src} {elt cond : IE} {y tg it : Expr} {ifs : List Expr} {scope : Scope} {pos : Pos}
    (h1 : chkTg N (relS scope sc) t tg = true) (h2 : blkB N sc scope (ownOf N t) = true) (h3 : (ownOf N t).map (·.2) = tgSlots t) (h4 : notSet it = true)
    (hs : PI X tg it (tI X.K L W (evalSrc Fs s)))
    (hc : ∀ (z : List Addr) (s : Shared) (H : Hp) (C : Addr) (cl : List (Str × Addr)) (fp : List Addr), PTs (X.blk s H scope (compEnvC scope cl C X.env) fp) ifs (tT X.K { L with hid := z } WF (evalE Fs cond)))
    (he : ∀ (z : List Addr) (s : Shared) (H : Hp) (C : Addr) (cl : List (Str × Addr)) (fp : List Addr), PE (X.blk s H scope (compEnvC scope cl C X.env) fp) y (tE X.K { L with hid := z } WF (evalE Fs elt))) :
    PE X (.ListComp y [⟨tg, it, ifs, 0⟩] scope pos) (tE X.K L W (evalE Fs (.lc false own t s elt cond))) := by
  have ok : BlkOk X.N X.env.scope scope (ownOf N t) := by rw [g.n_, g.sc]; exact blkB_ok h2
  refine PE.imp (pe_lc g.calm (by rw [g.n_]; exact g.nd) hs ok (g := gT X.K t) (tt := fun σ H Q => ∃ z, tT X.K { L with hid := z } WF (evalE Fs cond) σ H Q) (te := fun σ H Q => ∃ z, tE X.K { L with hid := z } WF (evalE Fs elt) σ H Q)
    (fun s H C cl fp => ?_) (fun s H C cl fp => ?_) (fun s H C cl fp => ?_) (folded_ok h4)) fun σ H Q q => by rw [h3]; exact lc_step g q
  · have gb := g.blk [] s H scope C cl fp
    exact tg_ok gb.n_ gb.nd gb.sc gb.calm h1
  · exact ⟨fun pins s' σ H' Q I ⟨z, q⟩ => (hc z s H C cl fp).run pins s' σ H' Q I q⟩
  · exact ⟨fun pins s' σ H' Q I ⟨z, q⟩ => (he z s H C cl fp).run pins s' σ H' Q I q⟩
theorem notSet_mark {e : Expr} {op : CmpOp} (h : notSet e = true) : behindInMarks op e = false := by
  cases e <;> first | rfl | cases h
theorem isYes_eq {ir : IE} (h : isYes ir = true) : ir = .bl true := by
  unfold isYes at h
  split at h
  · rfl
  · cases h

theorem both {L : Pl} {X : Cx} {W : WX} {e : Expr} {ev : Slots → AH → Res D} {b : Prop} (h : PE X e (tE X.K L W ev)) (p : ptPlain e = true) : PE X e (tE X.K L W ev) ∧ (b → PT X e (tT X.K L W ev)) := ⟨h, fun _ => PT_val h p⟩
theorem andT {L : Pl} {X : Cx} {W : WX} {e : Expr} {ev : Slots → AH → Res D} {b : Prop} (h : PE X e (tE X.K L W ev) ∧ PT X e (tT X.K L W ev)) : PE X e (tE X.K L W ev) ∧ (b → PT X e (tT X.K L W ev)) := ⟨h.1, fun _ => h.2⟩
mutual
theorem snd_E : ∀ (ir : IE) {L : Pl} {X : Cx} {sc : Scope} {W : WX} {e : Expr}, Gd L G N Fs k X sc W → chkE G N ir sc e = true → PE X e (tE X.K L W (evalE Fs ir)) ∧ (tOk ir = true → PT X e (tT X.K L W (evalE Fs ir)))
  | .var i, L, X, sc, W, e, g, h => by
    simp only [chkE] at h
    have hp := E_var (W := W) g h
    refine ⟨hp, fun _ => PT_val hp ?_⟩
    unfold isSlot at h
    split at h <;> first | rfl | cases h
  | .int z, L, X, sc, W, e, g, h => by
    simp only [chkE] at h
    split at h
    · rename_i j q p
      have e1 := of_decide_eq_true h
      have hp : PE X (.Constant (.int j) q p) (tE X.K L W (evalE Fs (.int z))) := by
        rw [e1]
        exact E_const (v := .int z) pe_int (fun _ _ => rfl) fun _ _ _ _ => .int _
      exact ⟨hp, fun _ => PT_val hp rfl⟩
    · cases h
  | .neg n, L, X, sc, W, e, g, h => by
    simp only [chkE] at h
    split at h
    · rename_i j q p p2
      have e1 := of_decide_eq_true h
      subst e1
      have hp : PE X (.UnaryOp .USub (.Constant (.int (n : Int)) q p) p2) (tE X.K L W (evalE Fs (.neg n))) := E_const (v := .int (-(n : Int))) (PE.imp (pe_un un_neg pe_int) fun σ H Q q => ⟨_, rfl, q⟩) (fun _ _ => rfl) fun _ _ _ _ => .int _
      exact ⟨hp, fun _ => pt_val hp⟩
    · cases h
  | .str s, L, X, sc, W, e, g, h => by
    simp only [chkE] at h
    split at h
    · rename_i x q p
      have e1 := isStr_eq h
      subst e1
      have hp : PE X (.Constant (.str (Str.ofString s)) q p) (tE X.K L W (evalE Fs (.str s))) := E_const (v := .str (Str.ofString s)) pe_str (fun _ _ => rfl) fun m H hh R => by rw [ofString_cds]; exact .str _
      exact ⟨hp, fun _ => PT_val hp rfl⟩
    · cases h
  | .bl b, L, X, sc, W, e, g, h => by
    simp only [chkE] at h
    split at h
    · rename_i c q p
      have e1 := eq_of_beq h
      subst e1
      have hp : PE X (.Constant (.bool b) q p) (tE X.K L W (evalE Fs (.bl b))) := E_const pe_bl (fun _ _ => rfl) fun _ _ _ _ => .bl _
      exact ⟨hp, fun _ => PT_val hp rfl⟩
    · cases h
  | .non, L, X, sc, W, e, g, h => by
    simp only [chkE] at h
    split at h
    · rename_i q p
      have hp : PE X (.Constant .none q p) (tE X.K L W (evalE Fs .non)) := pe_non'
      exact ⟨hp, fun _ => PT_val hp rfl⟩
    · cases h
  | .gl x d, L, X, sc, W, e, g, h => by
    simp only [chkE, Bool.and_eq_true] at h
    have hp := E_gl (W := W) g h.1 h.2
    refine ⟨hp, fun _ => PT_val hp ?_⟩
    obtain ⟨_, rfl, _⟩ := isGlobal_ok g h.1
    rfl
  | .tup es, L, X, sc, W, e, g, h => by
    simp only [chkE] at h
    split at h
    · simp only [Bool.and_eq_true, decide_eq_true_eq] at h
      exact both (E_tup (Fs := Fs) (W := W) h.1 h.2 (snd_Es es g h.1)) rfl
    · cases h
  | .lst es, L, X, sc, W, e, g, h => by
    simp only [chkE] at h
    split at h
    · simp only [Bool.and_eq_true, decide_eq_true_eq] at h
      exact both (E_lst (Fs := Fs) (W := W) h.1 h.2 (snd_Es es g h.1)) rfl
    · cases h
  | .mk es, L, X, sc, W, e, g, h => by
    simp only [chkE] at h
    split at h
    · simp only [Bool.and_eq_true, decide_eq_true_eq] at h
      exact both (E_mk (Fs := Fs) (W := W) h.1 h.2 (snd_Es es g h.1)) rfl
    · cases h
  | .bin o a b, L, X, sc, W, e, g, h => by
    simp only [chkE] at h
    split at h
    · simp only [Bool.and_eq_true] at h
      exact both (E_bin (W := W) h.1.1 (snd_E a g h.1.2).1 (snd_E b g h.2).1) rfl
    · cases h
  | .cmp o a b, L, X, sc, W, e, g, h => by
    simp only [chkE] at h
    split at h
    · split at h
      · simp only [Bool.and_eq_true] at h
        exact andT (E_cmp (W := W) g.hu h.1.1 (snd_E a g h.1.2).1 (snd_E b g h.2).1)
      · cases h
    · cases h
  | .isN a, L, X, sc, W, e, g, h => by
    simp only [chkE] at h
    split at h
    · split at h
      · exact andT (E_isN (W := W) (snd_E a g h).1)
      · cases h
    · cases h
  | .notN a, L, X, sc, W, e, g, h => by
    simp only [chkE] at h
    split at h
    · split at h
      · exact andT (E_notN (W := W) (snd_E a g h).1)
      · cases h
    · cases h
  | .isin a b, L, X, sc, W, e, g, h => by
    simp only [chkE] at h
    split at h
    · split at h
      · simp only [Bool.and_eq_true] at h
        exact andT (E_isin (W := W) (notSet_mark h.1.1) (snd_E a g h.1.2).1 (snd_E b g h.2).1)
      · cases h
    · cases h
  | .notin a b, L, X, sc, W, e, g, h => by
    simp only [chkE] at h
    split at h
    · split at h
      · simp only [Bool.and_eq_true] at h
        exact andT (E_notin (W := W) (notSet_mark h.1.1) (snd_E a g h.1.2).1 (snd_E b g h.2).1)
      · cases h
    · cases h
  | .isnil a, L, X, sc, W, e, g, h => by
    simp only [chkE] at h
    split at h
    · split at h
      · exact andT (E_isnil (W := W) g.hu (snd_E a g h).1)
      · cases h
    · cases h
  | .notnil a, L, X, sc, W, e, g, h => by
    simp only [chkE] at h
    split at h
    · split at h
      · exact andT (E_notnil (W := W) g.hu (snd_E a g h).1)
      · cases h
    · cases h
  | .chain a o1 b o2 c, L, X, sc, W, e, g, h => by
    simp only [chkE] at h
    split at h
    · split at h
      · simp only [Bool.and_eq_true] at h
        exact andT (E_chain (W := W) g.hu h.1.1.1.1 h.1.1.1.2 (snd_E a g h.1.1.2).1 (snd_E b g h.1.2).1 (snd_E c g h.2).1)
      · cases h
    · cases h
  | .and a b, L, X, sc, W, e, g, h => by
    simp only [chkE] at h
    split at h
    · split at h
      · rename_i pos x y r
        simp only [Bool.and_eq_true] at h
        obtain ⟨h1, h2⟩ := h
        have ia := snd_E a g h1
        cases r with
        | nil =>
          have ib := snd_E b g h2
          refine ⟨PE.imp (pe_and ia.1 (pe_one ib.1)) fun σ H Q q => and_step q, fun t => ?_⟩
          simp only [tOk, Bool.and_eq_true] at t
          exact T_and (ia.2 t.1) (pw_and1 (ib.2 t.2))
        | cons w r =>
          have ib := snd_E b g h2
          refine ⟨PE.imp (pe_and ia.1 ib.1) fun σ H Q q => and_step q, fun t => ?_⟩
          simp only [tOk, Bool.and_eq_true] at t
          exact T_and (ia.2 t.1) (pw_of (ib.2 t.2))
      · cases h
    · cases h
  | .or a b, L, X, sc, W, e, g, h => by
    simp only [chkE] at h
    split at h
    · split at h
      · rename_i pos x y r
        simp only [Bool.and_eq_true] at h
        obtain ⟨h1, h2⟩ := h
        have ia := snd_E a g h1
        cases r with
        | nil =>
          have ib := snd_E b g h2
          refine ⟨PE.imp (pe_or ia.1 (pe_one ib.1)) fun σ H Q q => or_step q, fun t => ?_⟩
          simp only [tOk, Bool.and_eq_true] at t
          exact T_or (ia.2 t.1) (pw_or1 (ib.2 t.2))
        | cons w r =>
          have ib := snd_E b g h2
          refine ⟨PE.imp (pe_or ia.1 ib.1) fun σ H Q q => or_step q, fun t => ?_⟩
          simp only [tOk, Bool.and_eq_true] at t
          exact T_or (ia.2 t.1) (pw_of (ib.2 t.2))
      · cases h
    · cases h
  | .not a, L, X, sc, W, e, g, h => by
    simp only [chkE] at h
    split at h
    · have ia := snd_E a g h
      refine ⟨PE.imp (pe_not ia.1) fun σ H Q q => not_step q, fun t => ?_⟩
      exact T_not (ia.2 t)
    · cases h
  | .ife c a b, L, X, sc, W, e, g, h => by
    simp only [chkE] at h
    split at h
    · simp only [Bool.and_eq_true] at h
      refine ⟨PE.imp (pe_ifExp ((snd_E c g h.1.1.2).2 h.1.1.1) (snd_E a g h.1.2).1 (snd_E b g h.2).1) fun σ H Q q => if_step q, fun t => by cases t⟩
    · cases h
  | .idx a b, L, X, sc, W, e, g, h => by
    simp only [chkE] at h
    split at h
    · simp only [Bool.and_eq_true] at h
      exact both (E_idx (W := W) h.2 (snd_E a g h.1.1).1 (snd_E b g h.1.2).1) rfl
    · cases h
  | .sl2 a lo hi, L, X, sc, W, e, g, h => by
    simp only [chkE] at h
    split at h
    · simp only [Bool.and_eq_true] at h
      exact both (E_sl2 (W := W) (snd_E a g h.1.1).1 (snd_E lo g h.1.2).1 (snd_E hi g h.2).1) rfl
    · cases h
  | .slF a lo, L, X, sc, W, e, g, h => by
    simp only [chkE] at h
    split at h
    · simp only [Bool.and_eq_true] at h
      exact both (E_slF (W := W) (snd_E a g h.1).1 (snd_E lo g h.2).1) rfl
    · cases h
  | .slT a hi, L, X, sc, W, e, g, h => by
    simp only [chkE] at h
    split at h
    · simp only [Bool.and_eq_true] at h
      exact both (E_slT (W := W) (snd_E a g h.1).1 (snd_E hi g h.2).1) rfl
    · cases h
  | .bi b es, L, X, sc, W, e, g, h => by
    simp only [chkE] at h
    split at h
    · rename_i f l kw pos
      simp only [Bool.and_eq_true, Bool.not_eq_true'] at h
      obtain ⟨⟨⟨⟨h1, h2⟩, h3⟩, h4⟩, h5⟩ := h
      rw [List.isEmpty_iff] at h4
      subst h4
      exact both (E_bi (Fs := Fs) (W := W) (pos := pos) g h1 h5 h2 h3 (snd_Es es g h2)) rfl
    · cases h
  | .call f es, L, X, sc, W, e, g, h => by
    simp only [chkE] at h
    split at h
    · rename_i f' l kw pos
      simp only [Bool.and_eq_true, Bool.not_eq_true'] at h
      obtain ⟨⟨⟨⟨h1, h2⟩, h3⟩, h4⟩, h5⟩ := h
      rw [List.isEmpty_iff] at h5
      subst h5
      exact both (E_call (Fs := Fs) (W := W) (pos := pos) g h1 h2 h3 h4 (snd_Es es g h3)) rfl
    · cases h
  | .app a x, L, X, sc, W, e, g, h => by
    simp only [chkE] at h
    split at h
    · rename_i o nm ap l kw pos
      simp only [Bool.and_eq_true] at h
      obtain ⟨⟨⟨⟨⟨h1, h2⟩, h3⟩, h4⟩, h5⟩, h6⟩ := h
      rw [List.isEmpty_iff] at h4
      have e1 := isStr_eq h1
      subst h4 e1
      split at h6
      · simp only [Bool.and_eq_true] at h6
        exact both (E_app (W := W) (snd_E a g h5).1 (snd_E x g h6.2).1 h3 h6.1 h2) rfl
      · cases h6
    · cases h
  | .ext a x, L, X, sc, W, e, g, h => by
    simp only [chkE] at h
    split at h
    · rename_i o nm ap l kw pos
      simp only [Bool.and_eq_true] at h
      obtain ⟨⟨⟨⟨⟨h1, h2⟩, h3⟩, h4⟩, h5⟩, h6⟩ := h
      rw [List.isEmpty_iff] at h4
      have e1 := isStr_eq h1
      subst h4 e1
      split at h6
      · simp only [Bool.and_eq_true] at h6
        exact both (E_ext (W := W) (snd_E a g h5).1 (snd_E x g h6.2).1 h3 h6.1 h2) rfl
      · cases h6
    · cases h
  | .cnt a x, L, X, sc, W, e, g, h => by
    simp only [chkE] at h
    split at h
    · rename_i o nm ap l kw pos
      simp only [Bool.and_eq_true] at h
      obtain ⟨⟨⟨⟨⟨h1, h2⟩, h3⟩, h4⟩, h5⟩, h6⟩ := h
      rw [List.isEmpty_iff] at h4
      have e1 := isStr_eq h1
      subst h4 e1
      split at h6
      · simp only [Bool.and_eq_true] at h6
        exact both (E_cnt (W := W) (snd_E a g h5).1 (snd_E x g h6.2).1 h3 h6.1 h2) rfl
      · cases h6
    · cases h
  | .join a x, L, X, sc, W, e, g, h => by
    simp only [chkE] at h
    split at h
    · rename_i o nm ap l kw pos
      simp only [Bool.and_eq_true] at h
      obtain ⟨⟨⟨⟨⟨h1, h2⟩, h3⟩, h4⟩, h5⟩, h6⟩ := h
      rw [List.isEmpty_iff] at h4
      have e1 := isStr_eq h1
      subst h4 e1
      split at h6
      · simp only [Bool.and_eq_true] at h6
        exact both (E_join (W := W) (snd_E a g h5).1 (snd_E x g h6.2).1 h3 h6.1 h2) rfl
      · cases h6
    · cases h
  | .pop a, L, X, sc, W, e, g, h => by
    simp only [chkE] at h
    split at h
    · rename_i o nm ap l kw pos
      simp only [Bool.and_eq_true] at h
      obtain ⟨⟨⟨⟨⟨h1, h2⟩, h3⟩, h4⟩, h5⟩, h6⟩ := h
      rw [List.isEmpty_iff] at h4 h5
      have e1 := isStr_eq h1
      subst h4 h5 e1
      exact both (E_pop (W := W) (snd_E a g h6).1 h3 h2) rfl
    · cases h
  | .lc x own t s elt cond, L, X, sc, W, e, g, h => by
    simp only [chkE] at h
    split at h
    · rename_i y gens scope pos
      simp only [Bool.and_eq_true, Bool.not_eq_true'] at h
      obtain ⟨hx, h⟩ := h
      subst hx
      split at h
      · rename_i tg it ifs isa
        simp only [Bool.and_eq_true, decide_eq_true_eq] at h
        obtain ⟨⟨⟨⟨⟨⟨⟨h1, h2⟩, h3⟩, h4⟩, h5⟩, h6⟩, h7⟩, h8⟩ := h
        subst h1
        have hp : PE X (.ListComp y [⟨tg, it, ifs, 0⟩] scope pos) (tE X.K L W (evalE Fs (.lc false own t s elt cond))) := E_lc (pos := pos) g h2 h3 h4 h5 (snd_Src s g h6) (fun z s' H C cl fp => by
          split at h7
          · have e1 := isYes_eq h7
            subst e1
            exact ⟨fun pins s' σ H' Q I q => pts_nil.run pins s' σ H' Q I (by
              obtain ⟨m, δ, hh, r, R, S, e, f⟩ := q.fin
              cases e
              obtain ⟨b, e1, e2⟩ := f m (.bl true) H' Ext.refl R (.bl true) Keep.refl
              cases e1
              exact e2)⟩
          · simp only [Bool.and_eq_true] at h7
            exact pts_one ((snd_E cond (g.blk z s' H scope C cl fp) h7.2).2 h7.1)
          · cases h7) fun z s' H C cl fp => (snd_E elt (g.blk z s' H scope C cl fp) h8).1
        exact ⟨hp, fun _ => PT_val hp rfl⟩
      · cases h
    · cases h
  | .mkd, L, X, sc, W, e, g, h => by cases h
  | .gin n t a, L, X, sc, W, e, g, h => by
    simp only [chkE] at h
    split at h
    · split at h
      · simp only [Bool.and_eq_true] at h
        exact andT (E_gin (W := W) g h.1.2 h.2 (snd_E a g h.1.1).1).1
      · cases h
    · cases h
  | .gnin n t a, L, X, sc, W, e, g, h => by
    simp only [chkE] at h
    split at h
    · split at h
      · simp only [Bool.and_eq_true] at h
        exact andT (E_gin (W := W) g h.1.2 h.2 (snd_E a g h.1.1).1).2
      · cases h
    · cases h
  | .din .., L, X, sc, W, e, g, h => by cases h
  | .dnin .., L, X, sc, W, e, g, h => by cases h
  | .gget n t a, L, X, sc, W, e, g, h => by
    simp only [chkE] at h
    split at h
    · simp only [Bool.and_eq_true] at h
      exact both (E_gget (W := W) g h.1.1.1 h.1.1.2 h.2 (snd_E a g h.1.2).1) rfl
    · cases h
  | .ggetd .., L, X, sc, W, e, g, h => by cases h
  | .dget .., L, X, sc, W, e, g, h => by cases h
  | .meth .., L, X, sc, W, e, g, h => by cases h
  | .make .., L, X, sc, W, e, g, h => by cases h
  | .callv .., L, X, sc, W, e, g, h => by cases h
  | .fld .., L, X, sc, W, e, g, h => by cases h
  | .index a x, L, X, sc, W, e, g, h => by
    simp only [chkE] at h
    split at h
    · split at h
      · rename_i o nm ap l kw pos
        simp only [Bool.and_eq_true] at h
        obtain ⟨⟨⟨⟨⟨⟨h1, h2⟩, h3⟩, h4⟩, h5⟩, h6⟩, h7⟩ := h
        rw [List.isEmpty_iff] at h4
        have e1 := isStr_eq h1
        subst h4 e1
        split at h7
        · simp only [Bool.and_eq_true] at h7
          exact both (E_index (W := W) g h5 h6 (snd_E x g h7.2).1 h3 h7.1 h2) rfl
        · cases h7
      · cases h
    · cases h
  | .dpop .., L, X, sc, W, e, g, h => by cases h
theorem snd_Es : ∀ (es : IEs) {L : Pl} {X : Cx} {sc : Scope} {W : WX} {l : List Expr}, Gd L G N Fs k X sc W → chkEs G N es sc l = true → PA X l (tA X.K L W (evalEs Fs es))
  | .nil, L, X, sc, W, l, g, h => by
    cases l with
    | nil => exact A_nil
    | cons => cases h
  | .cons a r, L, X, sc, W, l, g, h => by
    cases l with
    | nil => simp [chkEs] at h
    | cons x y =>
      simp only [chkEs, Bool.and_eq_true] at h
      exact A_cons (snd_E a g h.1.2).1 (snd_Es r g h.2) (star_cons h.1.1)
theorem snd_Src : ∀ (s : Src) {L : Pl} {X : Cx} {sc : Scope} {W : WX} {tg e : Expr}, Gd L G N Fs k X sc W → chkSrc G N s sc e = true → PI X tg e (tI X.K L W (evalSrc Fs s))
  | .sq a, L, X, sc, W, tg, e, g, h => by
    simp only [chkSrc, Bool.and_eq_true] at h
    exact S_sq (snd_E a g h.1).1
  | .rng a b, L, X, sc, W, tg, e, g, h => by
    simp only [chkSrc] at h
    split at h
    · simp only [Bool.and_eq_true] at h
      obtain ⟨⟨h1, h2⟩, h3⟩ := h
      rw [List.isEmpty_iff] at h2
      subst h2
      split at h3
      · simp only [Bool.and_eq_true] at h3
        obtain ⟨p, rfl, g1, g2, g3⟩ := isGlobal_ok g h1
        exact S_rng g1 g.fs.rg h3.1.1.1 h3.1.1.2 (snd_E a g h3.1.2).1 (snd_E b g h3.2).1
      · cases h3
    · cases h
  | .rng1 b, L, X, sc, W, tg, e, g, h => by
    simp only [chkSrc] at h
    split at h
    · simp only [Bool.and_eq_true] at h
      obtain ⟨⟨h1, h2⟩, h3⟩ := h
      rw [List.isEmpty_iff] at h2
      subst h2
      split at h3
      · simp only [Bool.and_eq_true] at h3
        obtain ⟨p, rfl, g1, g2, g3⟩ := isGlobal_ok g h1
        exact S_rng1 g1 g.fs.rg h3.1 (snd_E b g h3.2).1
      · cases h3
    · cases h
  | .sgns a, L, X, sc, W, tg, e, g, h => by
    simp only [chkSrc, Bool.and_eq_true] at h
    exact S_strs (snd_E a g h.1).1
  | .items .., L, X, sc, W, tg, e, g, h => by cases h
  | .enum .., L, X, sc, W, tg, e, g, h => by cases h
  | .rev .., L, X, sc, W, tg, e, g, h => by cases h
end
end
end MM
namespace MM
open PySem PySem.Spec PyProof.Rows L2

/-! ### statements -/
def notComp : Expr → Bool
  | .ListComp .. | .SetComp .. | .DictComp .. => false
  | _ => true
def notTupE : Expr → Bool
  | .Tuple .. | .ListComp .. | .SetComp .. | .DictComp .. => false
  | _ => true
/-- name = value -/
def setOk (sc : Scope) (y : Str) (py : Pos) (v : Expr) : Bool := match v with
  | .ListComp _ _ scope pos => (onlyLoc sc y && (py.line == pos.line) && !(scope.names.any fun (n, k) => n == y && (k == .local || k == .cell))) || (locB sc y && !onlyLoc sc y)
  | .SetComp .. => false
  | .DictComp .. => false
  | _ => true
section
variable (G : Gam) (N : List Str)
/-- a try's body: one statement -/
def chkTB (b : IS) (sc : Scope) (l : List Stmt) : Bool := match b with
  | .set i e => (match l with
    | [.Assign [.Name y _] v _] => decide (N[i]? = some y) && locB sc y && notComp v && chkE G N e sc v
    | _ => false)
  | .ret e => (match l with
    | [.Return (some v) _] => chkE G N e sc v
    | _ => false)
  | _ => false
/-- what a clause answers: None, or a list of one constant -/
def chkHd (hd : IS) (sc : Scope) (l : List Stmt) : Bool := match hd with
  | .ret .non => (match l with
    | [.Return (some (.Constant .none _ _)) _] => true
    | _ => false)
  | .ret (.lst (.cons (.gl x d) .nil)) => (match l with
    | [.Return (some (.List [v] _)) _] => isGlobal sc v x && glIn G x d
    | _ => false)
  | _ => false
def chkS : IS → Scope → List Stmt → Bool
  | .skip, _, l => l.isEmpty
  | .seq a b, sc, l => (match l with
    | x :: y :: r => chkS a sc [x] && chkS b sc (y :: r)
    | _ => false)
  | .set i e, sc, l => (match l with
    | [.Assign [.Name y py] v _] => decide (N[i]? = some y) && locB sc y && setOk sc y py v && chkE G N e sc v
    | _ => false)
  | .setT is e, sc, l => (match l with
    | [.Assign [.Tuple es _ _] v _] => chkNames N sc is es && notTupE v && chkE G N e sc v
    | _ => false)
  | .expr e, sc, l => (match l with
    | [.Expr v _] => notComp v && chkE G N e sc v
    | _ => false)
  | .ret e, sc, l => (match l with
    | [.Return (some v) _] => chkE G N e sc v
    | _ => false)
  | .retN, _, l => (match l with
    | [.Return none _] => true
    | _ => false)
  | .ife c a b, sc, l => (match l with
    | [.If t x y _] => tOk c && chkE G N c sc t && chkS a sc x && chkS b sc y
    | _ => false)
  | .while c b, sc, l => (match l with
    | [.While t x [] _] => tOk c && chkE G N c sc t && chkS b sc x
    | _ => false)
  | .for t s b, sc, l => (match l with
    | [.For tg it x [] _] => chkTg N sc t tg && notSet it && chkSrc G N s sc it && chkS b sc x
    | _ => false)
  | .raise k p, sc, l => (match l with
    | [.Raise (some (.Call f [a, b] [] _)) none _] => G.hasW && isGlobal sc f "Wrong" && notStar a && notStar b && chkE G N k sc a && chkE G N p sc b
    | _ => false)
  | .raiseNo, sc, l => (match l with
    | [.Raise (some (.Call f [.Constant (.str _) _ _] [] _)) none _] => G.hasN && isGlobal sc f "NoDocument"
    | _ => false)
  | .tryw b hd, sc, l => (match l with
    | [.Try body [.ExceptHandler (some x) none suite _] [] [] _] => G.hasW && isGlobal sc x "Wrong" && chkTB G N b sc body && chkHd G hd sc suite
    | _ => false)
  | .tryn b hd, sc, l => (match l with
    | [.Try body [.ExceptHandler (some x) none suite _] [] [] _] => G.hasN && isGlobal sc x "NoDocument" && chkTB G N b sc body && chkHd G hd sc suite
    | _ => false)
  | _, _, _ => false
end

def EndOk (K : PySem.W.Frag) (L : Pl) (E : XK) (D : Ends) (m : List Addr) (H : Hp) : Out → Prop
  | .nx δ' h' => ∀ m' σ' H', Ext m m' H → RH K L m' H' h' → RSl K L m' H' σ' δ' → Keep m H H' → D.nx σ' H'
  | .ret d h' => ∀ m' v H', Ext m m' H → RH K L m' H' h' → VR K L m' H' v d → Keep m H H' → D.rt v H'
  | .ex e => ∀ cls dx H', XR L H' cls dx e → Keep m H H' → E cls dx H'
def tS (K : PySem.W.Frag) (L : Pl) (E : XK) (sem : Slots → AH → Option Out) : TS := fun D σ H => ∃ m δ h o, RH K L m H h ∧ RSl K L m H σ δ ∧ sem δ h = some o ∧ EndOk K L E D m H o
abbrev wE (E : XK) : WX := fun c d _ H => E c d H
structure Gs (L : Pl) (G : Gam) (N : List Str) (Fs : Fn → List D → AH → Res D) (k : Nat) (X : Cx) (sc : Scope) (E : XK) : Prop extends Gd L G N Fs k X sc (wE E) where
  fnx : ∀ x, X.fn x = true
  po : PassesOwn (model X.prog X.w) X.A X.env X.xe
  stk : X.stack = X.env :: X.outer
  frm : X.env.frame = some X.env.locals
  kd : X.env.scope.kind = .function
theorem _root_.L2.PS.imp {X : Cx} {e : Stmt} {t t' : TS} (h : PS X e t) (i : ∀ D σ H, t' D σ H → t D σ H) : PS X e t' := ⟨fun pins s σ H Q I q => h.run pins s σ H Q I (i Q σ H q)⟩
theorem _root_.L2.PSs.imp {X : Cx} {e : List Stmt} {t t' : TS} (h : PSs X e t) (i : ∀ D σ H, t' D σ H → t D σ H) : PSs X e t' := ⟨fun pins s σ H Q I q => h.run pins s σ H Q I (i Q σ H q)⟩

section
variable {K : PySem.W.Frag} {L : Pl} {E : XK} {Dn Dn' : Ends} {m m' : List Addr} {H H' : Hp} {h h' : AH} {σ : L2.St} {o : Out}
theorem bindO_some {α : Type} {x : Res α} {f : α → AH → Option Out} {o : Out} (e : bindO x f = some o) : (∃ a h, x = some (.ok a h) ∧ f a h = some o) ∨ ∃ ee, x = some (.ex ee) ∧ o = .ex ee := by
  rcases x with _ | ⟨a, h⟩ | ee
  · cases e
  · exact .inl ⟨a, h, rfl, e⟩
  · cases e
    exact .inr ⟨ee, rfl, rfl⟩
theorem thenO_some {x : Option Out} {f : Slots → AH → Option Out} {o : Out} (e : thenO x f = some o) : (∃ δ h, x = some (.nx δ h) ∧ f δ h = some o) ∨ (x = some o ∧ ∀ δ h, o ≠ .nx δ h) := by
  rcases x with _ | ⟨δ, h⟩ | ⟨d, h⟩ | ee
  · cases e
  · exact .inl ⟨δ, h, rfl, e⟩
  · cases e
    exact .inr ⟨rfl, fun _ _ z => by cases z⟩
  · cases e
    exact .inr ⟨rfl, fun _ _ z => by cases z⟩
theorem EndOk.mono (R' : RH K L m' H' h') (x : Ext m m' H) (k : Keep m H H') (f : EndOk K L E Dn m H o) : EndOk K L E Dn m' H' o := by
  have kk : ∀ {H2}, Keep m' H' H2 → Keep m H H2 := fun k2 a ob e n => k2 a ob (k a ob e n) (x.out n (by rw [e]; simp))
  cases o with
  | nx δ hh => exact fun m2 σ2 H2 x2 R2 S2 k2 => f m2 σ2 H2 (Ext.comp R' x k x2) R2 S2 (kk k2)
  | ret d hh => exact fun m2 v H2 x2 R2 r2 k2 => f m2 v H2 (Ext.comp R' x k x2) R2 r2 (kk k2)
  | ex e => exact fun cls dx H2 q k2 => f cls dx H2 q (kk k2)
/-- an end that is no going on: the same for another going on -/
theorem EndOk.out (f : EndOk K L E Dn m H o) (n : ∀ δ h, o ≠ .nx δ h) (hr : Dn'.rt = Dn.rt) : EndOk K L E Dn' m H o := by
  cases o with
  | nx δ hh => exact absurd rfl (n δ hh)
  | ret d hh => exact fun m2 v H2 x2 R2 r2 k2 => by rw [hr]; exact f m2 v H2 x2 R2 r2 k2
  | ex e => exact f
theorem stepO {ea : Slots → AH → Res D} {f : Slots → D → AH → Option Out} (q : tS K L E (fun δ h => bindO (ea δ h) fun d h => f δ d h) Dn σ H) :
    tE K L (wE E) ea σ H fun v H1 => ∃ m δ h d o, RH K L m H1 h ∧ RSl K L m H1 σ δ ∧ VR K L m H1 v d ∧ f δ d h = some o ∧ EndOk K L E Dn m H1 o := by
  obtain ⟨m, δ, h, o, R, S, e, g⟩ := q
  rcases bindO_some e with ⟨x, h1, e1, e2⟩ | ⟨ee, e1, rfl⟩
  · exact ⟨m, δ, h, [], _, R, S, .nil, e1, fun m1 v H1 x1 R1 r1 k1 => ⟨m1, δ, h1, x, o, R1, S.keep R x1 k1, r1, e2, g.mono R1 x1 k1⟩⟩
  · exact ⟨m, δ, h, [], _, R, S, .nil, e1, g⟩
end

/-! #### while: so many turns -/
def whileN (c : Slots → AH → Res D) (b : Slots → AH → Option Out) : Nat → Slots → AH → Option Out
  | 0, _, _ => none
  | n + 1, δ, h => bindO (c δ h) fun x h1 => match x with
    | .bl k => if k = true then thenO (b δ h1) fun δ2 h2 => whileN c b n δ2 h2 else some (.nx δ h1)
    | _ => none
theorem whileN_of {c : Slots → AH → Res D} {b : Slots → AH → Option Out} : ∀ {δ : Slots} {h : AH} {o : Out}, whileF c b δ h = some o → ∃ n, whileN c b n δ h = some o := by
  intro δ h o
  refine whileF.partial_correctness c b ⟨⟩ ⟨⟩ (fun δ h o => ∃ n, whileN c b n δ h = some o) ?_ δ h o
  intro wf ih δ h o e
  split at e
  · rename_i k h1 e1
    split at e
    · rename_i hk
      subst hk
      split at e
      · rename_i δ2 h2 e2
        obtain ⟨n, hn⟩ := ih _ _ _ e
        refine ⟨n + 1, ?_⟩
        rw [whileN, e1, bindO_ok]
        show thenO (b δ h1) (fun δ2 h2 => whileN c b n δ2 h2) = some o
        rw [e2]
        exact hn
      · rename_i d h2 e2
        cases e
        refine ⟨1, ?_⟩
        rw [whileN, e1, bindO_ok]
        show thenO (b δ h1) _ = _
        rw [e2]
        rfl
      · rename_i ee e2
        cases e
        refine ⟨1, ?_⟩
        rw [whileN, e1, bindO_ok]
        show thenO (b δ h1) _ = _
        rw [e2]
        rfl
      · cases e
    · rename_i hk
      cases e
      refine ⟨1, ?_⟩
      rw [whileN, e1, bindO_ok]
      show (if k = true then _ else _) = _
      rw [if_neg hk]
  · rename_i ee e1
    cases e
    refine ⟨1, ?_⟩
    rw [whileN, e1]
    rfl
  · cases e

section
variable {X : Cx} {L : Pl} {G : Gam} {N : List Str} {Fs : Fn → List D → AH → Res D} {k : Nat} {sc : Scope} {E : XK}
theorem while_step {c : Slots → AH → Res D} {b : Slots → AH → Option Out} {Dn : Ends} {σ : L2.St} {H : Hp} (q : tS X.K L E (fun δ h => whileF c b δ h) Dn σ H) : tWhile (tT X.K L (wE E) c) (tS X.K L E b) Dn σ H := by
  obtain ⟨m0, δ0, h0, o, R0, S0, e0, g0⟩ := q
  obtain ⟨n0, e0⟩ := whileN_of e0
  refine ⟨fun n σ H => ∃ m δ h o, RH X.K L m H h ∧ RSl X.K L m H σ δ ∧ whileN c b n δ h = some o ∧ EndOk X.K L E Dn m H o, ⟨n0, m0, δ0, h0, o, R0, S0, e0, g0⟩, fun n σ H ⟨m, δ, h, o, R, S, e, g⟩ => ?_⟩
  cases n with
  | zero => cases e
  | succ n =>
    have q : tS X.K L E (fun δ h => bindO (c δ h) fun x h1 => match x with
      | .bl k => if k = true then thenO (b δ h1) fun δ2 h2 => whileN c b n δ2 h2 else some (.nx δ h1)
      | _ => none) Dn σ H := ⟨m, δ, h, o, R, S, e, g⟩
    refine (stepO (f := fun δ x h1 => match x with
      | .bl k => if k = true then thenO (b δ h1) fun δ2 h2 => whileN c b n δ2 h2 else some (.nx δ h1)
      | _ => none) q).imp fun v H1 ⟨m1, δ1, h1, d, o1, R1, S1, r1, e1, g1⟩ => ?_
    cases d <;> first | (cases e1; done) | skip
    rename_i kk
    cases r1
    refine ⟨kk, rfl, ?_⟩
    have e1 : (if kk = true then thenO (b δ1 h1) fun δ2 h2 => whileN c b n δ2 h2 else some (.nx δ1 h1)) = some o1 := e1
    cases kk with
    | false =>
      rw [if_neg Bool.false_ne_true] at e1
      cases e1
      dsimp only
      rw [if_neg Bool.false_ne_true]
      exact g1 m1 σ H1 Ext.refl R1 S1 Keep.refl
    | true =>
      rw [if_pos rfl] at e1
      dsimp only
      rw [if_pos rfl]
      refine ⟨fun σ' H' => ∃ m δ h o, RH X.K L m H' h ∧ RSl X.K L m H' σ' δ ∧ whileN c b n δ h = some o ∧ EndOk X.K L E Dn m H' o, fun σ' H' hN => ⟨n, by omega, hN⟩, ?_⟩
      rcases thenO_some e1 with ⟨δ2, h2, e2, e3⟩ | ⟨e2, no⟩
      · exact ⟨m1, δ1, h1, .nx δ2 h2, R1, S1, e2, fun m' σ' H' x' R' S' k' => ⟨m', δ2, h2, o1, R', S', e3, g1.mono R' x' k'⟩⟩
      · exact ⟨m1, δ1, h1, o1, R1, S1, e2, g1.out no rfl⟩
theorem for_step {t : Tg} {b : Slots → AH → Option Out} {s : Src} {Dn : Ends} {σ : L2.St} {H : Hp} (q : tS X.K L E (fun δ h => bindO (evalSrc Fs s δ h) fun ds h => forGo t b ds.2 ds.1 δ h) Dn σ H) :
    tFor (tI X.K L (wE E) (evalSrc Fs s)) (gT X.K t) (tS X.K L E b) Dn σ H := by
  obtain ⟨m0, δ0, h0, o, R0, S0, e0, g0⟩ := q
  rcases bindO_some e0 with ⟨⟨ds, lk⟩, h1, e1, e2⟩ | ⟨ee, e1, rfl⟩
  rotate_left
  · exact ⟨m0, δ0, h0, _, R0, S0, e1, g0⟩
  refine ⟨m0, δ0, h0, _, R0, S0, e1, fun m1 H1 J x1 R1 k1 sk => ?_⟩
  have S1 := S0.keep R0 x1 k1
  refine ⟨fun i n σ H => i + n = ds.length ∧ ∃ m δ h o, RH X.K L m H h ∧ RSl X.K L m H σ δ ∧ SrcK X.K L m H J ds lk ∧ forGo t b lk (ds.drop i) δ h = some o ∧ EndOk X.K L E Dn m H o, ⟨ds.length, Nat.zero_add _, m1, δ0, h1, o, R1, S1, sk, e2, g0.mono R1 x1 k1⟩, fun i n σ H ⟨cnt, m, δ, h, o, R, S, s', e, g⟩ => ?_⟩
  by_cases hi : ds.length ≤ i
  · refine .inl ?_
    rw [List.drop_of_length_le hi] at e
    unfold forGo at e
    obtain ⟨lo, e⟩ := if_some e
    cases e
    exact ⟨(s'.turn R lo).2 hi, g m σ H Ext.refl R S Keep.refl⟩
  · refine .inr ?_
    have lt : i < ds.length := Nat.lt_of_not_le hi
    rw [List.drop_eq_getElem_cons lt] at e
    unfold forGo at e
    obtain ⟨lo, e⟩ := if_some e
    obtain ⟨go, yld⟩ := (s'.turn R lo).1 ds[i] (List.getElem?_eq_getElem lt)
    split at e
    · cases e
    · rename_i δ' e3
      refine ⟨go, fun σ H => i + 1 + (n - 1) = ds.length ∧ ∃ m δ h o, RH X.K L m H h ∧ RSl X.K L m H σ δ ∧ SrcK X.K L m H J ds lk ∧ forGo t b lk (ds.drop (i + 1)) δ h = some o ∧ EndOk X.K L E Dn m H o, fun σ' H' hN => ⟨n - 1, by omega, hN⟩, fun x H3 hy => ?_⟩
      obtain ⟨m3, x3, R3, k3, rx⟩ := yld x H3 hy
      have c3 := Carry.keep R x3 k3
      refine gT_go (S.carry c3) rx e3 fun σ' S' _ => ?_
      have g3 := g.mono R3 x3 k3
      have s3 := s'.carry c3
      rcases thenO_some e with ⟨δ2, h2, e4, e5⟩ | ⟨e4, no⟩
      · exact ⟨m3, δ', h, .nx δ2 h2, R3, S', e4, fun m' σ2 H' x' R' S2 k' => ⟨by omega, m', δ2, h2, o, R', S2, s3.carry (Carry.keep R3 x' k'), e5, g3.mono R' x' k'⟩⟩
      · exact ⟨m3, δ', h, o, R3, S', e4, g3.out no rfl⟩
theorem locB_ok {sc : Scope} {x : Str} (h : locB sc x = true) : L2.Loc sc x := by
  unfold locB at h
  unfold L2.Loc
  split at h
  · rename_i q; exact .inl q
  · rename_i q; exact .inr q
  · cases h
theorem onlyLoc_no {sc : Scope} {x : Str} (h : onlyLoc sc x = false) : sc.names.lookup x ≠ some .local := by
  intro z
  unfold onlyLoc at h
  rw [z] at h
  cases h

/-! #### raise -/
theorem names_ne : (Str.ofString "kind" == Str.ofString "position") = false := by decide +kernel
theorem raise_step (W' : WrongOk X.prog X.w X.K X.mg X.base (L.cl "Wrong")) {k p : IE} {Dn : Ends} {σ : L2.St} {H : Hp} (q : tS X.K L E (evalS Fs (.raise k p)) Dn σ H) :
    tMkO (L.cl "Wrong") (spW (L.cl "Wrong")) [] (tCons (tE X.K L (wE E) (evalE Fs k)) (tCons (tE X.K L (wE E) (evalE Fs p)) tNil)) σ H fun cls d H' => wE E cls d σ H' := by
  refine (stepO (f := fun δ x h => bindO (evalE Fs p δ h) fun y _ => match x, y with
    | .int k, .int p => some (.ex (.wrong k p))
    | _, _ => none) q).imp fun v1 H1 ⟨m, δ, h, x', o, R, S, vx, e, f⟩ => ?_
  rcases bindO_some e with ⟨y', h1, e1, e2⟩ | ⟨ee, e1, rfl⟩
  rotate_left
  · exact ⟨m, δ, h, [], _, R, S, .nil, e1, f⟩
  refine ⟨m, δ, h, [], _, R, S, .nil, e1, fun m2 v2 H2 x2 R2 r2 k2 => ?_⟩
  cases x' <;> first | (cases e2; done) | skip
  cases y' <;> first | (cases e2; done) | skip
  rename_i kk pp
  cases e2
  cases vx
  cases r2
  refine ⟨by show 2 ≤ 1000; omega, fun a ha => ⟨a, _, _, rfl, upd_same, fun dx hdx hne => ⟨rfl, dx, _, ?_, upd_same, ?_, ?_⟩⟩⟩
  · rw [upd_ne (Ne.symm hne), upd_same]
  · rw [upd_ne hne] at hdx
    exact hdx
  · have hd : H2 dx = none := by
      rw [upd_ne hne] at hdx
      exact hdx
    have f2 := f.mono R2 x2 k2
    refine f2 (.ref (L.cl "Wrong")) (some dx) _ ⟨rfl, dx, _, rfl, upd_same, ?_, ?_⟩ fun b ob eb nb => ?_
    · rw [List.lookup_cons, names_ne, List.lookup_cons, beq_self_eq_true]
    · rw [List.lookup_cons, beq_self_eq_true]
    · have n1 : b ≠ dx := ne_of_none eb hd
      have n2 : b ≠ a := ne_of_none eb ha
      rw [upd_ne n1, del_ne n2, upd_ne n1, upd_ne n2, upd_ne n1, upd_ne n2]
      exact eb
theorem pass_no : Passes (L2.CX X.prog X.w) X (fun _ _ _ => False) := fun pins σ H s e s' I c => by
  obtain ⟨_, _, _, _, _, _, _, _, _, _, _, _, z⟩ := c
  exact z.elim
/-! #### try -/
theorem try_core {C : Addr} {good : Exc → Bool} {he ee : IE} {cont : Slots → D → AH → Option Out} {fin : V → Hp → Prop} {Dn : Ends} {σ : L2.St} {H : Hp}
    (hg : ∀ H cls dx e, XR L H cls dx e → good e = true → cls = .ref C) (exm : PySem.W.exmOne X.K (.ref C) (.ref C) = some true) (hno : ∀ δ d h e, cont δ d h ≠ some (.ex e)) (hne : ∀ δ h e, evalE Fs he δ h ≠ some (.ex e))
    (hfin : ∀ m δ h v d H1 o, RH X.K L m H1 h → RSl X.K L m H1 σ δ → VR X.K L m H1 v d → cont δ d h = some o → EndOk X.K L E Dn m H1 o → fin v H1)
    (q : tS X.K L E (fun δ h => if h.isEmpty then (match bindO (evalE Fs ee δ h) (fun d h => cont δ d h) with
      | some (.ex e) => if good e then evalS Fs (.ret he) δ h else none
      | r => r) else none) Dn σ H) :
    tE X.K L (wOnly X.K (.ref C) (fun _ _ _ => tRet (tE X.K L WF (evalE Fs he))) (wE E) Dn) (evalE Fs ee) σ H fin := by
  obtain ⟨m, δ, h, o, R, S, e, f⟩ := q
  obtain ⟨c, e⟩ := if_some e
  have c : h = [] := List.isEmpty_iff.mp c
  subst c
  rcases z : evalE Fs ee δ [] with _ | ⟨d, h1⟩ | ex
  · rw [z] at e
    cases e
  · rw [z, bindO_ok] at e
    refine ⟨m, δ, [], [], _, R, S, .nil, z, fun m1 v H1 x1 R1 r1 k1 => ?_⟩
    have e2 : cont δ d h1 = some o := by
      rcases w : cont δ d h1 with _ | ⟨δ2, h2⟩ | ⟨d2, h2⟩ | e2
      · rw [w] at e; cases e
      · rw [w] at e; exact e
      · rw [w] at e; exact e
      · exact absurd w (hno _ _ _ _)
    exact hfin m1 δ h1 v d H1 o R1 (S.keep R x1 k1) r1 e2 (f.mono R1 x1 k1)
  · rw [z, bindO_ex] at e
    have e : (if good ex then evalS Fs (.ret he) δ [] else none) = some o := e
    obtain ⟨gd, e⟩ := if_some e
    refine ⟨m, δ, [], [], _, R, S, .nil, z, fun cls dx H' xr k' => ?_⟩
    have ec := hg H' cls dx ex xr gd
    subst ec
    refine ⟨true, exm, fun _ a ha => ?_, fun q => Bool.noConfusion q⟩
    have hm : m = [] := by
      have := R.len
      cases m with
      | nil => rfl
      | cons => simp at this
    subst hm
    have R' : RH X.K L [] H' [] := ⟨rfl, by simp, R.hidK Ext.refl k', fun n o a e1 _ => by simp at e1⟩
    have e : bindO (evalE Fs he δ []) (fun d h => some (.ret d h)) = some o := e
    have f' := f.mono R' Ext.refl k'
    rcases bindO_some e with ⟨d, h1, e1, e2⟩ | ⟨ex2, e1, rfl⟩
    · cases e2
      exact ⟨[], δ, [], [], _, R', S.keep R Ext.refl k', .nil, e1, fun m1 v H1 x1 R1 r1 k1 => f' m1 v H1 x1 R1 r1 k1⟩
    · exact absurd e1 (hne _ _ _)
/-- name = [..] on one line -/
theorem set_lc (g : Gs L G N Fs k X sc E) {i : Nat} {y : Str} {py pos spos : Pos} {e : IE} {elt0 : Expr} {gens : List Comprehension} {scope : Scope} (h1 : N[i]? = some y) (h2 : onlyLoc sc y = true) (hl : (py.line == pos.line) = true)
    (ha : (scope.names.any fun (n, k) => n == y && (k == .local || k == .cell)) = false) (h : chkE G N e sc (.ListComp elt0 gens scope pos) = true) :
    PS X (.Assign [.Name y py] (.ListComp elt0 gens scope pos) spos) (tAsg (tE X.K L (wE E) (evalE Fs e)) (gName i)) := by
  have lk : X.env.scope.names.lookup y = some .local := by rw [g.sc]; exact onlyLoc_ok h2
  cases e <;> first | (simp [chkE, isSlot, isGlobal] at h; done) | (simp only [chkE] at h; split at h <;> cases h; done) | skip
  rename_i x own t s elt cond
  simp only [chkE, Bool.and_eq_true, Bool.not_eq_true'] at h
  obtain ⟨hx, h⟩ := h
  subst hx
  split at h
  · rename_i tg it ifs isa
    simp only [Bool.and_eq_true, decide_eq_true_eq] at h
    obtain ⟨⟨⟨⟨⟨⟨⟨h1', h2'⟩, h3⟩, h4⟩, h5⟩, h6⟩, h7⟩, h8⟩ := h
    subst h1'
    have ok : BlkOk X.N X.env.scope scope (ownOf N t) := by rw [g.n_, g.sc]; exact blkB_ok h3
    refine PS.imp (ps_setLc g.calm (by rw [g.n_]; exact g.nd) (by rw [g.n_]; exact h1) lk (sw_true g.kd lk hl ha) (snd_Src s g.toGd h6) ok (g := gT X.K t) (tt := fun σ H Q => ∃ z, tT X.K { L with hid := z } WF (evalE Fs cond) σ H Q) (te := fun σ H Q => ∃ z, tE X.K { L with hid := z } WF (evalE Fs elt) σ H Q)
      (fun s H C cl fp => ?_) (fun s' H C cl fp => ?_) (fun s H C cl fp => ?_) (folded_ok h5)) fun D σ H q => by rw [h4]; exact lc_step g.toGd q
    · have gb := g.toGd.blk [] s H scope C cl fp
      exact tg_ok gb.n_ gb.nd gb.sc gb.calm h2'
    · refine ⟨fun pins s2 σ H' Q I ⟨z, q⟩ => ?_⟩
      split at h7
      · have e1 := isYes_eq h7
        subst e1
        exact pts_nil.run pins s2 σ H' Q I (by
          obtain ⟨m, δ, hh, r, R, S, e, f⟩ := q.fin
          cases e
          obtain ⟨b, e1, e2⟩ := f m (.bl true) H' Ext.refl R (.bl true) Keep.refl
          cases e1
          exact e2)
      · simp only [Bool.and_eq_true] at h7
        exact (pts_one ((snd_E cond (g.toGd.blk z s' H scope C cl fp) h7.2).2 h7.1)).run pins s2 σ H' Q I q
      · cases h7
    · exact ⟨fun pins s' σ H' Q I ⟨z, q⟩ => (snd_E elt (g.toGd.blk z s H scope C cl fp) h8).1.run pins s' σ H' Q I q⟩
  · cases h
theorem sw_cell {elt : Expr} {gs : List Comprehension} {scope : Scope} {pos py : Pos} {y : Str} {l : Nat} {env : Env} (hy : env.scope.names.lookup y ≠ some .local) : swapsWith (.ListComp elt gs scope pos) (some (.Name y py)) l env = pure false := by
  have e : (env.kindOf y == some .local) = false := by
    show (env.scope.names.lookup y == some .local) = false
    rw [beq_eq_false_iff_ne]
    exact hy
  show (pure (env.blockKind == .function && env.kindOf y == some .local && py.line == pos.line && !(scope.names.any fun (n, k) => n == y && (k == .local || k == .cell))) : Sem Bool) = pure false
  rw [e, Bool.and_false, Bool.false_and, Bool.false_and]

theorem Gs.tr (g : Gs L G N Fs k X sc E) {pn : List (Addr × Obj)} {xe : Value → Shared → Prop} {W : WX} (t : Takes (X.tr pn xe) W) : Gd L G N Fs k (X.tr pn xe) sc W :=
  { n_ := g.n_, nd := g.nd, sc := g.sc, fs := g.fs, tk := t, hr := g.hr, hk := g.hk, calm := g.calm }
/-- a clause's suite -/
theorem hd_ok (g : Gs L G N Fs k X sc E) {hd : IS} {suite : List Stmt} (h : chkHd G hd sc suite = true) : ∃ he b0, hd = .ret he ∧ suite = [b0] ∧ (∀ δ h e, evalE Fs he δ h ≠ some (.ex e)) ∧
    ∀ (a : Addr) (oe : Obj) (pn : List (Addr × Obj)), PSs (X.suite a ((a, oe) :: pn)) [b0] (tRet (tE X.K L WF (evalE Fs he))) := by
  unfold chkHd at h
  split at h
  · split at h
    · rename_i q p p2
      exact ⟨.non, _, rfl, rfl, (fun δ h e z => by cases z), fun a oe pn => pss_one (ps_ret (E_const pe_non (fun _ _ => rfl) fun _ _ _ _ => .non))⟩
    · cases h
  · rename_i x d
    split at h
    · rename_i v p p2
      simp only [Bool.and_eq_true] at h
      obtain ⟨pp, rfl, g1, g2, g3⟩ := isGlobal_ok g.toGd h.1
      have h2 := h.2
      unfold glIn at h2
      rw [List.any_eq_true] at h2
      obtain ⟨p0, hp, h3⟩ := h2
      simp only [Bool.and_eq_true, decide_eq_true_eq] at h3
      have e1 := beqD_ok h3.2
      obtain ⟨u, w, m1, r, vr, _⟩ := g.fs.gls p0 hp
      rw [h3.1] at m1
      rw [e1] at vr
      refine ⟨.lst (.cons (.gl x d) .nil), _, rfl, rfl, (fun δ h e z => by cases z), fun a oe pn => pss_one (ps_ret ?_)⟩
      have hl : PE (X.suite a ((a, oe) :: pn)) (.List [.Name (Str.ofString x) pp] p) (tLst (tCons (tC w) tNil)) := pe_lst (pa_cons (pe_glob g1 m1 r g2) pa_nil)
      refine PE.imp hl fun σ H Q q => ?_
      obtain ⟨m, δ, hh, r', R, S, e, f⟩ := q.fin
      cases e
      exact ⟨by show 1 ≤ sizeLine; decide, fun p n => Yes.lst f R (.cons (vr L.hid m H hh R) .nil) n⟩
    · cases h
  · cases h
/-- try: one statement; except C: one answer -/
theorem try_ok (g : Gs L G N Fs k X sc E) {C : Addr} {good : Exc → Bool} {b hd : IS} {x : Expr} {cn : String} {body suite : List Stmt} {p1 p2 : Pos} {sem : Slots → AH → Option Out}
    (hg : ∀ H cls dx e, XR L H cls dx e → good e = true → cls = .ref C) (exm : PySem.W.exmOne X.K (.ref C) (.ref C) = some true) (hx : isGlobal sc x cn = true) (hm : X.mg (Str.ofString cn) = some (.ref C))
    (hb : chkTB G N b sc body = true) (hh : chkHd G hd sc suite = true) (hs : ∀ δ h, sem δ h = if h.isEmpty then (match evalS Fs b δ h with
      | some (.ex e) => if good e then evalS Fs hd δ h else none
      | r => r) else none) :
    PS X (.Try body [.ExceptHandler (some x) none suite p1] [] [] p2) (tS X.K L E sem) := by
  obtain ⟨np, rfl, g1, g2, g3⟩ := isGlobal_ok g.toGd hx
  obtain ⟨he, b0, rfl, rfl, hne, hsu⟩ := hd_ok g hh
  have es : sem = fun δ h => if h.isEmpty then (match evalS Fs b δ h with
      | some (.ex e) => if good e then evalS Fs (.ret he) δ h else none
      | r => r) else none := funext fun δ => funext fun h => hs δ h
  subst es
  have nm : Names X (Str.ofString cn) (.ref C) := ⟨g1, g2, .inl hm⟩
  unfold chkTB at hb
  split at hb
  · rename_i i ee
    split at hb
    · rename_i y py v sp
      simp only [Bool.and_eq_true, decide_eq_true_eq] at hb
      obtain ⟨⟨⟨h1, h2⟩, h3⟩, h4⟩ := hb
      have rule := ps_try_only (X := X) (pos := p2) (pos' := p1) (np := np) (b₀ := b0) (suite := []) (Wout := wE E) (tb := fun W => tAsg (tE X.K L W (evalE Fs ee)) (gName i)) (ts := fun _ _ _ => tRet (tE X.K L WF (evalE Fs he))) g.stk g.frm nm g.tk
        (fun W pn xe tk _ => pss_one (ps_set (X := X.tr pn xe) (pos' := py) (pos := sp) (by show X.N.Nodup; rw [g.n_]; exact g.nd) (by show X.N[i]? = _; rw [g.n_]; exact h1) (by show L2.Loc X.env.scope y; rw [g.sc]; exact locB_ok h2) (snd_E ee (g.tr tk) h4).1
          (by cases v <;> first | rfl | cases h3) (.inl (g.fnx y)))) fun a oe cls d pn _ _ => hsu a oe pn
      refine PS.imp rule fun D σ H q => ?_
      exact try_core (fin := fun v H1 => gName i v σ H1 D.nx) (cont := fun δ d h => some (.nx (setS δ i d) h)) hg exm (fun _ _ _ _ z => by cases z) hne (fun m δ h v d H1 o R S r e f => by
        cases e
        exact f m _ H1 Ext.refl R (S.set i r) Keep.refl) q
    · cases hb
  · rename_i ee
    split at hb
    · rename_i v sp
      have rule := ps_try_only (X := X) (pos := p2) (pos' := p1) (np := np) (b₀ := b0) (suite := []) (Wout := wE E) (tb := fun W => tRet (tE X.K L W (evalE Fs ee))) (ts := fun _ _ _ => tRet (tE X.K L WF (evalE Fs he))) g.stk g.frm nm g.tk
        (fun W pn xe tk _ => pss_one (ps_ret (X := X.tr pn xe) (pos := sp) (snd_E ee (g.tr tk) hb).1)) fun a oe cls d pn _ _ => hsu a oe pn
      refine PS.imp rule fun D σ H q => ?_
      exact try_core (fin := D.rt) (cont := fun δ d h => some (.ret d h)) hg exm (fun _ _ _ _ z => by cases z) hne (fun m δ h v d H1 o R S r e f => by
        cases e
        exact f m _ H1 Ext.refl R r Keep.refl) q
    · cases hb
  · cases hb

theorem snd_S : ∀ (is : IS) {L : Pl} {X : Cx} {sc : Scope} {E : XK} {l : List Stmt}, Gs L G N Fs k X sc E → chkS G N is sc l = true → PSs X l (tS X.K L E (evalS Fs is)) ∧ ∀ x, l = [x] → PS X x (tS X.K L E (evalS Fs is))
  | .skip, L, X, sc, E, l, g, h => by
    simp only [chkS, List.isEmpty_iff] at h
    subst h
    refine ⟨PSs.imp pss_nil fun D σ H q => ?_, fun x z => by cases z⟩
    obtain ⟨m, δ, h, o, R, S, e, f⟩ := q
    cases e
    exact f m σ H Ext.refl R S Keep.refl
  | .seq a b, L, X, sc, E, l, g, h => by
    simp only [chkS] at h
    split at h
    · rename_i x y r
      simp only [Bool.and_eq_true] at h
      have ia := (snd_S a g h.1).2 x rfl
      have ib := (snd_S b g h.2).1
      refine ⟨PSs.imp (pss_cons ia ib) fun D σ H q => ?_, fun x z => by cases z⟩
      obtain ⟨m, δ, h, o, R, S, e, f⟩ := q
      rcases thenO_some e with ⟨δ2, h2, e1, e2⟩ | ⟨e1, no⟩
      · exact ⟨m, δ, h, _, R, S, e1, fun m' σ' H' x' R' S' k' => ⟨m', δ2, h2, o, R', S', e2, f.mono R' x' k'⟩⟩
      · exact ⟨m, δ, h, o, R, S, e1, f.out no rfl⟩
    · cases h
  | .set i e, L, X, sc, E, l, g, h => by
    simp only [chkS] at h
    split at h
    · rename_i y py v pos
      simp only [Bool.and_eq_true, decide_eq_true_eq] at h
      obtain ⟨⟨⟨h1, h2⟩, h3⟩, h4⟩ := h
      have nd : X.N.Nodup := by rw [g.n_]; exact g.nd
      have hi : X.N[i]? = some y := by rw [g.n_]; exact h1
      have lc : L2.Loc X.env.scope y := by rw [g.sc]; exact locB_ok h2
      have key : PS X (.Assign [.Name y py] v pos) (tAsg (tE X.K L (wE E) (evalE Fs e)) (gName i)) := by
        have plain : swapsWith v (some (.Name y py)) pos.line X.env = pure false → PS X (.Assign [.Name y py] v pos) (tAsg (tE X.K L (wE E) (evalE Fs e)) (gName i)) := fun z =>
          ps_set nd hi lc (snd_E e g.toGd h4).1 z (.inl (g.fnx y))
        cases v <;> first | exact plain rfl | skip
        · rename_i elt0 gens scope p0
          simp only [setOk, Bool.or_eq_true, Bool.and_eq_true, Bool.not_eq_true'] at h3
          rcases h3 with ⟨⟨c1, c2⟩, c3⟩ | ⟨c1, c2⟩
          · exact set_lc g h1 c1 c2 c3 h4
          · exact plain (sw_cell (by rw [g.sc]; exact onlyLoc_no c2))
        · cases h3
        · cases h3
      have fin := PS.imp (t' := tS X.K L E (evalS Fs (.set i e))) key fun D σ H q => by
        refine (stepO (f := fun δ d h => some (.nx (setS δ i d) h)) q).imp fun v H1 ⟨m, δ, h, d, o, R, S, r, e, f⟩ => ?_
        cases e
        exact f m _ H1 Ext.refl R (S.set i r) Keep.refl
      exact ⟨pss_one fin, fun x z => by cases z; exact fin⟩
    · cases h
  | .setT is e, L, X, sc, E, l, g, h => by
    simp only [chkS] at h
    split at h
    · rename_i es kk pt v pos
      simp only [Bool.and_eq_true] at h
      obtain ⟨⟨h1, h2⟩, h3⟩ := h
      obtain ⟨a1, a2, a3⟩ := names_ok g.n_ g.nd g.sc is es h1
      have hg : PG X (.Tuple es kk pt) (gT X.K (.tup is)) := tg_ok (t := .tup is) g.n_ g.nd g.sc g.calm h1
      have key : PS X (.Assign [.Tuple es kk pt] v pos) (tAsg (tE X.K L (wE E) (evalE Fs e)) (gT X.K (.tup is))) :=
        ps_asg (snd_E e g.toGd h3).1 hg (by cases v <;> first | rfl | cases h2) (by cases v <;> first | rfl | cases h2)
      have fin := PS.imp (t' := tS X.K L E (evalS Fs (.setT is e))) key fun D σ H q => by
        refine (stepO (f := fun δ d h => match d with
          | .tup l => if l.length = is.length then some (.nx (setAll δ is l) h) else none
          | _ => none) q).imp fun v H1 ⟨m, δ, h, d, o, R, S, r, e, f⟩ => ?_
        cases d <;> first | (cases e; done) | skip
        rename_i l
        obtain ⟨c, e⟩ := if_some e
        cases e
        refine gT_go (t := .tup is) (δ' := setAll δ is l) S r (if_pos c) fun σ' S' _ => f m σ' H1 Ext.refl R S' Keep.refl
      exact ⟨pss_one fin, fun x z => by cases z; exact fin⟩
    · cases h
  | .expr e, L, X, sc, E, l, g, h => by
    simp only [chkS] at h
    split at h
    · rename_i v pos
      simp only [Bool.and_eq_true] at h
      have fin := PS.imp (t' := tS X.K L E (evalS Fs (.expr e))) (ps_expr (pos := pos) (snd_E e g.toGd h.2).1 (by cases v <;> first | rfl | cases h.1)) fun D σ H q => by
        refine (stepO (f := fun δ d h => some (.nx δ h)) q).imp fun v H1 ⟨m, δ, h, d, o, R, S, r, e, f⟩ => ?_
        cases e
        exact f m _ H1 Ext.refl R S Keep.refl
      exact ⟨pss_one fin, fun x z => by cases z; exact fin⟩
    · cases h
  | .ret e, L, X, sc, E, l, g, h => by
    simp only [chkS] at h
    split at h
    · rename_i v pos
      have fin := PS.imp (t' := tS X.K L E (evalS Fs (.ret e))) (ps_ret (pos := pos) (snd_E e g.toGd h).1) fun D σ H q => by
        refine (stepO (f := fun δ d h => some (.ret d h)) q).imp fun v H1 ⟨m, δ, h, d, o, R, S, r, e, f⟩ => ?_
        cases e
        exact f m _ H1 Ext.refl R r Keep.refl
      exact ⟨pss_one fin, fun x z => by cases z; exact fin⟩
    · cases h
  | .retN, L, X, sc, E, l, g, h => by
    simp only [chkS] at h
    split at h
    · rename_i pos
      have fin := PS.imp (t' := tS X.K L E (evalS Fs .retN)) (ps_retN (X := X) (pos := pos)) fun D σ H q => by
        obtain ⟨m, δ, h, o, R, S, e, f⟩ := q
        cases e
        exact f m _ H Ext.refl R .non Keep.refl
      exact ⟨pss_one fin, fun x z => by cases z; exact fin⟩
    · cases h
  | .ife c a b, L, X, sc, E, l, g, h => by
    simp only [chkS] at h
    split at h
    · rename_i t x y pos
      simp only [Bool.and_eq_true] at h
      obtain ⟨⟨⟨h1, h2⟩, h3⟩, h4⟩ := h
      have fin := PS.imp (t' := tS X.K L E (evalS Fs (.ife c a b))) (ps_if (pos := pos) ((snd_E c g.toGd h2).2 h1) (snd_S a g h3).1 (snd_S b g h4).1) fun D σ H q => by
        refine (stepO (f := fun δ x h => match x with
          | .bl k => if k = true then evalS Fs a δ h else evalS Fs b δ h
          | _ => none) q).imp fun v H1 ⟨m, δ, h, d, o, R, S, r, e, f⟩ => ?_
        cases d <;> first | (cases e; done) | skip
        rename_i kk
        cases r
        refine ⟨kk, rfl, ?_⟩
        have e : (if kk = true then evalS Fs a δ h else evalS Fs b δ h) = some o := e
        dsimp only
        cases kk with
        | false => rw [if_neg Bool.false_ne_true] at e ⊢; exact ⟨m, δ, h, o, R, S, e, f⟩
        | true => rw [if_pos rfl] at e ⊢; exact ⟨m, δ, h, o, R, S, e, f⟩
      exact ⟨pss_one fin, fun x z => by cases z; exact fin⟩
    · cases h
  | .while c b, L, X, sc, E, l, g, h => by
    simp only [chkS] at h
    split at h
    · rename_i t x pos
      simp only [Bool.and_eq_true] at h
      have fin := PS.imp (t' := tS X.K L E (evalS Fs (.while c b))) (ps_while (pos := pos) g.po ((snd_E c g.toGd h.1.2).2 h.1.1) (snd_S b g h.2).1) fun D σ H q => while_step q
      exact ⟨pss_one fin, fun x z => by cases z; exact fin⟩
    · cases h
  | .for t s b, L, X, sc, E, l, g, h => by
    simp only [chkS] at h
    split at h
    · rename_i tg it x pos
      simp only [Bool.and_eq_true] at h
      obtain ⟨⟨⟨h1, h2⟩, h3⟩, h4⟩ := h
      have fin := PS.imp (t' := tS X.K L E (evalS Fs (.for t s b))) (ps_for (pos := pos) g.po g.calm (snd_Src s g.toGd h3) (tg_ok g.n_ g.nd g.sc g.calm h1) (snd_S b g h4).1 (folded_ok h2)) fun D σ H q => for_step q
      exact ⟨pss_one fin, fun x z => by cases z; exact fin⟩
    · cases h
  | .par .., _, _, _, _, _, _, h => by cases h
  | .setTF .., _, _, _, _, _, _, h => by cases h
  | .fset .., _, _, _, _, _, _, h => by cases h
  | .dset .., _, _, _, _, _, _, h => by cases h
  | .raise kk pp, L, X, sc, E, l, g, h => by
    simp only [chkS] at h
    split at h
    · rename_i f a b cp pos
      simp only [Bool.and_eq_true] at h
      obtain ⟨⟨⟨⟨⟨h0, h1⟩, h2⟩, h3⟩, h4⟩, h5⟩ := h
      obtain ⟨np, rfl, g1, g2, g3⟩ := isGlobal_ok g.toGd h1
      have W' := g.fs.wr h0
      obtain ⟨fI, fd, ps, i1, i2, i3, i4⟩ := W'.init
      have fin := PS.imp (t' := tS X.K L E (evalS Fs (.raise kk pp))) (ps_raise (pos := pos) g.calm g.tk (pmk_oex (p := np) (pos := cp) W'.T i1 i2 i3 (g.hr.mono (by have := g.hk; omega)) i4 .nil pass_no g1 W'.gl (pa_cons (snd_E kk g.toGd h4).1 (pa_cons (snd_E pp g.toGd h5).1 pa_nil (star_cons h3)) (star_cons h2)) g2 (star_cons h2) (by rw [star_cons h3]; rfl))) fun D σ H q => raise_step W' q
      exact ⟨pss_one fin, fun x z => by cases z; exact fin⟩
    · cases h
  | .raiseNo, L, X, sc, E, l, g, h => by
    simp only [chkS] at h
    split at h
    · rename_i f m j p2 cp pos
      simp only [Bool.and_eq_true] at h
      obtain ⟨np, rfl, g1, g2, g3⟩ := isGlobal_ok g.toGd h.2
      have N' := g.fs.nd h.1
      have fin := PS.imp (t' := tS X.K L E (evalS Fs .raiseNo)) (ps_raise (pos := pos) g.calm g.tk (pmk_own (p := np) (m := m) (j := j) (p2 := p2) (pos := cp) F.excBase_ValueError N'.ex N'.gl N'.kp (raises_own N'.sub N'.ty) g1 g2)) fun D σ H q => by
        obtain ⟨m, δ, h, o, R, S, e, f⟩ := q
        cases e
        exact f _ _ _ rfl Keep.refl
      exact ⟨pss_one fin, fun x z => by cases z; exact fin⟩
    · cases h
  | .tryw b hd, L, X, sc, E, l, g, h => by
    simp only [chkS] at h
    split at h
    · rename_i body x suite p1 p2
      simp only [Bool.and_eq_true] at h
      obtain ⟨⟨⟨h0, h1⟩, h2⟩, h3⟩ := h
      have W' := g.fs.wr h0
      have fin := try_ok (p1 := p1) (p2 := p2) (sem := evalS Fs (.tryw b hd)) (good := fun e => match e with | .wrong _ _ => true | .nodoc => false) g (fun H cls dx e xr ge => by
        cases e with
        | wrong k p => exact xr.1
        | nodoc => cases ge) W'.exm h1 W'.gl h2 h3 fun δ h => by
          show (if h.isEmpty then _ else none) = _
          congr 1
          rcases evalS Fs b δ h with _ | _ | _ | e
          · rfl
          · rfl
          · rfl
          · cases e <;> rfl
      exact ⟨pss_one fin, fun x z => by cases z; exact fin⟩
    · cases h
  | .tryn b hd, L, X, sc, E, l, g, h => by
    simp only [chkS] at h
    split at h
    · rename_i body x suite p1 p2
      simp only [Bool.and_eq_true] at h
      obtain ⟨⟨⟨h0, h1⟩, h2⟩, h3⟩ := h
      have N' := g.fs.nd h0
      have fin := try_ok (p1 := p1) (p2 := p2) (sem := evalS Fs (.tryn b hd)) (good := fun e => match e with | .wrong _ _ => false | .nodoc => true) g (fun H cls dx e xr ge => by
        cases e with
        | wrong k p => cases ge
        | nodoc => exact xr) N'.exm h1 N'.gl h2 h3 fun δ h => by
          show (if h.isEmpty then _ else none) = _
          congr 1
          rcases evalS Fs b δ h with _ | _ | _ | e
          · rfl
          · rfl
          · rfl
          · cases e <;> rfl
      exact ⟨pss_one fin, fun x z => by cases z; exact fin⟩
    · cases h
  | .tryas .., _, _, _, _, _, _, h => by cases h
end
end MM
namespace MM
open PySem PySem.Spec PyProof.Rows L2

/-! ### functions -/
/-- a body, its line of words left out -/
def noDoc : List Stmt → List Stmt
  | .Expr (.Constant (.str _) _ _) _ :: r => r
  | l => l
section
variable {K : PySem.W.Frag} {L : Pl} {m m' : List Addr} {H H' : Hp} {h h0 h' : AH} {v : V} {d : D} {n : Nat}
mutual
theorem VR.lowD : ∀ {v : V} {d : D}, VR K L m H v d → belowD m.length d = true
  | _, _, .non => rfl
  | _, _, .bl _ => rfl
  | _, _, .int _ => rfl
  | _, _, .str _ => rfl
  | _, _, .tup _ r => VRs.lowD r
  | _, _, .lst _ _ r => VRs.lowD r
  | _, _, .inp _ _ r => VRs.lowD r
  | _, _, .inpK _ r => VRs.lowD r
  | _, _, .loc e => decide_eq_true (List.getElem?_eq_some_iff.mp e).1
  | _, _, .fn _ => rfl
theorem VRs.lowD : ∀ {vs : List V} {ds : List D}, VRs K L m H vs ds → belowDs m.length ds = true
  | _, _, .nil => rfl
  | _, _, .cons q r => by
    simp only [belowDs, VR.lowD q, VRs.lowD r]
    rfl
end
/-- what lies below needs no more than what lay below -/
theorem Off.take (o : Off L m' a) : Off L (m'.take n) a := ⟨fun z => o.1 (List.mem_of_mem_take z), o.2⟩
mutual
theorem VR.cutM : ∀ {v : V} {d : D}, VR K L m' H v d → belowD n d = true → VR K L (m'.take n) H v d
  | _, _, .non, _ => .non
  | _, _, .bl b, _ => .bl b
  | _, _, .int i, _ => .int i
  | _, _, .str s, _ => .str s
  | _, _, .tup q r, b => .tup q (VRs.cutM r b)
  | _, _, .lst q o r, b => .lst q o.take (VRs.cutM r b)
  | _, _, .inp q o r, b => .inp q o.take (VRs.cutM r b)
  | _, _, .inpK q r, b => .inpK q (VRs.cutM r b)
  | _, _, .loc e, b => .loc (by
      have lt := of_decide_eq_true b
      rw [List.getElem?_take, if_pos lt]
      exact e)
  | _, _, .fn f, _ => .fn f
theorem VRs.cutM : ∀ {vs : List V} {ds : List D}, VRs K L m' H vs ds → belowDs n ds = true → VRs K L (m'.take n) H vs ds
  | _, _, .nil, _ => .nil
  | _, _, .cons q r, b => by
    simp only [belowDs, Bool.and_eq_true] at b
    exact .cons (VR.cutM q b.1) (VRs.cutM r b.2)
end
theorem FRs.cutM : ∀ {vs : List (Str × V)} {ds : List (String × D)}, FRs K L m' H vs ds → (∀ p ∈ ds, belowD n p.2 = true) → FRs K L (m'.take n) H vs ds
  | _, _, .nil, _ => .nil
  | _, _, .cons q r, b => .cons (q.cutM (b _ (List.mem_cons_self ..))) (r.cutM fun p hp => b p (List.mem_cons_of_mem _ hp))
theorem KRs.cutM : ∀ {vs : List (Key × V)} {ds : List (List Nat × D)}, KRs K L m' H vs ds → (∀ p ∈ ds, belowD n p.2 = true) → KRs K L (m'.take n) H vs ds
  | _, _, .nil, _ => .nil
  | _, _, .cons q r, b => .cons (q.cutM (b _ (List.mem_cons_self ..))) (r.cutM fun p hp => b p (List.mem_cons_of_mem _ hp))
theorem FRs.lowD : ∀ {vs : List (Str × V)} {ds : List (String × D)}, FRs K L m H vs ds → ∀ p ∈ ds, belowD m.length p.2 = true
  | _, _, .nil, _, hp => by simp at hp
  | _, _, .cons q r, p, hp => by
    rcases List.mem_cons.mp hp with rfl | hp
    · exact q.lowD
    · exact r.lowD p hp
theorem KRs.lowD : ∀ {vs : List (Key × V)} {ds : List (List Nat × D)}, KRs K L m H vs ds → ∀ p ∈ ds, belowD m.length p.2 = true
  | _, _, .nil, _, hp => by simp at hp
  | _, _, .cons q r, p, hp => by
    rcases List.mem_cons.mp hp with rfl | hp
    · exact q.lowD
    · exact r.lowD p hp
def belowO (n : Nat) : HObj → Prop
  | .lst l => belowDs n l = true
  | .ins _ fs => ∀ p ∈ fs, belowD n p.2 = true
  | .dct kvs => ∀ p ∈ kvs, belowD n p.2 = true
theorem HR.lowD {a : Addr} {o : HObj} (r : HR K L m H a o) : belowO m.length o := by
  cases o with
  | lst ds => obtain ⟨_, _, r⟩ := r; exact r.lowD
  | ins c fs => obtain ⟨_, _, _, r⟩ := r; exact r.lowD
  | dct kvs => obtain ⟨_, _, r⟩ := r; exact r.lowD
theorem HR.cutM {a : Addr} {o : HObj} (r : HR K L m' H a o) (b : belowO n o) : HR K L (m'.take n) H a o := by
  cases o with
  | lst ds => obtain ⟨xs, e, r⟩ := r; exact ⟨xs, e, r.cutM b⟩
  | ins c fs => obtain ⟨dx, vs, e, r⟩ := r; exact ⟨dx, vs, e, r.cutM b⟩
  | dct kvs => obtain ⟨vs, e, r⟩ := r; exact ⟨vs, e, r.cutM b⟩
/-- the things of a call that is done: forgotten -/
theorem RH.cutM (R0 : RH K L m H h0) (R : RH K L m' H' h') (x : Ext m m' H) (e : h'.take h0.length = h0) : RH K L m H' h0 := by
  have em : m'.take h0.length = m := by
    obtain ⟨t, rfl, _⟩ := x
    rw [← R0.len, List.take_left]
  refine ⟨R0.len, R0.nd, fun a ha => ⟨(R0.hid a ha).1, (R.hid a ha).2⟩, fun i o a e1 e2 => ?_⟩
  have r0 := R0.at_ i o a e1 e2
  have lt : i < h0.length := (List.getElem?_eq_some_iff.mp e1).1
  have r := R.at_ i o a (by
    rw [← e, List.getElem?_take, if_pos lt] at e1
    exact e1) (x.old e2)
  rw [← em]
  exact r.cutM (by rw [← R0.len]; exact r0.lowD)
theorem loc_new (R : RH K L m' H' h') (x : Ext m m' H) {a : Addr} {i : Nat} (e : m'[i]? = some a) (hi : ¬ i < m.length) : Off L m a := by
  refine ⟨fun z => ?_, fun z => (R.hid a z).1 (List.mem_of_getElem? e)⟩
  obtain ⟨j, lj, ej⟩ := List.mem_iff_getElem.mp z
  have e2 : m'[j]? = some a := x.old (by rw [List.getElem?_eq_getElem lj, ej])
  obtain ⟨l1, q1⟩ := List.getElem?_eq_some_iff.mp e
  obtain ⟨l2, q2⟩ := List.getElem?_eq_some_iff.mp e2
  have := (List.getElem_inj R.nd).mp (q1.trans q2.symm)
  omega
theorem frz1_ok (R0 : RH K L m H h0) (R : RH K L m' H' h') (x : Ext m m' H) {d' : D} (r : VR K L m' H' v d) (e : frz1 h0.length h' d = some d') : VR K L m H' v d' := by
  have em : m'.take h0.length = m := by
    obtain ⟨t, rfl, _⟩ := x
    rw [← R0.len, List.take_left]
  unfold frz1 at e
  split at e
  · rename_i b
    cases e
    rw [← em]
    exact r.cutM b
  · rename_i b
    split at e
    · rename_i n
      split at e
      · rename_i l e1
        obtain ⟨c, e⟩ := if_some e
        cases e
        obtain ⟨a, rfl, e2⟩ := r.inv_loc
        obtain ⟨xs, e3, rl⟩ := R.at_ _ _ _ e1 e2
        refine .lst e3 (loc_new R x e2 fun z => b ?_) ?_
        · show decide (n < h0.length) = true
          rw [← R0.len]
          exact decide_eq_true z
        · rw [← em]
          exact rl.cutM c
      · cases e
    · cases e
theorem frzAll_ok (R0 : RH K L m H h0) (R : RH K L m' H' h') (x : Ext m m' H) : ∀ {vs : List V} {ds ds' : List D}, VRs K L m' H' vs ds → frzAll h0.length h' ds = some ds' → VRs K L m H' vs ds'
  | _, [], _, r, e => by cases r; cases e; exact .nil
  | _, d :: ds, _, r, e => by
    cases r with
    | cons q r =>
      unfold frzAll at e
      split at e
      · rename_i e1 e2
        cases e
        exact .cons (frz1_ok R0 R x q e1) (frzAll_ok R0 R x r e2)
      · cases e
theorem frz_ok (R0 : RH K L m H h0) (R : RH K L m' H' h') (x : Ext m m' H) {d' : D} (r : VR K L m' H' v d) (e : frz h0.length h' d = some d') : VR K L m H' v d' := by
  have em : m'.take h0.length = m := by
    obtain ⟨t, rfl, _⟩ := x
    rw [← R0.len, List.take_left]
  unfold frz at e
  split at e
  · rename_i b
    cases e
    rw [← em]
    exact r.cutM b
  · rename_i b
    split at e
    · rename_i n
      split at e
      · rename_i l e1
        obtain ⟨l', e4, e5⟩ := Option.map_eq_some_iff.mp e
        subst e5
        obtain ⟨a, rfl, e2⟩ := r.inv_loc
        obtain ⟨xs, e3, rl⟩ := R.at_ _ _ _ e1 e2
        refine .lst e3 (loc_new R x e2 fun z => b ?_) (frzAll_ok R0 R x rl e4)
        show decide (n < h0.length) = true
        rw [← R0.len]
        exact decide_eq_true z
      · cases e
    · cases e
/-- a call is done -/
theorem ret_ok {Q : VK} {d' : D} {h2 : AH} (R0 : RH K L m H h0) (e : retK h0 d h' = some (.ok d' h2)) (R : RH K L m' H' h') (x : Ext m m' H) (r : VR K L m' H' v d) (k : Keep m H H')
    (q : ∀ m' v H', Ext m m' H → RH K L m' H' h2 → VR K L m' H' v d' → Keep m H H' → Q v H') : Q v H' := by
  unfold retK at e
  split at e
  · cases e
    exact q m' v H' x R r k
  · split at e
    · rename_i b
      have b := beqH_ok b
      split at e
      · rename_i d2 e2
        cases e
        exact q m v H' Ext.refl (RH.cutM R0 R x b) (frz_ok R0 R x r e2) k
      · cases e
        exact q m' v H' x R r k
    · cases e
      exact q m' v H' x R r k
theorem retK_ok (h0 : AH) (d : D) (h : AH) : ∃ d' h', retK h0 d h = some (.ok d' h') := by
  unfold retK
  split
  · exact ⟨_, _, rfl⟩
  · split
    · split <;> exact ⟨_, _, rfl⟩
    · exact ⟨_, _, rfl⟩
end

/-- a function of the text that stands for a function of the IR -/
structure Stands (K : PySem.W.Frag) (G : Gam) (a : Addr) (fd : FunDef) (fdat : FuncData) (ps : List Str) : Prop where
  ex : ∃ (name qual : Str) (params : Arguments) (body : List Stmt) (scope : Scope) (dV kV doc pm cdv ct oc : Value) (an od : Option Addr) (osl : Array (Option Value)) (N : List Str),
    fdat = PySem.W.fnOf name qual params body scope dV kV doc pm an cdv ct ∧ K.lookup a = some ⟨oc, od, .func fdat, osl⟩ ∧ PySem.W.codeIn K cdv qual = true ∧ FnScope N ps scope ∧ ps.length = fd.np ∧ N.length = fd.ns ∧ chkS G N fd.body scope (noDoc body) = true
  b : Binds K fdat ps []
theorem noDoc_ok {X : Cx} {body : List Stmt} {t : TS} (h : PSs X (noDoc body) t) : PSs X body t := by
  unfold noDoc at h
  split at h
  · exact PSs.imp (pss_cons ps_doc h) fun D σ H q => q
  · exact h
theorem fn_ok {Pr : Program} {w : World} {K : PySem.W.Frag} {mg : Str → Option Value} {base : Heap} {L : Pl} {G : Gam} {Pm : Fn → Option FunDef} {k j : Nat} {f : Fn} {fd : FunDef} {fdat : FuncData} {ps : List Str} (hf : Pm f = some fd) (S : Stands K G (L.fn f) fd fdat ps)
    (F : Fct Pr w K mg base L G (callF Pm k) j) (hj : 2 ≤ j) (z : List Addr) : FnOk Pr w K mg base (L2.CX Pr w) (j + 2) (L.fn f) fdat ps (spF K { L with hid := z } (callF Pm (k + 1) f)) := by
  obtain ⟨name, qual, params, body, scope, dV, kV, doc, pm, cdv, ct, oc, an, od, osl, N, rfl, lk, hcd, S', e1, e2, e3⟩ := S.ex
  have len : ∀ {vs : List V} {H : Hp} {Q : VK} {E : XK}, spF K { L with hid := z } (callF Pm (k + 1) f) vs H Q E → vs.length = ps.length := fun {vs H Q E} ⟨m, h, ds, r, R, V, e, g⟩ => by
    rw [callF_step] at e
    rw [hf] at e
    obtain ⟨c, _⟩ := if_some e
    rw [V.length, c, e1]
  refine fn_of lk hcd S' (fun vs H Q E h => len h) fun A outer s H vs Q E hr hsp => ?_
  obtain ⟨m, h, ds, r, R, V, e, g⟩ := hsp
  have hl := V.length
  rw [callF_step] at e
  rw [hf] at e
  obtain ⟨c, e⟩ := if_some e
  have G0 : Gs { L with hid := z } G N (callF Pm k) j (cxOf (L2.CX Pr w) Pr w K mg base N qual scope (L.fn f) cdv A outer s H E) scope E := {
    n_ := rfl
    nd := S'.nd
    sc := rfl
    fs := F.hide z
    tk := takes_of rfl rfl rfl rfl
    hr := hr
    hk := hj
    stk := rfl
    frm := rfl
    calm := rfl
    fnx := fun _ => rfl
    po := passes_of rfl
    kd := S'.kind }
  refine ⟨_, noDoc_ok (snd_S fd.body G0 e3).1, ?_⟩
  have hs : RSl K { L with hid := z } m H (L2.start N vs) (startS fd.ns ds) := by
    refine ⟨?_, fun i d hd => ?_⟩
    · simp [L2.start, hl, e2]
    · unfold startS at hd
      by_cases hi : i < ds.length
      · rw [List.getElem?_append_left (by simpa using hi), List.getElem?_map] at hd
        obtain ⟨d', hd1, hd2⟩ := Option.map_eq_some_iff.mp hd
        cases hd2
        obtain ⟨v, hv, rv⟩ := V.get hd1
        refine ⟨v, ?_, rv⟩
        unfold L2.start
        rw [List.getElem?_append_left (by rw [List.length_map, hl]; exact hi), List.getElem?_map, hv]
        rfl
      · rw [List.getElem?_append_right (by simpa using Nat.le_of_not_lt hi)] at hd
        obtain ⟨_, hd⟩ := List.getElem?_eq_some_iff.mp hd
        simp at hd
  cases ho : evalS (callF Pm k) fd.body (startS fd.ns ds) h with
  | none => rw [ho] at e; cases e
  | some o =>
    rw [ho] at e
    refine ⟨m, _, h, o, R, hs, ho, ?_⟩
    cases o with
    | nx δ' h' =>
      obtain ⟨d', h2, e5⟩ := retK_ok h .non h'
      have e6 : retK h .non h' = some r := e
      rw [e5] at e6
      cases e6
      exact fun m' σ' H' x R' S2 k' => ret_ok R e5 R' x .non k' g
    | ret d h' =>
      obtain ⟨d', h2, e5⟩ := retK_ok h d h'
      have e6 : retK h d h' = some r := e
      rw [e5] at e6
      cases e6
      exact fun m' v H' x R' r' k' => ret_ok R e5 R' x r' k' g
    | ex ee =>
      cases e
      exact g
/-- a function, at no depth at all -/
theorem fn_ok0 {Pr : Program} {w : World} {K : PySem.W.Frag} {mg : Str → Option Value} {base : Heap} {L : Pl} {Pm : Fn → Option FunDef} {f : Fn} {fdat : FuncData} {ps : List Str} {j : Nat} (z : List Addr) :
    FnOk Pr w K mg base (L2.CX Pr w) j (L.fn f) fdat ps (spF K { L with hid := z } (callF Pm 0 f)) :=
  { len := fun vs H Q E hh => by
      obtain ⟨m, h, ds, r, R, V, e, g⟩ := hh
      rw [callF_zero] at e
      cases e
    run := fun A outer s H args us vs Q E _ _ _ _ hh => by
      obtain ⟨m, h, ds, r, R, V, e, g⟩ := hh
      rw [callF_zero] at e
      cases e }
/-- all functions, at each depth -/
theorem all_ok {Pr : Program} {w : World} {K : PySem.W.Frag} {mg : Str → Option Value} {base : Heap} {L : Pl} {G : Gam} {Pm : Fn → Option FunDef} 
    (hP : ∀ f, G.isG f = true → ∃ fd fdat ps, Pm f = some fd ∧ Stands K G (L.fn f) fd fdat ps)
    (gl : ∀ f, G.isG f = true → mg (Str.ofString (G.gname f)) = some (.ref (L.fn f)) ∧ PySem.W.keepIn K (.ref (L.fn f)) = true)
    (gls : ∀ p ∈ G.gls, ∃ u v, mg (Str.ofString p.1) = some u ∧ RelV v u ∧ (∀ z m H h, RH K { L with hid := z } m H h → VR K { L with hid := z } m H v p.2) ∧ ∀ t, p.2 = .tup t → ∃ a o, v = .ref a ∧ K.lookup a = some o ∧ o.cls = .type "tuple" ∧ o.dict = none)
    (bi : ∀ b, mg (Str.ofString (biName b)) = none) (rg : mg (Str.ofString "range") = none) (tabs : ∀ p ∈ G.tabs, ∃ a, mg (Str.ofString p.1) = some (.ref a) ∧ TabAt w K L.fn a p.2) (wr : G.hasW = true → WrongOk Pr w K mg base (L.cl "Wrong")) (nd : G.hasN = true → NodocOk K mg (L.cl "NoDocument")) : ∀ k, Fct Pr w K mg base L G (callF Pm k) (2 * k + 2) := by
  intro k
  induction k with
  | zero => exact ⟨fun f hf => let ⟨fd, fdat, ps, _, S⟩ := hP f hf; ⟨fdat, ps, fun z => fn_ok0 z, S.b⟩, gl, gls, bi, rg, tabs, wr, nd⟩
  | succ k ih => exact ⟨fun f hf => let ⟨fd, fdat, ps, e, S⟩ := hP f hf; ⟨fdat, ps, fun z => fn_ok e S ih (by omega) z, S.b⟩, gl, gls, bi, rg, tabs, wr, nd⟩
end MM
namespace MM
open PySem PySem.Spec PyProof.Rows L2
open PySem.W (WData Codec OpenSpec)

/-! ### constants of the top -/
mutual
def relD (K : PySem.W.Frag) (fa : Fn → Addr) : D → Value → Bool
  | .non, u => (match u with
    | .none => true
    | _ => false)
  | .bl b, u => (match u with
    | .bool c => b == c
    | _ => false)
  | .int i, u => (match u with
    | .int j _ => decide (i = j)
    | _ => false)
  | .str s, u => (match u with
    | .str x _ => decide (x.cps.toList = s)
    | _ => false)
  | .tup ds, u => (match u with
    | .ref a => (match K.lookup a with
      | some ⟨.type c, none, .seq its _, _⟩ => decide (c = "tuple") && decide (its.size ≤ sizeLine) && relDs K fa ds its.toList
      | _ => false)
    | _ => false)
  | .inp ds, u => (match u with
    | .ref a => (match K.lookup a with
      | some ⟨.type c, none, .seq its _, _⟩ => decide (c = "list") && decide (its.size ≤ sizeLine) && relDs K fa ds its.toList
      | _ => false)
    | _ => false)
  | .fn f, u => (match u with
    | .ref a => decide (a = fa f)
    | _ => false)
  | _, _ => false
def relDs (K : PySem.W.Frag) (fa : Fn → Addr) : List D → List Value → Bool
  | [], l => l.isEmpty
  | d :: ds, l => (match l with
    | u :: us => relD K fa d u && relDs K fa ds us
    | [] => false)
end
theorem sOf_eta (x : Str) : sOf x.cps.toList = x := by
  obtain ⟨c⟩ := x
  show Str.mk c.toList.toArray = Str.mk c
  simp
mutual
theorem relD_ok {K : PySem.W.Frag} {fa : Fn → Addr} : ∀ (d : D) (u : Value), relD K fa d u = true → RelV (toV u) u ∧ ∀ L m H, L.fn = fa → VR K L m H (toV u) d
  | .non, u, h => by
    cases u <;> first | (simp [relD] at h; done) | skip
    exact ⟨rfl, fun _ _ _ _ => .non⟩
  | .bl b, u, h => by
    cases u <;> first | (simp [relD] at h; done) | skip
    have e : b = _ := eq_of_beq h
    subst e
    exact ⟨rfl, fun _ _ _ _ => .bl _⟩
  | .int i, u, h => by
    cases u <;> first | (simp [relD] at h; done) | skip
    have e : i = _ := of_decide_eq_true h
    subst e
    exact ⟨⟨_, rfl⟩, fun _ _ _ _ => .int _⟩
  | .str s, u, h => by
    cases u <;> first | (simp [relD] at h; done) | skip
    rename_i x t
    have e : x.cps.toList = s := of_decide_eq_true h
    subst e
    refine ⟨⟨_, rfl⟩, fun L m H _ => ?_⟩
    have := VR.str (K := K) (L := L) (m := m) (H := H) x.cps.toList
    rw [sOf_eta] at this
    exact this
  | .tup ds, u, h => by
    simp only [relD] at h
    split at h
    · rename_i a
      split at h
      · rename_i c its n sl e
        simp only [Bool.and_eq_true, decide_eq_true_eq] at h
        obtain ⟨⟨h1, h2⟩, h3⟩ := h
        obtain ⟨r1, r2⟩ := relDs_ok ds its.toList h3
        exact ⟨rfl, fun L m H hf => .tup (.inr ⟨_, its, n, e, congrArg Value.type h1, rfl, h2, r1⟩) (r2 L m H hf)⟩
      · cases h
    · cases h
  | .inp ds, u, h => by
    simp only [relD] at h
    split at h
    · rename_i a
      split at h
      · rename_i c its n sl e
        simp only [Bool.and_eq_true, decide_eq_true_eq] at h
        obtain ⟨⟨h1, h2⟩, h3⟩ := h
        obtain ⟨r1, r2⟩ := relDs_ok ds its.toList h3
        exact ⟨rfl, fun L m H hf => .inpK ⟨_, its, n, e, congrArg Value.type h1, rfl, rfl, h2, r1⟩ (r2 L m H hf)⟩
      · cases h
    · cases h
  | .lst _, u, h => by simp [relD] at h
  | .loc _, u, h => by simp [relD] at h
  | .fn f, u, h => by
    cases u <;> first | (simp [relD] at h; done) | skip
    have e := of_decide_eq_true h
    refine ⟨rfl, fun L m H hf => ?_⟩
    rw [e, ← hf]
    exact .fn f
theorem relDs_ok {K : PySem.W.Frag} {fa : Fn → Addr} : ∀ (ds : List D) (us : List Value), relDs K fa ds us = true → Vals (us.map toV) us ∧ ∀ L m H, L.fn = fa → VRs K L m H (us.map toV) ds
  | [], us, h => by
    cases us with
    | nil => exact ⟨.nil, fun _ _ _ _ => .nil⟩
    | cons => simp [relDs] at h
  | d :: ds, us, h => by
    cases us with
    | nil => simp [relDs] at h
    | cons u us =>
      simp only [relDs, Bool.and_eq_true] at h
      obtain ⟨a1, a2⟩ := relD_ok d u h.1
      obtain ⟨b1, b2⟩ := relDs_ok ds us h.2
      exact ⟨.cons a1 b1, fun L m H hf => .cons (a2 L m H hf) (b2 L m H hf)⟩
end
theorem relD_tup {K : PySem.W.Frag} {fa : Fn → Addr} {t : List D} {u : Value} (h : relD K fa (.tup t) u = true) : ∃ a o, toV u = .ref a ∧ K.lookup a = some o ∧ o.cls = .type "tuple" ∧ o.dict = none := by
  simp only [relD] at h
  split at h
  · rename_i a
    split at h
    · rename_i c its n sl e
      simp only [Bool.and_eq_true, decide_eq_true_eq] at h
      exact ⟨a, _, rfl, e, congrArg Value.type h.1.1, rfl⟩
    · cases h
  · cases h
def glFacts (K : PySem.W.Frag) (fa : Fn → Addr) (gls : List (String × D)) : Bool := gls.all fun p => match PySem.W.nsIn K mainGlobals (Str.ofString p.1) with
  | some (some u) => relD K fa p.2 u
  | _ => false

/-! ### tables of the top -/
def keyOf2 (e : DictEntry) : Option (Key × Int) := match e.key with
  | .int i _ => some (.inl i, e.hash)
  | .str x _ => some (.inr x, e.hash)
  | _ => none
def tabVals (K : PySem.W.Frag) (fa : Fn → Addr) : List (D × D) → List DictEntry → Bool
  | [], [] => true
  | p :: t, e :: es => keyOk p.1 && relD K fa p.2 e.val && tabVals K fa t es
  | _, _ => false
abbrev TabV : Type := Option (List (Option (Key × Int)))
def tabObs (K : PySem.W.Frag) (fa : Fn → Addr) (p : String × List (D × D)) : TabV := match K.lookup (He.ga K (Str.ofString p.1)) with
  | some ⟨.type c, none, .dict es _, sl⟩ => (match decide (c = "dict") && sl.isEmpty && !(He.ga K (Str.ofString p.1) == sysModules) && He.eqO (PySem.W.nsIn K mainGlobals (Str.ofString p.1)) (some (some (.ref (He.ga K (Str.ofString p.1))))) && tabVals K fa p.2 es.toList with
    | true => some (es.toList.map keyOf2)
    | false => none)
  | _ => none
def keyVal (P : Params) (d : D) : Option (Key × Int) := match d with
  | .int i => some (.inl i, hashInt i)
  | .str s => some (.inr (sOf s), PyData.keyHash P (sOf s))
  | _ => none
def tabVal (P : Params) (t : List (D × D)) : TabV := some (t.map fun p => keyVal P p.1)
theorem tabEs_of {K : PySem.W.Frag} {fa : Fn → Addr} {w : World} : ∀ {t : List (D × D)} {es : List DictEntry}, tabVals K fa t es = true → es.map keyOf2 = t.map (fun p => keyVal w.params p.1) → TabEs w K fa es t
  | [], [], _, _ => trivial
  | [], _ :: _, h, _ => by cases h
  | _ :: _, [], h, _ => by cases h
  | p :: t, e :: es, h, q => by
    simp only [tabVals, Bool.and_eq_true] at h
    simp only [List.map_cons, List.cons.injEq] at q
    obtain ⟨⟨h1, h2⟩, h3⟩ := h
    obtain ⟨q1, q2⟩ := q
    refine ⟨?_, tabEs_of h3 q2⟩
    obtain ⟨r1, r2⟩ := relD_ok p.2 e.val h2
    have key : keyIs (kOf p.1) e.key = true ∧ e.hash = keyH w (kOf p.1) := by
      obtain ⟨pk, pv⟩ := p
      unfold keyOf2 at q1
      cases pk <;> first | (cases h1; done) | skip
      · split at q1
        · rename_i j t ek
          simp only [keyVal, Option.some.injEq, Prod.mk.injEq, Sum.inl.injEq] at q1
          rw [ek, q1.1]
          exact ⟨keyIs_int _ t, q1.2⟩
        · simp [keyVal] at q1
        · simp [keyVal] at q1
      · split at q1
        · simp [keyVal] at q1
        · rename_i x t ek
          simp only [keyVal, Option.some.injEq, Prod.mk.injEq, Sum.inr.injEq] at q1
          rw [ek, q1.1]
          exact ⟨keyIs_str _ t, q1.2⟩
        · simp [keyVal] at q1
    exact ⟨h1, key.1, key.2, r1, r2⟩
theorem tabAt_of {K : PySem.W.Frag} {fa : Fn → Addr} {w : World} {p : String × List (D × D)} (h : tabObs K fa p = tabVal w.params p.2) : PySem.W.nsIn K mainGlobals (Str.ofString p.1) = some (some (.ref (He.ga K (Str.ofString p.1)))) ∧ TabAt w K fa (He.ga K (Str.ofString p.1)) p.2 := by
  unfold tabObs at h
  split at h
  · rename_i c es n sl e
    split at h
    · rename_i b
      simp only [Bool.and_eq_true, decide_eq_true_eq, Bool.not_eq_true'] at b
      obtain ⟨⟨⟨⟨b1, b2⟩, b3⟩, b4⟩, b5⟩ := b
      have e2 : sl = #[] := Array.isEmpty_iff.mp b2
      subst b1 e2
      exact ⟨He.eqO_ok b4, es, n, e, b3, tabEs_of b5 (Option.some.inj h)⟩
    · cases h
  · cases h

/-! ### the text's own error classes -/
def oexB (K : PySem.W.Frag) (C : Addr) : Bool := match K.lookup C with
  | some ⟨.type c, _, .cls cd, sl⟩ => (match cd.mro, sl.toList with
    | .ref C' :: bm, [_, _, _, _, some (.builtin n), _] => decide (c = "type") && decide (C' = C) && decide (n = "ValueError.__new__") && !cd.hasDel && cd.hasDict && PySem.HandSPX.refsVE bm
    | _, _ => false)
  | _ => false
theorem oexB_ok {K : PySem.W.Frag} {C : Addr} (h : oexB K C = true) : ∃ nm q N bs bm sn sub ab col dd k0 k1 k2 k3 k5, K.lookup C = some (excClassObj nm q C N bs bm true sn sub ab col dd k0 k1 k2 k3 k5 "ValueError.__new__") ∧ PySem.HandSPX.refsVE bm = true := by
  unfold oexB at h
  split at h
  · rename_i c od cd sl e
    split at h
    · rename_i C' bm x0 x1 x2 x3 n x5 em es
      simp only [Bool.and_eq_true, decide_eq_true_eq, Bool.not_eq_true'] at h
      obtain ⟨⟨⟨⟨⟨h1, h2⟩, h3⟩, h4⟩, h5⟩, h6⟩ := h
      obtain ⟨nm, bs, mro, ns, qn, hd, sn, sub, ab, col, hdel⟩ := cd
      obtain ⟨sl⟩ := sl
      simp only at em es h4 h5
      subst h1 h2 h3 h4 h5 em es
      exact ⟨nm, qn, ns, bs, bm, sn, sub, ab, col, od, _, _, _, _, _, e, h6⟩
    · cases h
  · cases h
def wName : Str := Str.ofString "Wrong"
def nName : Str := Str.ofString "NoDocument"
def wrB (K : PySem.W.Frag) : Bool :=
  He.eqO (PySem.W.nsIn K mainGlobals wName) (some (some (.ref (He.ga K wName)))) && oexB K (He.ga K wName) && He.eqO (PySem.W.findIn K (.ref (He.ga K wName)) "__setattr__") (some (some (.builtin "object.__setattr__"))) &&
  decide (PySem.W.subIn K (.ref (He.ga K wName)) (.type "BaseException") = some true) && decide (PySem.W.typeIn K (.ref (He.ga K wName)) = some (.type "type")) && PySem.W.keepIn K (.ref (He.ga K wName)) &&
  decide (PySem.W.exmOne K (.ref (He.ga K wName)) (.ref (He.ga K wName)) = some true) && He.eqO (PySem.W.findIn K (.ref (He.ga K wName)) "__init__") (some (some (.ref (He.ma K (He.ga K wName) "__init__")))) &&
  decide (PySem.W.typeIn K (.ref (He.ma K (He.ga K wName) "__init__")) = some (.type "function")) && He.eqO (PySem.W.findIn K (.ref (He.ga K wName)) (Str.ofString "kind")) (some none) && He.eqO (PySem.W.findIn K (.ref (He.ga K wName)) (Str.ofString "position")) (some none)
def ndB (K : PySem.W.Frag) : Bool :=
  He.eqO (PySem.W.nsIn K mainGlobals nName) (some (some (.ref (He.ga K nName)))) && PySem.W.excIn K (He.ga K nName) [.type "ValueError", .type "Exception", .type "BaseException", .type "object"] "ValueError.__new__" &&
  PySem.W.keepIn K (.ref (He.ga K nName)) && decide (PySem.W.subIn K (.ref (He.ga K nName)) (.type "BaseException") = some true) && decide (PySem.W.typeIn K (.ref (He.ga K nName)) = some (.type "type")) && decide (PySem.W.exmOne K (.ref (He.ga K nName)) (.ref (He.ga K nName)) = some true)
/-- the text of Wrong.__init__ -/
def initB (body : List Stmt) (scope : Scope) : Bool := match body with
  | [.Assign [.Attribute (.Name s1 _) f1 _] (.Name v1 _) _, .Assign [.Attribute (.Name s2 _) f2 _] (.Name v2 _) _] =>
    isStr s1 "self" && isStr s2 "self" && isStr f1 "kind" && isStr f2 "position" && isStr v1 "kind" && isStr v2 "position" && decide (scope.kind = .function) && !scope.isCoroutine && !scope.isGenerator &&
    (["self", "kind", "position"].all fun x => decide (scope.names.lookup (Str.ofString x) = some .local)) && (scope.names.all fun y => !decide (y.2 = .free))
  | _ => false
abbrev initPs : List Str := [Str.ofString "self", Str.ofString "kind", Str.ofString "position"]
theorem init_nd : initPs.Nodup ∧ ((Str.ofString "self" == ("__debug__" : Str)) = false ∧ (Str.ofString "self" == ("__classdict__" : Str)) = false) ∧ ((Str.ofString "kind" == ("__debug__" : Str)) = false ∧ (Str.ofString "kind" == ("__classdict__" : Str)) = false) ∧ ((Str.ofString "position" == ("__debug__" : Str)) = false ∧ (Str.ofString "position" == ("__classdict__" : Str)) = false) := by decide +kernel
theorem init_ok {Pr : Program} {w : World} {K : PySem.W.Frag} {mg : Str → Option Value} {base : Heap} {name qual : Str} {params : Arguments} {body : List Stmt} {scope : Scope} {kws : List (Str × V)} {fI C : Addr} {fd : FuncData} (F : FunD K name qual params body scope [] kws fI fd)
    (h : initB body scope = true) (T : OexC K C) (n1 : PySem.W.findIn K (.ref C) (Str.ofString "kind") = some none) (n2 : PySem.W.findIn K (.ref C) (Str.ofString "position") = some none) : FnOk Pr w K mg base (L2.CX Pr w) 1 fI fd initPs (spW C) := by
  unfold initB at h
  split at h
  · rename_i s1 a1 f1 a2 v1 a3 a4 s2 a5 f2 a6 v2 a7 a8
    simp only [Bool.and_eq_true, Bool.not_eq_true', decide_eq_true_eq, List.all_eq_true, decide_eq_false_iff_not] at h
    obtain ⟨⟨⟨⟨⟨⟨⟨⟨⟨⟨h1, h2⟩, h3⟩, h4⟩, h5⟩, h6⟩, h7⟩, h8⟩, h9⟩, h10⟩, h11⟩ := h
    have e1 := isStr_eq h1
    have e2 := isStr_eq h2
    have e3 := isStr_eq h3
    have e4 := isStr_eq h4
    have e5 := isStr_eq h5
    have e6 := isStr_eq h6
    subst e1 e2 e3 e4 e5 e6
    have lS := h10 "self" (by simp)
    have lK := h10 "kind" (by simp)
    have lP := h10 "position" (by simp)
    obtain ⟨nd, dS, dK, dP⟩ := init_nd
    refine F.ok (N := initPs) ⟨h7, h8, h9, nd, rfl, fun x hx => .inl ?_, h11⟩ (fun vs H Q E hs => ?_) fun cdv A outer s H vs Q E hr hs => ?_
    · simp only [initPs, List.mem_cons, List.not_mem_nil, or_false] at hx
      rcases hx with rfl | rfl | rfl
      · exact lS
      · exact lK
      · exact lP
    · obtain ⟨a, k, p, rfl, _⟩ := hs
      rfl
    · obtain ⟨a, k, p, rfl, ha, hq⟩ := hs
      have pS : PE (cxOf (L2.CX Pr w) Pr w K mg base initPs qual scope fI cdv A outer s H E) (.Name (Str.ofString "self") a1) (tVar 0) := pe_var rfl (.inl lS) dS.1 dS.2
      have pS2 : PE (cxOf (L2.CX Pr w) Pr w K mg base initPs qual scope fI cdv A outer s H E) (.Name (Str.ofString "self") a5) (tVar 0) := pe_var rfl (.inl lS) dS.1 dS.2
      have pK : PE (cxOf (L2.CX Pr w) Pr w K mg base initPs qual scope fI cdv A outer s H E) (.Name (Str.ofString "kind") a3) (tVar 1) := pe_var rfl (.inl lK) dK.1 dK.2
      have pP : PE (cxOf (L2.CX Pr w) Pr w K mg base initPs qual scope fI cdv A outer s H E) (.Name (Str.ofString "position") a7) (tVar 2) := pe_var rfl (.inl lP) dP.1 dP.2
      refine ⟨_, pss_cons (ps_ost pS pK) (pss_one (ps_ost pS2 pP)), ?_⟩
      refine ⟨k, rfl, .ref a, rfl, a, C, rfl, T, n1, .inl ⟨ha, fun dx hd ne => ?_⟩⟩
      refine ⟨p, rfl, .ref a, rfl, a, C, rfl, T, n2, .inr ⟨dx, _, upd_same, ?_, by show 1 ≤ 900; omega, hq dx hd ne⟩⟩
      rw [upd_ne ne, upd_same]
  · cases h

/-! ### the head's look -/
structure Look where
  gls : List (String × D)
  tabs : List (String × List (D × D))
  fa : List He.Fa
  fn : List He.DefD
  ad : PySem.W.Frag → Fn → Addr
  w : Bool
  n : Bool
abbrev AlM : Type := He.AlD × Bool × List TabV
def obsM (l : Look) (K : PySem.W.Frag) : AlM := (He.obsD l.fa l.fn K, glFacts K (l.ad K) l.gls && (!l.w || wrB K) && (!l.n || ndB K), l.tabs.map (tabObs K (l.ad K)))
def valM (l : Look) (w : World) : AlM := (He.valD l.fn, true, l.tabs.map fun p => tabVal w.params p.2)
def obsMG (n : Nat) (l : Look) (g : Addr → Option Obj) : AlM := obsM l (He.frG g (He.asD g n))
def hookM (n : Nat) (l : Look) : PySem.W.Hook where
  α := AlM
  obs := fun s => obsMG n l s.heap.get?
  val := fun w => valM l w
  says := fun w h => ∃ K : PySem.W.Frag, K.In h ∧ obsM l K = valM l w
  of := fun _ _ e => ⟨_, He.frG_in, e⟩
  keeps := fun _ _ _ ⟨K, hK, c⟩ k => ⟨K, PySem.W.Frag.In.keeps hK k, c⟩
def obM (n : Nat) (l : Look) (s : PySem.W.SharedT) : AlM := obsMG n l (HandSHeadRun.getT s)
theorem obM_eq {n : Nat} {l : Look} (s : PySem.W.SharedT) : obM n l s = (hookM n l).obs s.abs := by
  have e : HandSHeadRun.getT s = s.abs.heap.get? := funext fun a => HandSHeadRun.getT_eq s a
  unfold obM
  rw [e]
  rfl

/-! ### a law's end, its written part found by the look -/
theorem walk_ex {r : OpenSpec} {k : Nat} {q : Program} {loose : List Str} {XP : (Str → Option Value) → Heap → Prop} {YP : World → Heap → Prop} {d : DefRec} {ps : List Str}
    (hwell : r.wellSaid = true) (hlen : r.args.length = ps.length) (hr : Room k callerA)
    (F : ∀ (w : World) (mg : Str → Option Value) (fa : Addr) (h : Heap), YP w h → h.Ns mainGlobals mg → mg d.name = some (.ref fa) →
      ∃ (K : PySem.W.Frag) (fd : FuncData) (sp : Sp), K.In h ∧ (∀ (s : Shared) (us : List Value), us.length = ps.length → BindsTo s fd ⟨us, []⟩ (ps.zip us)) ∧
        (∀ base : Heap, K.In base → base.Ns mainGlobals mg → FnOk r.prog w K mg base (L2.CX r.prog w) k fa fd ps sp) ∧
        ∀ (H : Hp) (xs : List V) (a : Codec.denoteAll r.args), OnlyF H → Codec.withinAll r.args a = true → Codec.app r.args r.asked a = true → DwAll K H xs (Codec.encAll r.args a) →
          sp xs H (fun v H' => Dw K H' v (r.ret.enc (Codec.app r.args r.f a))) fun _ _ _ => False) :
    PySem.W.WalkOS q loose XP YP r d [] (fun f vs => PySem.call f vs) := by
  intro w s₀ s₁ mg mb G Y fa o pm cd doc dV kV ho hd hcd hD hmg hg args vals as hpre hlay hrd hwl hlo
  obtain ⟨a, e1, e2⟩ := PySem.W.os_pre_some hpre
  obtain ⟨e3, hwi⟩ := Codec.encAll_of_decAll r.args args a e1
  subst e3
  obtain ⟨K, fd, sp, KX, hb, hF, hsp⟩ := F w mg fa _ Y G.T.g hmg
  have run := spec_call (R := []) (cl := classAt s₀.heap) (d0 := r.ret.enc (Codec.app r.args r.f a)) KX G.T.g G.T.b G.T.builtins G.T.nolimit hg hwl (pl_encAll _ _) (layable_weight hlay) hr hF hb (by rw [encAll_len]; exact hlen)
    (fun H xs hO hS => hsp H xs a hO hwi e2 hS) fun H e s' hcx => by
      obtain ⟨_, _, _, _, _, _, _, _, _, _, _, _, z⟩ := hcx
      exact z
  refine PySem.W.enter_call (codeAny_mono run fun r' s' hq => ?_)
  obtain ⟨u, as', rfl, h1, h2, h3, h4⟩ := hq
  exact ⟨.inl ⟨u, _, as', rfl, fun _ => rfl, h1, (OpenSpec.post_iff hwell hwi _ _).mpr rfl, fun z => Bool.noConfusion (show false = true from z)⟩, h2, h3, h4⟩

/-! ### arguments, results -/
mutual
def toDW : WData → D
  | .none => .non
  | .bool b => .bl b
  | .int i => .int i
  | .str x => .str x.cps.toList
  | .list l => .inp (toDWs l)
  | .tuple l => .tup (toDWs l)
  | _ => .non
def toDWs : List WData → List D
  | [] => []
  | d :: r => toDW d :: toDWs r
end
mutual
/-- no bytes in it -/
def plD : WData → Bool
  | .none => true
  | .bool _ => true
  | .int _ => true
  | .str _ => true
  | .list l => plDs l
  | .tuple l => plDs l
  | _ => false
def plDs : List WData → Bool
  | [] => true
  | d :: r => plD d && plDs r
end
mutual
theorem dw_vr {K : PySem.W.Frag} {L : Pl} {H : Hp} (hh : L.hid = []) : ∀ (d : WData) (v : V), Dw K H v d → plD d = true → VR K L [] H v (toDW d)
  | .none, _, r, _ => by cases r; exact .non
  | .bool b, _, r, _ => by cases r; exact .bl b
  | .int i, _, r, _ => by cases r; exact .int i
  | .str x, _, r, _ => by
    cases r
    have := VR.str (K := K) (L := L) (m := []) (H := H) x.cps.toList
    rw [sOf_eta] at this
    exact this
  | .list l, _, r, p => by
    cases r with
    | lst q rs =>
      have rs := dws_vrs hh l _ rs p
      rcases q with q | q
      · exact .inp q ⟨by simp, by rw [hh]; simp⟩ rs
      · exact .inpK q rs
  | .tuple l, _, r, p => by
    cases r with
    | tup q rs => exact .tup q (dws_vrs hh l _ rs p)
  | .bytes _, _, _, p => by simp [plD] at p
  | .float _, _, _, p => by simp [plD] at p
  | .dict _, _, _, p => by simp [plD] at p
  | .set _, _, _, p => by simp [plD] at p
  | .frozenset _, _, _, p => by simp [plD] at p
  | .obj .., _, _, p => by simp [plD] at p
  | .bytearray _, _, _, p => by simp [plD] at p
theorem dws_vrs {K : PySem.W.Frag} {L : Pl} {H : Hp} (hh : L.hid = []) : ∀ (ds : List WData) (vs : List V), DwAll K H vs ds → plDs ds = true → VRs K L [] H vs (toDWs ds)
  | [], _, r, _ => by cases r; exact .nil
  | d :: ds, _, r, p => by
    cases r with
    | cons q rs =>
      simp only [plDs, Bool.and_eq_true] at p
      exact .cons (dw_vr hh d _ q p.1) (dws_vrs hh ds _ rs p.2)
end
mutual
def ofD : D → Option WData
  | .non => some .none
  | .bl b => some (.bool b)
  | .int i => some (.int i)
  | .str s => some (.str (sOf s))
  | .tup l => (ofDs l).map .tuple
  | .lst l => (ofDs l).map .list
  | .inp l => (ofDs l).map .list
  | _ => none
def ofDs : List D → Option (List WData)
  | [] => some []
  | d :: r => (ofD d).bind fun x => (ofDs r).map (x :: ·)
end
mutual
theorem vr_dw {K : PySem.W.Frag} {L : Pl} {m : List Addr} {H : Hp} : ∀ (d : D) (v : V) (w : WData), VR K L m H v d → ofD d = some w → Dw K H v w
  | .non, _, _, r, e => by cases r; cases e; exact .non
  | .bl b, _, _, r, e => by cases r; cases e; exact .bl b
  | .int i, _, _, r, e => by cases r; cases e; exact .int i
  | .str s, _, _, r, e => by cases r; cases e; exact .str _
  | .tup l, _, _, r, e => by
    obtain ⟨ws, e1, rfl⟩ := Option.map_eq_some_iff.mp e
    obtain ⟨a, xs, rfl, q, rs⟩ := r.inv_tup
    exact .tup q (vrs_dws l _ ws rs e1)
  | .lst l, _, _, r, e => by
    obtain ⟨ws, e1, rfl⟩ := Option.map_eq_some_iff.mp e
    obtain ⟨a, xs, rfl, q, _, rs⟩ := r.inv_lst
    exact .lst (.of q) (vrs_dws l _ ws rs e1)
  | .inp l, _, _, r, e => by
    obtain ⟨ws, e1, rfl⟩ := Option.map_eq_some_iff.mp e
    cases r with
    | inp q _ rs => exact .lst (.inl q) (vrs_dws l _ ws rs e1)
    | inpK q rs => exact .lst (.inr q) (vrs_dws l _ ws rs e1)
  | .loc _, _, _, _, e => by cases e
  | .fn _, _, _, _, e => by cases e
theorem vrs_dws {K : PySem.W.Frag} {L : Pl} {m : List Addr} {H : Hp} : ∀ (ds : List D) (vs : List V) (ws : List WData), VRs K L m H vs ds → ofDs ds = some ws → DwAll K H vs ws
  | [], _, _, r, e => by cases r; cases e; exact .nil
  | d :: ds, _, _, r, e => by
    cases r with
    | cons q rs =>
      obtain ⟨x, e1, e2⟩ := Option.bind_eq_some_iff.mp e
      obtain ⟨y, e3, rfl⟩ := Option.map_eq_some_iff.mp e2
      exact .cons (vr_dw d _ x q e1) (vrs_dws ds _ y rs e3)
end
end MM
namespace MM
open PySem PySem.Spec PyProof.Rows L2
open PySem.W (WData Codec OpenSpec)

/-! ### a law over the IR -/
/-- what is written for one law: its functions' places in the top, their names, the IR -/
structure Lw where
  G : Gam
  all : List Fn
  P : Fn → Option FunDef
  nm : Fn → List String
  top : Nat → Stmt
  ix : Fn → Nat
  /-- where the class Wrong stands -/
  wi : Nat := 0
def Lw.N (W : Lw) (f : Fn) : List Str := (W.nm f).map Str.ofString
def Lw.d (W : Lw) (f : Fn) : He.DefD := ⟨(Str.ofString (W.G.gname f), none), Str.ofString (W.G.gname f), Str.ofString (W.G.gname f), defArgs (W.top (W.ix f)), defBody (W.top (W.ix f)), defScope (W.top (W.ix f)), [], []⟩
def Lw.ps (W : Lw) (f : Fn) : List Str := match W.P f with
  | some fd => (W.N f).take fd.np
  | none => []
def Lw.L (W : Lw) (K : PySem.W.Frag) : Pl := { fn := fun f => He.fAd K (W.d f).at_, cl := fun c => He.ga K (Str.ofString c) }
/-- the facts that the head tells -/
def Lw.fa (W : Lw) : List He.Fa := W.all.map (fun f => He.Fa.glo (Str.ofString (W.G.gname f))) ++ ["len", "tuple", "list", "all", "any", "max", "min", "int", "str", "ord", "dict", "range"].map fun s => He.Fa.free (Str.ofString s)
/-- Wrong.__init__ -/
def Lw.dw (W : Lw) : He.DefD := ⟨(wName, some (Str.ofString "__init__")), Str.ofString "__init__", Str.ofString "Wrong.__init__", defArgs (inClass (W.top W.wi) 0), defBody (inClass (W.top W.wi) 0), defScope (inClass (W.top W.wi) 0), [], []⟩
def Lw.fn (W : Lw) : List He.DefD := W.all.map W.d ++ if W.G.hasW then [W.dw] else []
def Lw.look (W : Lw) : Look := { gls := W.G.gls, tabs := W.G.tabs, fa := W.fa, fn := W.fn, ad := fun K => (W.L K).fn, w := W.G.hasW, n := W.G.hasN }
/-- a function of the text is a function of the IR -/
def Lw.chk (W : Lw) (f : Fn) : Bool := match W.P f with
  | some fd => decide ((W.d f).scope.kind = .function) && !(W.d f).scope.isCoroutine && !(W.d f).scope.isGenerator && decide (W.N f).Nodup && decide ((W.ps f).length = fd.np) && decide ((W.N f).length = fd.ns) &&
      ((W.ps f).all fun x => decide ((W.d f).scope.names.lookup x = some .local) || decide ((W.d f).scope.names.lookup x = some .cell)) && ((W.d f).scope.names.all fun y => !decide (y.2 = .free)) && chkS W.G (W.N f) fd.body (W.d f).scope (noDoc (W.d f).body)
  | none => false
/-- how values meet a function's parameters -/
def Lw.bnd1 (W : Lw) (f : Fn) : Prop := ∀ (kV doc pm : Value) (an : Option Addr) (cdv ct : Value) (us : List Value), us.length = (W.ps f).length →
  bindArgs (PySem.W.fnOf (W.d f).name (W.d f).qual (W.d f).params (W.d f).body (W.d f).scope .none kV doc pm an cdv ct) ⟨us, []⟩ = pure ((W.ps f).zip us)
def Lw.bnd (W : Lw) : Prop := ∀ f ∈ W.all, W.bnd1 f
def Lw.bndW (W : Lw) : Prop := ∀ (kV doc pm : Value) (an : Option Addr) (cdv ct : Value) (us : List Value), us.length = 3 →
  bindArgs (PySem.W.fnOf W.dw.name W.dw.qual W.dw.params W.dw.body W.dw.scope .none kV doc pm an cdv ct) ⟨us, []⟩ = pure (initPs.zip us)
structure Lw.Ok (W : Lw) : Prop where
  chk : ∀ f ∈ W.all, W.chk f = true
  isG : ∀ f, W.G.isG f = true → f ∈ W.all
  bnd : W.bnd
  init : W.G.hasW = true → initB W.dw.body W.dw.scope = true ∧ W.bndW
theorem says_def {fa : List He.Fa} {fn : List He.DefD} {K : PySem.W.Frag} (c : He.SaysD fa fn K) {d : He.DefD} (h : d ∈ fn) : ∃ fd, FunD K d.name d.qual d.params d.body d.scope (d.dvs K) (d.kws K) (He.fAd K d.at_) fd := by
  obtain ⟨i, hi⟩ := List.mem_iff_getElem?.mp h
  exact He.SaysD.def_ c i hi
theorem says_fact {fa : List He.Fa} {fn : List He.DefD} {K : PySem.W.Frag} (c : He.SaysD fa fn K) {f : He.Fa} (h : f ∈ fa) : f.ok K = true := by
  obtain ⟨i, hi⟩ := List.mem_iff_getElem?.mp h
  exact He.SaysD.fact c i hi
theorem biName_mem (b : BI) : biName b ∈ ["len", "tuple", "list", "all", "any", "max", "min", "int", "str", "ord", "dict", "range"] := by
  cases b <;> decide
section
variable {W : Lw} {K : PySem.W.Frag}
theorem stands (ok : W.Ok) {w : World} (c : obsM W.look K = valM W.look w) {f : Fn} (hf : f ∈ W.all) : ∃ fd fdat, W.P f = some fd ∧ Stands K W.G ((W.L K).fn f) fd fdat (W.ps f) ∧ PySem.W.keepIn K (.ref ((W.L K).fn f)) = true := by
  have c1 : He.SaysD W.fa W.fn K := congrArg (fun z : AlM => z.1) c
  obtain ⟨fdat, F⟩ := says_def c1 (List.mem_append_left _ (List.mem_map_of_mem (f := W.d) hf))
  have hc := ok.chk f hf
  unfold Lw.chk at hc
  split at hc
  · rename_i fd hP
    simp only [Bool.and_eq_true, decide_eq_true_eq, Bool.not_eq_true', List.all_eq_true, Bool.or_eq_true, decide_eq_false_iff_not] at hc
    obtain ⟨⟨⟨⟨⟨⟨⟨⟨h1, h2⟩, h3⟩, h4⟩, h5⟩, h6⟩, h7⟩, h8⟩, h9⟩ := hc
    refine ⟨fd, fdat, hP, ⟨?_, F.bindsN (ok.bnd f hf)⟩, F.kp⟩
    obtain ⟨oc, od, dV, kV, doc, pm, an, cdv, ct, osl, e1, e2, e3, e4, e5⟩ := F.ex
    refine ⟨_, _, _, _, _, _, _, _, _, _, _, _, _, _, _, W.N f, e1, e2, e3, ⟨h1, h2, h3, h4, ?_, h7, h8⟩, h5, h6, h9⟩
    have e : W.ps f = (W.N f).take fd.np := by
      unfold Lw.ps
      rw [hP]
    rw [e] at h5 ⊢
    rw [h5]
  · cases hc
theorem fct_of {Pr : Program} {w : World} {mg : Str → Option Value} {base : Heap} (ok : W.Ok) (c : obsM W.look K = valM W.look w) (X : K.In base) (G : base.Ns mainGlobals mg) (k : Nat) : Fct Pr w K mg base (W.L K) W.G (callF W.P k) (2 * k + 2) := by
  have c1 : He.SaysD W.fa W.fn K := congrArg (fun z : AlM => z.1) c
  have c2 : (glFacts K ((W.L K).fn) W.G.gls && (!W.G.hasW || wrB K) && (!W.G.hasN || ndB K)) = true := congrArg (fun z : AlM => z.2.1) c
  have c3 : W.G.tabs.map (tabObs K ((W.L K).fn)) = W.G.tabs.map fun p => tabVal w.params p.2 := congrArg (fun z : AlM => z.2.2) c
  simp only [Bool.and_eq_true, Bool.or_eq_true, Bool.not_eq_true'] at c2
  obtain ⟨⟨c2, cw⟩, cn⟩ := c2
  have fr : ∀ s ∈ ["len", "tuple", "list", "all", "any", "max", "min", "int", "str", "ord", "dict", "range"], mg (Str.ofString s) = none := fun s hs =>
    He.free_ok X G (says_fact c1 (List.mem_append_right _ (List.mem_map_of_mem (f := fun s => He.Fa.free (Str.ofString s)) hs)))
  refine all_ok (fun f hf => ?_) (fun f hf => ?_) (fun p hp => ?_) (fun b => fr _ (biName_mem b)) (fr _ (by decide)) (fun p hp => ?_) (fun hw => ?_) (fun hn => ?_) k
  · obtain ⟨fd, fdat, h1, h2, _⟩ := stands ok c (ok.isG f hf)
    exact ⟨fd, fdat, _, h1, h2⟩
  · obtain ⟨fd, fdat, h1, h2, h3⟩ := stands ok c (ok.isG f hf)
    exact ⟨He.glo_ok X G (says_fact c1 (List.mem_append_left _ (List.mem_map_of_mem (f := fun f => He.Fa.glo (Str.ofString (W.G.gname f))) (ok.isG f hf)))), h3⟩
  · unfold glFacts at c2
    rw [List.all_eq_true] at c2
    have h := c2 p hp
    split at h
    · rename_i u e
      obtain ⟨r1, r2⟩ := relD_ok p.2 u h
      exact ⟨u, toV u, PySem.W.mg_of X G e, r1, fun z m H h' _ => r2 _ m H rfl, fun t ht => relD_tup (by rw [← ht]; exact h)⟩
    · cases h
  · have e : tabObs K ((W.L K).fn) p = tabVal w.params p.2 := (List.map_inj_left.mp c3) p hp
    obtain ⟨e1, e2⟩ := tabAt_of e
    exact ⟨_, PySem.W.mg_of X G e1, e2⟩
  · rcases cw with cw | cw
    · rw [hw] at cw; cases cw
    · unfold wrB at cw
      simp only [Bool.and_eq_true, decide_eq_true_eq] at cw
      obtain ⟨⟨⟨⟨⟨⟨⟨⟨⟨⟨w1, w2⟩, w3⟩, w4⟩, w5⟩, w6⟩, w7⟩, w8⟩, w9⟩, w10⟩, w11⟩ := cw
      have T : OexC K (He.ga K wName) := ⟨oexB_ok w2, He.eqO_ok w3, w4, w5, w6⟩
      obtain ⟨i1, i2⟩ := ok.init hw
      obtain ⟨fdI, FI⟩ := says_def c1 (d := W.dw) (List.mem_append_right _ (by rw [hw]; exact List.mem_singleton.mpr rfl))
      exact ⟨PySem.W.mg_of X G (He.eqO_ok w1), T, w7, _, fdI, initPs, He.eqO_ok w8, w9, init_ok FI i1 T (He.eqO_ok w10) (He.eqO_ok w11), FI.bindsN i2⟩
  · rcases cn with cn | cn
    · rw [hn] at cn; cases cn
    · unfold ndB at cn
      simp only [Bool.and_eq_true, decide_eq_true_eq] at cn
      obtain ⟨⟨⟨⟨⟨w1, w2⟩, w3⟩, w4⟩, w5⟩, w6⟩ := cn
      exact ⟨PySem.W.mg_of X G (He.eqO_ok w1), w2, w3, w4, w5, w6⟩
end
theorem ofDs_ints : ∀ l : List Int, ofDs (l.map D.int) = some (l.map WData.int)
  | [] => rfl
  | i :: l => by
    rw [List.map_cons, ofDs, ofDs_ints l]
    rfl
/-- the law's function answers as the specification says -/
theorem law_walk {W : Lw} {r : OpenSpec} {k n : Nat} {q : Program} {loose : List Str} {XP : (Str → Option Value) → Heap → Prop} {d : DefRec} {main : Fn} (ok : W.Ok) (hm : main ∈ W.all) (hG : W.G.isG main = true)
    (hwell : r.wellSaid = true) (hname : d.name = Str.ofString (W.G.gname main)) (hlen : r.args.length = (W.ps main).length) (hr : Room (2 * k + 2) callerA)
    (law : ∀ (a : Codec.denoteAll r.args), Codec.withinAll r.args a = true → Codec.app r.args r.asked a = true → plDs (Codec.encAll r.args a) = true ∧ ∃ dd h', callF W.P k main (toDWs (Codec.encAll r.args a)) [] = some (.ok dd h') ∧ ofD dd = some (r.ret.enc (Codec.app r.args r.f a))) :
    PySem.W.WalkOS q loose XP (hookM n W.look).says r d [] (fun f vs => PySem.call f vs) := by
  refine walk_ex (k := 2 * k + 2) (ps := W.ps main) hwell hlen hr fun w mg fa h Y G hmg => ?_
  obtain ⟨K, KX, c⟩ := Y
  have F := fct_of (Pr := r.prog) (w := w) (base := h) ok c KX G k
  obtain ⟨fd, fdat, h1, h2, h3⟩ := stands ok c hm
  have e := (F.gl main hG).1
  rw [← hname] at e
  rw [e] at hmg
  cases hmg
  refine ⟨K, fdat, spF K (W.L K) (callF W.P k main), KX, ?_, ?_, fun H xs a hO hwi ha hS => ?_⟩
  · obtain ⟨name, qual, params, body, scope, dV, kV, doc, pm, cdv, ct, oc, an, od, osl, N, rfl, lk, hcd, S', e1, e2, e3⟩ := h2.ex
    have c1 : He.SaysD W.fa W.fn K := congrArg (fun z : AlM => z.1) c
    obtain ⟨fdat2, F2⟩ := says_def c1 (List.mem_append_left _ (List.mem_map_of_mem (f := W.d) hm))
    intro s us hl
    have b := FunD.bindsA F2 (ok.bnd main hm) s us hl
    obtain ⟨oc2, od2, dV2, kV2, doc2, pm2, an2, cdv2, ct2, osl2, e4, e5, _⟩ := F2.ex
    have e6 : K.lookup (He.fAd K (W.d main).at_) = some ⟨oc, od, .func _, osl⟩ := lk
    rw [e5] at e6
    cases e6
    exact b
  · intro base Xb Gb
    have F' := fct_of (Pr := r.prog) (w := w) (base := base) ok c Xb Gb k
    cases k with
    | zero => exact fn_ok0 (L := W.L K) []
    | succ k =>
      exact fn_ok h1 h2 (fct_of (Pr := r.prog) (w := w) (base := base) ok c Xb Gb k) (by omega) []
  · obtain ⟨hp, dd, h', e1, e2⟩ := law a hwi ha
    refine ⟨[], [], _, _, ⟨rfl, by simp, by simp [Lw.L], by simp⟩, dws_vrs rfl _ xs hS hp, e1, fun m' v H' x R' r' k' => ?_⟩
    exact vr_dw dd v _ r' e2
end MM
namespace MM
open PySem PySem.Spec PyProof.Rows L2
abbrev rw_s03 : PySem.W.OpenSpec := PySem.Challenge.rw_macromarkup_s03_tokens
def all_s03 : List Fn := [.need, .is_white, .is_letter, .is_figure, .is_punctuation, .is_label, .sign_of, .word_of, .points_of, .place_of, .point_at, .decoded, .white_end, .letters_end, .is_paragraph, .white_token, .comment_end_tokens, .parameter_token, .math_token, .literal_token, .content_end, .content_token, .command_token, .backslash_token, .token_at, .tokens_of, .tokens]
def gname_s03 : Fn → String
  | .need => "need"
  | .is_white => "is_white"
  | .is_letter => "is_letter"
  | .is_figure => "is_figure"
  | .is_punctuation => "is_punctuation"
  | .is_label => "is_label"
  | .sign_of => "sign_of"
  | .word_of => "word_of"
  | .points_of => "points_of"
  | .place_of => "place_of"
  | .point_at => "point_at"
  | .decoded => "decoded"
  | .white_end => "white_end"
  | .letters_end => "letters_end"
  | .is_paragraph => "is_paragraph"
  | .white_token => "white_token"
  | .comment_end_tokens => "comment_end"
  | .parameter_token => "parameter_token"
  | .math_token => "math_token"
  | .literal_token => "literal_token"
  | .content_end => "content_end"
  | .content_token => "content_token"
  | .command_token => "command_token"
  | .backslash_token => "backslash_token"
  | .token_at => "token_at"
  | .tokens_of => "tokens_of"
  | .tokens => "tokens"
  | _ => ""
def nm_s03 : Fn → List String
  | .need => ["right", "kind", "position"]
  | .is_white => ["point"]
  | .is_letter => ["point"]
  | .is_figure => ["point"]
  | .is_punctuation => ["point"]
  | .is_label => ["points", "point"]
  | .sign_of => ["point"]
  | .word_of => ["points", "point"]
  | .points_of => ["text", "sign"]
  | .place_of => ["points", "point", "begin", "at"]
  | .point_at => ["data", "at", "more", "least", "most", "off", "low", "behind", "point", "byte"]
  | .decoded => ["data", "found", "at", "told"]
  | .white_end => ["points", "at"]
  | .letters_end => ["points", "at"]
  | .is_paragraph => ["points", "begin", "end"]
  | .white_token => ["points", "at", "end", "kind"]
  | .comment_end_tokens => ["points", "at", "feed"]
  | .parameter_token => ["points", "at", "right"]
  | .math_token => ["points", "at", "end"]
  | .literal_token => ["points", "at", "end", "sign", "last"]
  | .content_end => ["points", "begin", "ending", "at"]
  | .content_token => ["points", "at", "name", "kind", "begin", "first", "close", "label", "ending", "end", "content"]
  | .command_token => ["points", "at", "end", "name", "behind"]
  | .backslash_token => ["points", "at", "point", "name", "kind", "found"]
  | .token_at => ["points", "at", "point"]
  | .tokens_of => ["points", "found", "at", "token"]
  | .tokens => ["text", "points", "found", "some", "kind", "position", "content"]
  | _ => []
def ix_s03 : Fn → Nat
  | .need => 7
  | .is_white => 21
  | .is_letter => 22
  | .is_figure => 23
  | .is_punctuation => 24
  | .is_label => 25
  | .sign_of => 26
  | .word_of => 27
  | .points_of => 28
  | .place_of => 29
  | .point_at => 30
  | .decoded => 31
  | .white_end => 55
  | .letters_end => 56
  | .is_paragraph => 57
  | .white_token => 58
  | .comment_end_tokens => 59
  | .parameter_token => 60
  | .math_token => 61
  | .literal_token => 62
  | .content_end => 63
  | .content_token => 64
  | .command_token => 65
  | .backslash_token => 66
  | .token_at => 67
  | .tokens_of => 68
  | .tokens => 72
  | _ => 0
def gls_s03 : List (String × D) := [("NOT_CLOSED", .int 1),
  ("UNKNOWN", .int 3),
  ("MISSING", .int 4),
  ("INVALID", .int 5),
  ("BAD_DEFINITION", .int 7),
  ("LINE_FEED", .int 10),
  ("SPACE", .int 32),
  ("WHITE", .tup [.int 32, .int 9, .int 10, .int 13]),
  ("BACKSLASH", .int 92),
  ("LOWER", .str (cds "abcdefghijklmnopqrstuvwxyz")),
  ("UPPER", .str (cds "ABCDEFGHIJKLMNOPQRSTUVWXYZ")),
  ("FIGURES", .str (cds "0123456789")),
  ("MARKS", .str (cds "-_.:")),
  ("MARK_POINTS", .tup [.int 45, .int 95, .int 46, .int 58]),
  ("LONGEST_LABEL", .int 40),
  ("LEADS", .tup [.tup [.int 0, .int 0, .int 127, .int 0, .int 0], .tup [.int 1, .int 194, .int 223, .int 192, .int 128], .tup [.int 2, .int 224, .int 239, .int 224, .int 2048], .tup [.int 3, .int 240, .int 244, .int 240, .int 65536]]),
  ("LAST_POINT", .int 1114111),
  ("COMMAND", .int 1),
  ("CHARACTER", .int 2),
  ("ESCAPED", .int 3),
  ("BLANK", .int 4),
  ("PARAGRAPH", .int 5),
  ("OPENING", .int 6),
  ("CLOSING", .int 7),
  ("PARAMETER", .int 8),
  ("CELL", .int 9),
  ("MATH", .int 10),
  ("LITERAL", .int 11),
  ("CODE", .int 12),
  ("FORMULA", .int 13),
  ("PERCENT", .int 37),
  ("NUMBER_SIGN", .int 35),
  ("DOLLAR", .int 36),
  ("TILDE", .int 126),
  ("FIXED_SPACE", .int 160),
  ("CLOSING_SIGN", .int 125),
  ("TWO_BACKSLASHES", .str (cds "\\\\")),
  ("CONTENTS", .tup [.tup [.str (cds "code"), .int 12], .tup [.str (cds "formula"), .int 13]]),
  ("BAD_TEXT", .int (-20)),
  ("NOT_UTF8", .int (-24))]
def tabs_s03 : List (String × List (D × D)) := [("SIMPLE", [(.int 123, .int 6), (.int 125, .int 7), (.int 38, .int 9)])]
def lw_s03 : Lw := { G := { gname := gname_s03, isG := fun f => decide (f ∈ all_s03), gls := gls_s03, tabs := tabs_s03, hasW := true, hasN := false }, all := all_s03, P := P, nm := nm_s03, top := fun i => rw_s03.prog.main.body.getD i (.Pass ⟨0, 0, 0, 0⟩), ix := ix_s03, wi := 6 }
theorem bnd_s03_need : lw_s03.bnd1 .need := fun _ _ _ _ _ _ us hl => match us, hl with | [_, _, _], _ => rfl
theorem bnd_s03_is_white : lw_s03.bnd1 .is_white := fun _ _ _ _ _ _ us hl => match us, hl with | [_], _ => rfl
theorem bnd_s03_is_letter : lw_s03.bnd1 .is_letter := fun _ _ _ _ _ _ us hl => match us, hl with | [_], _ => rfl
theorem bnd_s03_is_figure : lw_s03.bnd1 .is_figure := fun _ _ _ _ _ _ us hl => match us, hl with | [_], _ => rfl
theorem bnd_s03_is_punctuation : lw_s03.bnd1 .is_punctuation := fun _ _ _ _ _ _ us hl => match us, hl with | [_], _ => rfl
theorem bnd_s03_is_label : lw_s03.bnd1 .is_label := fun _ _ _ _ _ _ us hl => match us, hl with | [_], _ => rfl
theorem bnd_s03_sign_of : lw_s03.bnd1 .sign_of := fun _ _ _ _ _ _ us hl => match us, hl with | [_], _ => rfl
theorem bnd_s03_word_of : lw_s03.bnd1 .word_of := fun _ _ _ _ _ _ us hl => match us, hl with | [_], _ => rfl
theorem bnd_s03_points_of : lw_s03.bnd1 .points_of := fun _ _ _ _ _ _ us hl => match us, hl with | [_], _ => rfl
theorem bnd_s03_place_of : lw_s03.bnd1 .place_of := fun _ _ _ _ _ _ us hl => match us, hl with | [_, _, _], _ => rfl
theorem bnd_s03_point_at : lw_s03.bnd1 .point_at := fun _ _ _ _ _ _ us hl => match us, hl with | [_, _], _ => rfl
theorem bnd_s03_decoded : lw_s03.bnd1 .decoded := fun _ _ _ _ _ _ us hl => match us, hl with | [_], _ => rfl
theorem bnd_s03_white_end : lw_s03.bnd1 .white_end := fun _ _ _ _ _ _ us hl => match us, hl with | [_, _], _ => rfl
theorem bnd_s03_letters_end : lw_s03.bnd1 .letters_end := fun _ _ _ _ _ _ us hl => match us, hl with | [_, _], _ => rfl
theorem bnd_s03_is_paragraph : lw_s03.bnd1 .is_paragraph := fun _ _ _ _ _ _ us hl => match us, hl with | [_, _, _], _ => rfl
theorem bnd_s03_white_token : lw_s03.bnd1 .white_token := fun _ _ _ _ _ _ us hl => match us, hl with | [_, _], _ => rfl
theorem bnd_s03_comment_end_tokens : lw_s03.bnd1 .comment_end_tokens := fun _ _ _ _ _ _ us hl => match us, hl with | [_, _], _ => rfl
theorem bnd_s03_parameter_token : lw_s03.bnd1 .parameter_token := fun _ _ _ _ _ _ us hl => match us, hl with | [_, _], _ => rfl
theorem bnd_s03_math_token : lw_s03.bnd1 .math_token := fun _ _ _ _ _ _ us hl => match us, hl with | [_, _], _ => rfl
theorem bnd_s03_literal_token : lw_s03.bnd1 .literal_token := fun _ _ _ _ _ _ us hl => match us, hl with | [_, _, _], _ => rfl
theorem bnd_s03_content_end : lw_s03.bnd1 .content_end := fun _ _ _ _ _ _ us hl => match us, hl with | [_, _, _], _ => rfl
theorem bnd_s03_content_token : lw_s03.bnd1 .content_token := fun _ _ _ _ _ _ us hl => match us, hl with | [_, _, _, _], _ => rfl
theorem bnd_s03_command_token : lw_s03.bnd1 .command_token := fun _ _ _ _ _ _ us hl => match us, hl with | [_, _], _ => rfl
theorem bnd_s03_backslash_token : lw_s03.bnd1 .backslash_token := fun _ _ _ _ _ _ us hl => match us, hl with | [_, _], _ => rfl
theorem bnd_s03_token_at : lw_s03.bnd1 .token_at := fun _ _ _ _ _ _ us hl => match us, hl with | [_, _], _ => rfl
theorem bnd_s03_tokens_of : lw_s03.bnd1 .tokens_of := fun _ _ _ _ _ _ us hl => match us, hl with | [_], _ => rfl
theorem bnd_s03_tokens : lw_s03.bnd1 .tokens := fun _ _ _ _ _ _ us hl => match us, hl with | [_], _ => rfl
theorem ok_s03 : lw_s03.Ok where
  chk := List.all_eq_true.mp (by decide +kernel)
  isG := fun f h => of_decide_eq_true h
  bnd := List.forall_mem_cons.mpr ⟨bnd_s03_need, List.forall_mem_cons.mpr ⟨bnd_s03_is_white, List.forall_mem_cons.mpr ⟨bnd_s03_is_letter, List.forall_mem_cons.mpr ⟨bnd_s03_is_figure, List.forall_mem_cons.mpr ⟨bnd_s03_is_punctuation, List.forall_mem_cons.mpr ⟨bnd_s03_is_label, List.forall_mem_cons.mpr ⟨bnd_s03_sign_of, List.forall_mem_cons.mpr ⟨bnd_s03_word_of, List.forall_mem_cons.mpr ⟨bnd_s03_points_of, List.forall_mem_cons.mpr ⟨bnd_s03_place_of, List.forall_mem_cons.mpr ⟨bnd_s03_point_at, List.forall_mem_cons.mpr ⟨bnd_s03_decoded, List.forall_mem_cons.mpr ⟨bnd_s03_white_end, List.forall_mem_cons.mpr ⟨bnd_s03_letters_end, List.forall_mem_cons.mpr ⟨bnd_s03_is_paragraph, List.forall_mem_cons.mpr ⟨bnd_s03_white_token, List.forall_mem_cons.mpr ⟨bnd_s03_comment_end_tokens, List.forall_mem_cons.mpr ⟨bnd_s03_parameter_token, List.forall_mem_cons.mpr ⟨bnd_s03_math_token, List.forall_mem_cons.mpr ⟨bnd_s03_literal_token, List.forall_mem_cons.mpr ⟨bnd_s03_content_end, List.forall_mem_cons.mpr ⟨bnd_s03_content_token, List.forall_mem_cons.mpr ⟨bnd_s03_command_token, List.forall_mem_cons.mpr ⟨bnd_s03_backslash_token, List.forall_mem_cons.mpr ⟨bnd_s03_token_at, List.forall_mem_cons.mpr ⟨bnd_s03_tokens_of, List.forall_mem_cons.mpr ⟨bnd_s03_tokens, fun _ h => nomatch h⟩⟩⟩⟩⟩⟩⟩⟩⟩⟩⟩⟩⟩⟩⟩⟩⟩⟩⟩⟩⟩⟩⟩⟩⟩⟩⟩
  init := fun _ => ⟨by decide +kernel, fun _ _ _ _ _ _ us hl => match us, hl with | [_, _, _], _ => rfl⟩
def loose_s03 : List PySem.Str := ["NOT_CLOSED", "UNKNOWN", "MISSING", "INVALID", "BAD_DEFINITION", "Wrong", "need", "LINE_FEED", "SPACE", "WHITE", "BACKSLASH", "LOWER", "UPPER", "FIGURES", "MARKS", "MARK_POINTS", "LONGEST_LABEL", "LEADS", "LAST_POINT", "is_white", "is_letter", "is_figure", "is_punctuation", "is_label", "sign_of", "word_of", "points_of", "place_of", "point_at", "decoded", "COMMAND", "CHARACTER", "ESCAPED", "BLANK", "PARAGRAPH", "OPENING", "CLOSING", "PARAMETER", "CELL", "MATH", "LITERAL", "CODE", "FORMULA", "PERCENT", "NUMBER_SIGN", "DOLLAR", "TILDE", "FIXED_SPACE", "CLOSING_SIGN", "SIMPLE", "TWO_BACKSLASHES", "CONTENTS", "white_end", "letters_end", "is_paragraph", "white_token", "comment_end", "parameter_token", "math_token", "literal_token", "content_end", "content_token", "command_token", "backslash_token", "token_at", "tokens_of", "BAD_TEXT", "NOT_UTF8"].map PySem.Str.ofString
def main_s03 : Nat := 72
end MM
namespace MM
open PySem PySem.Spec PySem.W PyProof.Rows L2
theorem runF_s03 (w : World) : HandSHeadRun.RunEqS rw_s03 (PySem.W.view rw_s03.prog [main_s03]) (hookM 5 lw_s03.look) (obM 5 lw_s03.look) 4000 loose_s03 (w.withFollow "special-get-raises" false) := by
  intro os
  kernel_rfl
theorem runT_s03 (w : World) : HandSHeadRun.RunEqS rw_s03 (PySem.W.view rw_s03.prog [main_s03]) (hookM 5 lw_s03.look) (obM 5 lw_s03.look) 4000 loose_s03 (w.withFollow "special-get-raises" true) := by
  intro os
  kernel_rfl
theorem run_s03 (w : World) : HandSHeadRun.RunEqS rw_s03 (PySem.W.view rw_s03.prog [main_s03]) (hookM 5 lw_s03.look) (obM 5 lw_s03.look) 4000 loose_s03 w :=
  PySem.W.byRow2 "special-get-raises" (P := fun w => HandSHeadRun.RunEqS rw_s03 (PySem.W.view rw_s03.prog [main_s03]) (hookM 5 lw_s03.look) (obM 5 lw_s03.look) 4000 loose_s03 w) runF_s03 runT_s03 w
theorem in_s03 {l : List Int} (h : ((Codec.inLen 0 600 l && l.all (Codec.inInt 0 255)) && true) = true) : ∃ ns : List Nat, l = ns.map Int.ofNat ∧ ns.length ≤ 600 ∧ ∀ n ∈ ns, n < 256 := by
  rw [Bool.and_true, Bool.and_eq_true, List.all_eq_true] at h
  refine ⟨l.map Int.toNat, ?_, ?_, ?_⟩
  · rw [List.map_map]
    conv => lhs; rw [← List.map_id l]
    refine List.map_congr_left fun a ha => ?_
    have := (Codec.inInt_iff.mp (h.2 a ha)).1
    exact (Int.toNat_of_nonneg this).symm
  · rw [List.length_map]
    exact (Codec.inNat_iff.mp h.1).2
  · intro n hn
    obtain ⟨a, ha, rfl⟩ := List.mem_map.mp hn
    have := Codec.inInt_iff.mp (h.2 a ha)
    omega
theorem toDWs_s03 (ns : List Nat) : toDWs (ns.map (WData.int ∘ Int.ofNat)) = dns ns := by
  induction ns with
  | nil => rfl
  | cons n ns ih =>
    rw [List.map_cons, toDWs, ih]
    rfl
theorem pl_s03 (ns : List Nat) : plDs (ns.map (WData.int ∘ Int.ofNat)) = true := by
  induction ns with
  | nil => rfl
  | cons n ns ih =>
    rw [List.map_cons, plDs, ih]
    rfl
end MM
open PySem PySem.W PySem.Calls PyProof.Rows
theorem PySem.Challenge.cw_macromarkup_s03_tokens_holds : PySem.Challenge.rw_macromarkup_s03_tokens.Holds := by
  refine HandSHeadRun.head_spec (r := PySem.Challenge.rw_macromarkup_s03_tokens) (q := view PySem.Challenge.rw_macromarkup_s03_tokens.prog [MM.main_s03]) (H := MM.hookM 5 MM.lw_s03.look) (ob := MM.obM 5 MM.lw_s03.look) (M := 4000) (loose := MM.loose_s03) (d := HandSHeadRun.topDef PySem.Challenge.rw_macromarkup_s03_tokens.prog MM.main_s03) (kwd := []) MM.obM_eq
    (by kernel_rfl) (fun s => by kernel_rfl) MM.run_s03 (by kernel_rfl) (by kernel_rfl) (by kernel_rfl) os_shapes (by decide +kernel) (by decide +kernel) ⟨rfl, rfl, rfl, rfl, rfl, by decide +kernel⟩ ?hw ?hc
  case hw => exact ⟨[.list []], by decide +kernel, by decide +kernel⟩
  case hc =>
    refine MM.law_walk (W := MM.lw_s03) (k := MM.fuel_s03) (main := .tokens) MM.ok_s03 (by decide) (by decide) (by decide +kernel) (by kernel_rfl) (by rfl) ⟨rfl, by decide, by decide⟩ ?_
    intro a hwi _
    obtain ⟨l, u⟩ := a
    obtain ⟨ns, rfl, hl, hb⟩ := MM.in_s03 (show ((Codec.inLen 0 600 l && l.all (Codec.inInt 0 255)) && true) = true from hwi)
    obtain ⟨r, e1, e2⟩ := MM.law_s03 ns hl hb
    have ee : Codec.encAll [.list 0 600 (.int 0 255)] ((ns.map Int.ofNat, ()) : List Int × Unit) = [WData.list (ns.map (WData.int ∘ Int.ofNat))] := by
      show [WData.list ((ns.map Int.ofNat).map WData.int)] = _
      rw [List.map_map]
    refine ⟨?_, .lst (r.map MM.D.int), [], ?_, ?_⟩
    · show MM.plDs (Codec.encAll [.list 0 600 (.int 0 255)] ((ns.map Int.ofNat, ()) : List Int × Unit)) = true
      rw [ee]
      show (MM.plDs (ns.map (WData.int ∘ Int.ofNat)) && true) = true
      rw [MM.pl_s03]
      rfl
    · show MM.callF MM.P MM.fuel_s03 .tokens (MM.toDWs (Codec.encAll [.list 0 600 (.int 0 255)] ((ns.map Int.ofNat, ()) : List Int × Unit))) [] = _
      rw [ee]
      show MM.callF MM.P MM.fuel_s03 .tokens [MM.D.inp (MM.toDWs (ns.map (WData.int ∘ Int.ofNat)))] [] = _
      rw [MM.toDWs_s03]
      exact e2
    · show (MM.ofDs (r.map MM.D.int)).map WData.list = some (WData.list ((Kh452Neutral.f [[3], ns.map Int.ofNat]).map WData.int))
      rw [e1, MM.ofDs_ints]
      rfl

