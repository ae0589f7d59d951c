import PyProof.Rows.All
import Wide.All
import OpenK.AllK
import Wide.FinOn
import HandS.ForExc
import HandS.ForMost
import HandS.IsInst
import HandS.Wide
import HandS.Walk
import HandS.Zip
import HandS.Style
import HandS.CallSlots
import KE.SortData
import KE.DataEq
import KE.DataCmp
import KE.DataAny
import HandS.Flow
import HandS.TryOnly
import HandS.WordsExc
import HandS.Defaults
import HandS.HeadEnd
import HandS.HeadHook1
import HandS.HeadHook2
import KE.KStateDown
import HandS.Head0
import HandS.Head1
import HandS.Head2
import PySem.Challenge.RW_wholesides_k81_whole_leg_rows
set_option Elab.async false
set_option linter.all false
set_option maxRecDepth 100000
namespace Z
open PySem PySem.Spec PyProof.Rows L2

/-! ## what the walk computes with: pure data, cells, functions -/
inductive W where
  | d (x : PyData) | p (c : Nat) | fn (k : Nat) | fl (t : Bool) (ks : List Nat) | fz (xs : List PyData)
inductive Cell where
  | dead | lst (ds : List PyData)
abbrev Store := List Cell
abbrev Env' := List (Option W)
abbrev Post := W → Store → Prop
abbrev XP := Nat → Store → Prop
abbrev XPS := Nat → Env' → Store → Prop
abbrev Spec := List W → Store → Post → XP → Prop

inductive Ty where | int | bool | str | tuple | list
inductive Bt where | len | abs | min | max | sum | all | any | sorted | tuple | list | int
  deriving DecidableEq
inductive Tg where | name (i : Nat) | tup (is : List Nat)

mutual
inductive Ex where
  | var (i : Nat)
  | con (d : PyData)
  | glob (x : Str) (d : PyData)
  | fnv (k : Nat)
  | bin (o : Operator) (a b : Ex)
  | neg (a : Ex)
  | not (a : Ex)
  | cmp (a : Ex) (c : Ch)
  | and (a b : Ex)
  | or (a b : Ex)
  | ite (c a b : Ex)
  | tup (es : Exs)
  | lst (es : Exs)
  | idx (a i : Ex)
  | slc (a : Ex) (lo hi : Exo)
  | rev (a : Ex)
  | call (k : Nat) (es : Exs)
  | blt (b : Bt) (es : Exs)
  | isi (a : Ex) (t : Ty)
  | comp (own : List (Str × Nat)) (g : Tg) (it : It) (c : Exo) (e : Ex)
  | new (e : Ex)
  | pop (a : Ex)
  | bad
inductive Exs where
  | nil | cons (e : Ex) (es : Exs)
inductive Ch where
  | last (o : CmpOp) (b : Ex) | link (o : CmpOp) (b : Ex) (c : Ch)
inductive It where
  | e (x : Ex) | rng1 (a : Ex) | rng2 (a b : Ex) | zip (a b : Ex) | enum (a : Ex)
inductive Exo where
  | none | some (e : Ex)
end

mutual
inductive Sm where
  | set (i : Nat) (e : Ex)
  | par (is : List Nat) (es : Exs)
  | unp (is : List Nat) (e : Ex)
  | put (o i v : Ex)
  | app (o v : Ex)
  | ret (e : Ex)
  | ex (e : Ex)
  | ite (c : Ex) (a b : Sms)
  | whl (c : Ex) (b : Sms)
  | for_ (g : Tg) (it : It) (b : Sms)
  | pass | brk | cont
  | raise (k : Nat)
  | frz (i : Nat)
inductive Sms where
  | nil | cons (s : Sm) (r : Sms)
end

/-! ## values -/
def wIf (b : Bool) (A B : Prop) : Prop := (b = true → A) ∧ (b = false → B)
theorem wIf_t {A B : Prop} : wIf true A B ↔ A := ⟨fun h => h.1 rfl, fun h => ⟨fun _ => h, fun e => (nomatch e)⟩⟩
theorem wIf_f {A B : Prop} : wIf false A B ↔ B := ⟨fun h => h.2 rfl, fun h => ⟨fun e => (nomatch e), fun _ => h⟩⟩
theorem wIf_dec {c : Prop} [Decidable c] {A B : Prop} : wIf (decide c) A B ↔ (c → A) ∧ (¬ c → B) := by
  unfold wIf; simp

def Small (i : Int) : Prop := i.natAbs.log2 < 8000
def MulOk (i j : Int) : Prop := CMul i j ∨ (Small i ∧ Small j)
def DivOk (j : Int) : Prop := 0 < j ∧ (j < 1073741824 ∨ Small j)

def asL (s : Store) : W → Option (List PyData)
  | .d (.list xs) => some xs
  | .p c => match s[c]? with | some (.lst ds) => some ds | _ => none
  | _ => none
def asD (s : Store) : W → Option PyData
  | .d x => some x
  | .p c => match s[c]? with | some (.lst ds) => some (.list ds) | _ => none
  | _ => none
/-- a list or a tuple -/
def asQ (s : Store) : W → Option (List PyData)
  | .d (.tuple xs) => some xs
  | w => asL s w
def onL (s : Store) (w : W) (f : List PyData → Prop) : Prop := match asL s w with | some xs => f xs | none => False
def onD (s : Store) (w : W) (f : PyData → Prop) : Prop := match asD s w with | some x => f x | none => False
def onQ (s : Store) (w : W) (f : List PyData → Prop) : Prop := match asQ s w with | some x => f x | none => False
def onI (w : W) (f : Int → Prop) : Prop := match w with | .d (.int i) => f i | _ => False
def onB (w : W) (f : Bool → Prop) : Prop := match w with | .d (.bool b) => f b | _ => False
def onDL (w : W) (f : List PyData → Prop) : Prop := match w with | .d (.list ds) => f ds | _ => False
def onC (s : Store) (w : W) (f : Nat → List PyData → Prop) : Prop := match w with
  | .p c => (match s[c]? with | some (.lst ds) => f c ds | _ => False)
  | _ => False
def onV (w : W) (f : PyData → Prop) : Prop := match w with | .d x => f x | _ => False
def onS {α : Type} (o : Option α) (f : α → Prop) : Prop := match o with | some x => f x | none => False
def on2I (a b : W) (f : Int → Int → Prop) : Prop := onI a fun i => onI b fun j => f i j

def bAdd (a b : W) (s : Store) (Q : W → Prop) : Prop :=
  match a with
  | .d (.int i) => onI b fun j => Q (.d (.int (i + j)))
  | .d (.tuple xs) => (match b with
    | .d (.tuple ys) => xs.length + ys.length ≤ sizeLine ∧ Q (.d (.tuple (xs ++ ys)))
    | _ => False)
  | .d (.str x) => (match b with
    | .d (.str y) => x.length + y.length ≤ sizeLine ∧ Q (.d (.str (x ++ y)))
    | _ => False)
  | .fl t ks => (match b with | .fl t' ks' => t = false ∧ t' = false ∧ ks.length + ks'.length ≤ sizeLine ∧ Q (.fl false (ks ++ ks')) | _ => False)
  | _ => onL s a fun xs => onL s b fun ys => xs.length + ys.length ≤ sizeLine ∧ Q (.d (.list (xs ++ ys)))
def bMul (a b : W) (s : Store) (Q : W → Prop) : Prop :=
  match a with
  | .d (.int i) => onI b fun j => MulOk i j ∧ Q (.d (.int (i * j)))
  | _ => onL s a fun xs => onI b fun k => -(2 ^ 63) ≤ k ∧ k < 2 ^ 63 ∧ xs.length * k.toNat ≤ sizeLine ∧ Q (.d (.list (List.replicate k.toNat xs).flatten))
def bop (o : Operator) (a b : W) (s : Store) (Q : W → Prop) : Prop :=
  match o with
  | .Add => bAdd a b s Q
  | .Sub => on2I a b fun i j => Q (.d (.int (i - j)))
  | .Mult => bMul a b s Q
  | .FloorDiv => on2I a b fun i j => DivOk j ∧ Q (.d (.int (i / j)))
  | .Mod => on2I a b fun i j => 0 < j ∧ Q (.d (.int (i % j)))
  | .Pow => on2I a b fun i j => CPow i j ∧ Q (.d (.int (i ^ j.toNat)))
  | _ => False

def eqOk (x y : PyData) : Prop := x.plain = true ∧ y.plain = true ∧ min x.depth y.depth ≤ 60
def ltOk (x y : PyData) : Prop := PySem.W.alike x y = true ∧ x ≠ .none ∧ min x.depth y.depth ≤ 60
def cEq (a b : W) (s : Store) (Q : Bool → Prop) : Prop :=
  match a, b with
  | .d (.int i), .d (.int j) => Q (decide (i = j))
  | .d (.bool i), .d (.bool j) => Q (i == j)
  | a, b => onD s a fun x => onD s b fun y => eqOk x y ∧ Q (PyData.eqv x y)
def cLt (a b : W) (s : Store) (Q : Bool → Prop) : Prop :=
  match a, b with
  | .d (.int i), .d (.int j) => Q (decide (i < j))
  | a, b => onD s a fun x => onD s b fun y => ltOk x y ∧ Q (PySem.W.dataLt x y)
def cLe (a b : W) (s : Store) (Q : Bool → Prop) : Prop :=
  match a, b with
  | .d (.int i), .d (.int j) => Q (decide (i ≤ j))
  | a, b => onD s a fun x => onD s b fun y => ltOk x y ∧ Q (!PySem.W.dataLt y x)
def cGt (a b : W) (s : Store) (Q : Bool → Prop) : Prop :=
  match a, b with
  | .d (.int i), .d (.int j) => Q (decide (j < i))
  | a, b => onD s a fun x => onD s b fun y => ltOk x y ∧ Q (PySem.W.dataLt y x)
def cGe (a b : W) (s : Store) (Q : Bool → Prop) : Prop :=
  match a, b with
  | .d (.int i), .d (.int j) => Q (decide (j ≤ i))
  | a, b => onD s a fun x => onD s b fun y => ltOk x y ∧ Q (!PySem.W.dataLt x y)
def inOk (x : PyData) (xs : List PyData) : Prop := PyData.plainAll xs = true ∧ x.plain = true ∧ min (PyData.depthAll xs) x.depth ≤ 60
def cIn (a b : W) (s : Store) (Q : Bool → Prop) : Prop := onD s a fun x => onQ s b fun xs => inOk x xs ∧ Q (xs.any fun y => PyData.eqv y x)
def isN : W → Bool | .d .none => true | _ => false
def cIs (a b : W) (Q : Bool → Prop) : Prop :=
  match b with
  | .d .none => Q (isN a)
  | .d (.bool j) => onB a fun i => Q (i == j)
  | _ => False
def cop (o : CmpOp) (a b : W) (s : Store) (Q : Bool → Prop) : Prop :=
  match o with
  | .Eq => cEq a b s Q
  | .NotEq => cEq a b s fun t => Q (!t)
  | .Lt => cLt a b s Q
  | .LtE => cLe a b s Q
  | .Gt => cGt a b s Q
  | .GtE => cGe a b s Q
  | .Is => cIs a b Q
  | .IsNot => cIs a b fun t => Q (!t)
  | .In => cIn a b s Q
  | .NotIn => cIn a b s fun t => Q (!t)

def wTr (w : W) (s : Store) (Q : Bool → Prop) : Prop :=
  match w with
  | .d .none => Q false
  | .d (.bool b) => Q b
  | .d (.int i) => Q (i != 0)
  | .d (.str x) => x.length ≤ sizeLine ∧ Q ((x.length : Int) != 0)
  | .d (.tuple xs) => Q (!xs.isEmpty)
  | w => onL s w fun xs => Q (!xs.isEmpty)

def intsOf : List PyData → Option (List Int)
  | [] => some []
  | .int i :: r => (intsOf r).map (i :: ·)
  | _ :: _ => none
def boolsOf : List PyData → Option (List Bool)
  | [] => some []
  | .bool i :: r => (boolsOf r).map (i :: ·)
  | _ :: _ => none
def onIs (xs : List PyData) (f : List Int → Prop) : Prop := match intsOf xs with | some ns => f ns | none => False
def onBs (xs : List PyData) (f : List Bool → Prop) : Prop := match boolsOf xs with | some ns => f ns | none => False
def lenQ (w : W) (s : Store) (Q : W → Prop) : Prop :=
  match w with
  | .d (.str x) => x.length ≤ sizeLine ∧ Q (.d (.int x.length))
  | .fl _ ks => Q (.d (.int ks.length))
  | .fz ks => Q (.d (.int ks.length))
  | w => onQ s w fun xs => Q (.d (.int xs.length))
def sortOk (xs : List PyData) : Prop := PySem.W.AllAlike xs ∧ PySem.W.Sortable xs ∧ xs.length ≤ sizeLine ∧ ∀ x, x ∈ xs → x.depth ≤ 60
def srt (xs : List PyData) : List PyData := xs.mergeSort (PySem.W.dataLe false id)
def mnOf (m : Int) (xs : List Int) : Int := xs.foldl (fun a b => if b < a then b else a) m
def mxOf (m : Int) (xs : List Int) : Int := xs.foldl (fun a b => if b > a then b else a) m
def bLen (ws : List W) (s : Store) (Q : W → Prop) : Prop := match ws with | [w] => lenQ w s Q | _ => False
def bAbs (ws : List W) (Q : W → Prop) : Prop := match ws with | [w] => onI w fun i => Q (.d (.int (if i < 0 then -i else i))) | _ => False
def nonE (ns : List Int) (f : Int → List Int → Prop) : Prop := match ns with | [] => False | n :: r => f n r
def bMin (ws : List W) (s : Store) (Q : W → Prop) : Prop := match ws with
    | [a, b] => on2I a b fun i j => Q (.d (.int (if j < i then j else i)))
    | [a] => onL s a fun xs => onIs xs fun ns => nonE ns fun n r => Q (.d (.int (mnOf n r)))
    | _ => False
def bMax (ws : List W) (s : Store) (Q : W → Prop) : Prop := match ws with
    | [a, b] => on2I a b fun i j => Q (.d (.int (if j > i then j else i)))
    | [a] => onL s a fun xs => onIs xs fun ns => nonE ns fun n r => Q (.d (.int (mxOf n r)))
    | _ => False
def bSum (ws : List W) (s : Store) (Q : W → Prop) : Prop := match ws with | [a] => onL s a fun xs => onIs xs fun ns => Q (.d (.int ns.sum)) | _ => False
def bAll (ws : List W) (s : Store) (Q : W → Prop) : Prop := match ws with | [a] => onL s a fun xs => onBs xs fun ns => Q (.d (.bool (ns.all id))) | _ => False
def bAny (ws : List W) (s : Store) (Q : W → Prop) : Prop := match ws with | [a] => onL s a fun xs => onBs xs fun ns => Q (.d (.bool (ns.any id))) | _ => False
def bSorted (ws : List W) (s : Store) (Q : W → Prop) : Prop := match ws with | [a] => onL s a fun xs => sortOk xs ∧ Q (.d (.list (srt xs))) | _ => False
def bTuple (ws : List W) (s : Store) (Q : W → Prop) : Prop := match ws with | [a] => onQ s a fun xs => Q (.d (.tuple xs)) | _ => False
def bList (ws : List W) (s : Store) (Q : W → Prop) : Prop := match ws with | [.fz xs] => Q (.d (.list xs)) | [a] => onQ s a fun xs => Q (.d (.list xs)) | _ => False
def bInt (ws : List W) (Q : W → Prop) : Prop := match ws with
    | [.d (.int i)] => Q (.d (.int i))
    | [.d (.bool b)] => Q (.d (.int (if b = true then 1 else 0)))
    | _ => False
def blt (b : Bt) (ws : List W) (s : Store) (Q : W → Prop) : Prop :=
  match b with
  | .len => bLen ws s Q
  | .abs => bAbs ws Q
  | .min => bMin ws s Q
  | .max => bMax ws s Q
  | .sum => bSum ws s Q
  | .all => bAll ws s Q
  | .any => bAny ws s Q
  | .sorted => bSorted ws s Q
  | .tuple => bTuple ws s Q
  | .list => bList ws s Q
  | .int => bInt ws Q

inductive Kd where | non | bool | int | str | list | tuple | dict
def kd : PyData → Kd
  | .none => .non | .bool _ => .bool | .int _ => .int | .str _ => .str | .list _ => .list | .tuple _ => .tuple | .dict _ => .dict
def isTyS : Ty → Kd → Bool
  | .int, .int => true | .int, .bool => true | .bool, .bool => true | .str, .str => true | .tuple, .tuple => true | .list, .list => true
  | _, _ => false
def isTy (t : Ty) (x : PyData) : Bool := isTyS t (kd x)

def cutD (xs : List PyData) (lo hi : Option Int) : List PyData := (xs.drop (HT.sIx xs.length 0 lo)).take (HT.sIx xs.length xs.length hi - HT.sIx xs.length 0 lo)
def slcW (w : W) (lo hi : Option Int) (s : Store) (Q : W → Prop) : Prop :=
  match w with
  | .d (.tuple xs) => Q (.d (.tuple (cutD xs lo hi)))
  | w => onL s w fun xs => Q (.d (.list (cutD xs lo hi)))
def revW (w : W) (s : Store) (Q : W → Prop) : Prop :=
  match w with
  | .d (.tuple xs) => Q (.d (.tuple xs.reverse))
  | w => onL s w fun xs => Q (.d (.list xs.reverse))
def idxW (w i : W) (s : Store) (Q : W → Prop) : Prop :=
  match w with
  | .fl _ ks => onI i fun i => (match atI ks i with | some k => Q (.fn k) | none => False)
  | w => onI i fun i => onQ s w fun xs => (match atI xs i with | some v => Q (.d v) | none => False)

/-- all of these are data; or all are functions -/
def dats : List W → Option (List PyData)
  | [] => some []
  | .d x :: r => (dats r).map (x :: ·)
  | _ :: _ => none
def fns : List W → Option (List Nat)
  | [] => some []
  | .fn k :: r => (fns r).map (k :: ·)
  | _ :: _ => none
def mkT (ws : List W) (Q : W → Prop) : Prop := match dats ws with
  | some ds => ws.length ≤ sizeLine ∧ Q (.d (.tuple ds))
  | none => (match fns ws with | some ks => ws.length ≤ sizeLine ∧ Q (.fl true ks) | none => False)
def mkL (ws : List W) (Q : W → Prop) : Prop := match dats ws with
  | some ds => ws.length ≤ sizeLine ∧ Q (.d (.list ds))
  | none => (match fns ws with | some ks => ws.length ≤ sizeLine ∧ Q (.fl false ks) | none => False)

/-! ## targets -/
def setAll (is : List Nat) (xs : List PyData) (Γ : Env') : Env' := match is, xs with
  | i :: is, x :: xs => setAll is xs (Γ.set i (some (.d x)))
  | _, _ => Γ
def wTg (g : Tg) (w : W) (Γ : Env') (s : Store) (Q : Env' → Prop) : Prop := match g with
  | .name i => Q (Γ.set i (some w))
  | .tup is => onQ s w fun xs => xs.length = is.length ∧ Q (setAll is xs Γ)
def setW (is : List Nat) (xs : List W) (Γ : Env') : Env' := match is, xs with
  | i :: is, x :: xs => setW is xs (Γ.set i (some x))
  | _, _ => Γ
def wipeG (Γ : Env') : List Nat → Env'
  | [] => Γ
  | v :: vs => (wipeG Γ vs).set v none

/-- what is walked -/
def itemsE (w : W) (s : Store) (Q : List W → Prop) : Prop := match w with
  | .d (.list xs) => Q (xs.map .d)
  | .d (.tuple xs) => Q (xs.map .d)
  | .fl _ ks => Q (ks.map .fn)
  | _ => False
def rngD (lo hi : Int) : List W := (List.range (hi - lo).toNat).map fun (k : Nat) => W.d (.int (lo + (k : Int)))
def zipD (xs ys : List PyData) : List W := List.zipWith (fun x y => W.d (.tuple [x, y])) xs ys
def enumD (k : Nat) : List PyData → List W
  | [] => []
  | x :: xs => .d (.tuple [.int k, x]) :: enumD (k + 1) xs
def zipW (a b : W) (Q : List W → Prop) : Prop := match a, b with
  | .d (.list xs), .d (.list ys) => Q (zipD xs ys)
  | .d (.tuple xs), .d (.tuple ys) => Q (zipD xs ys)
  | _, _ => False

/-- a comprehension's turns -/
def wLoop (B : W → Store → (Option PyData → Store → Prop) → Prop) (Q : List PyData → Store → Prop) : List W → List PyData → Store → Prop
  | [], acc, s => Q acc s
  | x :: xs, acc, s => B x s fun o s' => match o with
    | some d => acc.length < sizeLine ∧ wLoop B Q xs (acc ++ [d]) s'
    | none => wLoop B Q xs acc s'
/-- a for's turns -/
def wFor (B : W → Env' → Store → (Env' → Store → Prop) → Prop) (N : Env' → Store → Prop) : List W → Env' → Store → Prop
  | [], Γ, s => N Γ s
  | x :: xs, Γ, s => B x Γ s fun Γ' s' => wFor B N xs Γ' s'

section
variable (S : Nat → Spec)
mutual
def wE : Ex → Env' → Store → Post → XP → Prop
  | .var i, Γ, s, Q, _ => (match Γ[i]? with | some (some w) => Q w s | _ => False)
  | .con d, _, s, Q, _ => Q (.d d) s
  | .glob _ d, _, s, Q, _ => Q (.d d) s
  | .fnv k, _, s, Q, _ => Q (.fn k) s
  | .bin o a b, Γ, s, Q, R => wE a Γ s (fun x s1 => wE b Γ s1 (fun y s2 => bop o x y s2 fun w => Q w s2) R) R
  | .neg a, Γ, s, Q, R => wE a Γ s (fun x s1 => onI x fun i => Q (.d (.int (-i))) s1) R
  | .not a, Γ, s, Q, R => wE a Γ s (fun x s1 => wTr x s1 fun b => Q (.d (.bool (!b))) s1) R
  | .cmp a c, Γ, s, Q, R => wE a Γ s (fun x s1 => wCh c x Γ s1 (fun b s2 => Q (.d (.bool b)) s2) R) R
  | .and a b, Γ, s, Q, R => wE a Γ s (fun x s1 => onB x fun t => wIf t (wE b Γ s1 Q R) (Q (.d (.bool false)) s1)) R
  | .or a b, Γ, s, Q, R => wE a Γ s (fun x s1 => onB x fun t => wIf t (Q (.d (.bool true)) s1) (wE b Γ s1 Q R)) R
  | .ite c a b, Γ, s, Q, R => wE c Γ s (fun x s1 => wTr x s1 fun t => wIf t (wE a Γ s1 Q R) (wE b Γ s1 Q R)) R
  | .tup es, Γ, s, Q, R => wAs es Γ s (fun ws s1 => mkT ws fun w => Q w s1) R
  | .lst es, Γ, s, Q, R => wAs es Γ s (fun ws s1 => mkL ws fun w => Q w s1) R
  | .idx a i, Γ, s, Q, R => wE a Γ s (fun x s1 => wE i Γ s1 (fun y s2 => idxW x y s2 fun w => Q w s2) R) R
  | .slc a lo hi, Γ, s, Q, R => wE a Γ s (fun x s1 => wO lo Γ s1 (fun l s2 => wO hi Γ s2 (fun h s3 => slcW x l h s3 fun w => Q w s3) R) R) R
  | .rev a, Γ, s, Q, R => wE a Γ s (fun x s1 => revW x s1 fun w => Q w s1) R
  | .call k es, Γ, s, Q, R => wAs es Γ s (fun ws s1 => S k ws s1 Q R) R
  | .blt b es, Γ, s, Q, R => wAs es Γ s (fun ws s1 => blt b ws s1 fun w => Q w s1) R
  | .isi a t, Γ, s, Q, R => wE a Γ s (fun x s1 => onD s1 x fun y => Q (.d (.bool (isTy t y))) s1) R
  | .comp own g it c e, Γ, s, Q, R => wIt it Γ s (fun xs s1 => wLoop
      (fun x s2 K => wTg g x (wipeG Γ (own.map (·.2))) s2 fun Γ' => wC c Γ' s2 (fun t s3 => wIf t (wE e Γ' s3 (fun w s4 => onV w fun y => K (some y) s4) fun _ _ => False) (K none s3)) fun _ _ => False)
      (fun ds s2 => Q (.d (.list ds)) s2) xs [] s1) R
  | .new e, Γ, s, Q, R => wE e Γ s (fun x s1 => onDL x fun ds => Q (.p s1.length) (s1 ++ [.lst ds])) R
  | .pop a, Γ, s, Q, R => wE a Γ s (fun x s1 => onC s1 x fun c ds => onS ds.getLast? fun y => Q (.d y) (s1.set c (.lst ds.dropLast))) R
  | .bad, _, _, _, _ => False
def wAs : Exs → Env' → Store → (List W → Store → Prop) → XP → Prop
  | .nil, _, s, Q, _ => Q [] s
  | .cons e es, Γ, s, Q, R => wE e Γ s (fun x s1 => wAs es Γ s1 (fun xs s2 => Q (x :: xs) s2) R) R
def wCh : Ch → W → Env' → Store → (Bool → Store → Prop) → XP → Prop
  | .last o b, x, Γ, s, Q, R => wE b Γ s (fun y s1 => cop o x y s1 fun t => Q t s1) R
  | .link o b c, x, Γ, s, Q, R => wE b Γ s (fun y s1 => cop o x y s1 fun t => wIf t (wCh c y Γ s1 Q R) (Q false s1)) R
def wIt : It → Env' → Store → (List W → Store → Prop) → XP → Prop
  | .e x, Γ, s, Q, R => wE x Γ s (fun w s1 => itemsE w s1 fun ws => Q ws s1) R
  | .rng1 a, Γ, s, Q, R => wE a Γ s (fun x s1 => onI x fun j => -(2 ^ 62) ≤ j ∧ j < 2 ^ 62 ∧ Q (rngD 0 j) s1) R
  | .rng2 a b, Γ, s, Q, R => wE a Γ s (fun x s1 => wE b Γ s1 (fun y s2 => on2I x y fun i j => -(2 ^ 62) ≤ i ∧ i < 2 ^ 62 ∧ -(2 ^ 62) ≤ j ∧ j < 2 ^ 62 ∧ Q (rngD i j) s2) R) R
  | .zip a b, Γ, s, Q, R => wE a Γ s (fun x s1 => wE b Γ s1 (fun y s2 => zipW x y fun ws => Q ws s2) R) R
  | .enum a, Γ, s, Q, R => wE a Γ s (fun x s1 => match x with | .d (.list xs) => Q (enumD 0 xs) s1 | _ => False) R
def wO : Exo → Env' → Store → (Option Int → Store → Prop) → XP → Prop
  | .none, _, s, Q, _ => Q none s
  | .some e, Γ, s, Q, R => wE e Γ s (fun x s1 => onI x fun i => Q (some i) s1) R
def wC : Exo → Env' → Store → (Bool → Store → Prop) → XP → Prop
  | .none, _, s, Q, _ => Q true s
  | .some e, Γ, s, Q, R => wE e Γ s (fun x s1 => wTr x s1 fun t => Q t s1) R
end

structure En where
  nx : Env' → Store → Prop
  rt : W → Store → Prop
  bk : Env' → Store → Prop
  ct : Env' → Store → Prop

mutual
def wS : Sm → Env' → Store → En → XPS → Prop
  | .set i e, Γ, s, E, R => wE S e Γ s (fun w s1 => E.nx (Γ.set i (some w)) s1) fun x s1 => R x Γ s1
  | .par is es, Γ, s, E, R => wAs S es Γ s (fun ws s1 => ws.length = is.length ∧ E.nx (setW is ws Γ) s1) fun x s1 => R x Γ s1
  | .unp is e, Γ, s, E, R => wE S e Γ s (fun w s1 => wTg (.tup is) w Γ s1 fun Γ' => E.nx Γ' s1) fun x s1 => R x Γ s1
  | .put o i v, Γ, s, E, R => wE S v Γ s (fun z s1 => wE S o Γ s1 (fun x s2 => wE S i Γ s2 (fun y s3 => onC s3 x fun c ds => onV z fun v => onI y fun k => onS (ixN ds.length k) fun j => E.nx Γ (s3.set c (.lst (ds.set j v)))) fun x s1 => R x Γ s1) fun x s1 => R x Γ s1) fun x s1 => R x Γ s1
  | .app o v, Γ, s, E, R => wE S o Γ s (fun x s1 => onC s1 x fun _ _ => wE S v Γ s1 (fun z s2 => onC s2 x fun c ds => onV z fun v => ds.length < sizeLine ∧ E.nx Γ (s2.set c (.lst (ds ++ [v])))) fun x s1 => R x Γ s1) fun x s1 => R x Γ s1
  | .ret e, Γ, s, E, R => wE S e Γ s E.rt fun x s1 => R x Γ s1
  | .ex e, Γ, s, E, R => wE S e Γ s (fun _ s1 => E.nx Γ s1) fun x s1 => R x Γ s1
  | .ite c a b, Γ, s, E, R => wE S c Γ s (fun x s1 => wTr x s1 fun t => wIf t (wSs a Γ s1 E R) (wSs b Γ s1 E R)) fun x s1 => R x Γ s1
  | .whl c b, Γ, s, E, R => ∃ I : Nat → Env' → Store → Prop, (∃ m, I m Γ s) ∧ ∀ m Γ s, I m Γ s → wE S c Γ s (fun x s1 => wTr x s1 fun t => wIf t
      (wSs b Γ s1 ⟨fun Γ' s' => ∃ m', m' < m ∧ I m' Γ' s', E.rt, E.nx, fun Γ' s' => ∃ m', m' < m ∧ I m' Γ' s'⟩ R) (E.nx Γ s1)) fun x s1 => R x Γ s1
  | .for_ g it b, Γ, s, E, R => wIt S it Γ s (fun ws s1 => wFor
      (fun w Γ s K => wTg g w Γ s fun Γ' => wSs b Γ' s ⟨K, E.rt, E.nx, K⟩ R) E.nx ws Γ s1) fun x s1 => R x Γ s1
  | .pass, Γ, s, E, _ => E.nx Γ s
  | .brk, Γ, s, E, _ => E.bk Γ s
  | .cont, Γ, s, E, _ => E.ct Γ s
  | .raise k, Γ, s, _, R => R k Γ s
  | .frz i, Γ, s, E, _ => onS Γ[i]? fun o => onS o fun w => onC s w fun c ds => E.nx (Γ.set i (some (.d (.list ds)))) (s.set c .dead)
def wSs : Sms → Env' → Store → En → XPS → Prop
  | .nil, Γ, s, E, _ => E.nx Γ s
  | .cons a r, Γ, s, E, R => wS a Γ s { E with nx := fun Γ' s' => wSs r Γ' s' E R } R
end
end

def exitOk (n : Nat) (w : W) (s : Store) (Q : Post) : Prop := match w with
  | .p c => if c < n then Q (.p c) (s.take n) else (match s[c]? with
    | some (.lst ds) => Q (.d (.list ds)) (s.take n) ∨ Q (.p n) (s.take n ++ [.lst ds])
    | _ => False)
  | w => Q w (s.take n)
end Z
namespace Z
open PySem PySem.Spec PyProof.Rows L2

/-! ## how data lie in the heap -/
mutual
inductive DR (K : PySem.W.Frag) (F : Hp) : V → PyData → Prop
  | non : DR K F .non .none
  | bl (b : Bool) : DR K F (.bl b) (.bool b)
  | int (i : Int) : DR K F (.int i) (.int i)
  | str (x : Str) : DR K F (.str x) (.str x)
  | lst {a : Addr} {xs : List V} {ds : List PyData} : F a = some (.lst xs) → DRA K F xs ds → DR K F (.ref a) (.list ds)
  | tup {a : Addr} {xs : List V} {ds : List PyData} : SqT K F a xs → DRA K F xs ds → DR K F (.ref a) (.tuple ds)
inductive DRA (K : PySem.W.Frag) (F : Hp) : List V → List PyData → Prop
  | nil : DRA K F [] []
  | cons {v : V} {vs : List V} {d : PyData} {ds : List PyData} : DR K F v d → DRA K F vs ds → DRA K F (v :: vs) (d :: ds)
end

def Sub (F F' : Hp) : Prop := ∀ a o, F a = some o → F' a = some o
theorem Sub.refl (F : Hp) : Sub F F := fun _ _ h => h
theorem Sub.trans {F G H : Hp} (a : Sub F G) (b : Sub G H) : Sub F H := fun x o h => b x o (a x o h)
theorem Sub.rd {F F' : Hp} (s : Sub F F') {a : Addr} {u : HO} (h : Rd F a u) : Rd F' a u := by
  rcases h with h | ⟨o, h⟩
  · exact .inl (s _ _ h)
  · exact .inr ⟨o, s _ _ h⟩
theorem Sub.sqT {K : PySem.W.Frag} {F F' : Hp} (s : Sub F F') {a : Addr} {xs : List V} (h : SqT K F a xs) : SqT K F' a xs := by
  rcases h with h | h
  · exact .inl (s.rd h)
  · exact .inr h
theorem Sub.sqL {K : PySem.W.Frag} {F F' : Hp} (s : Sub F F') {a : Addr} {xs : List V} (h : SqL K F a xs) : SqL K F' a xs := by
  rcases h with h | h
  · exact .inl (s.rd h)
  · exact .inr h

section
variable {K : PySem.W.Frag} {F F' : Hp}
mutual
theorem DR.mono (s : Sub F F') : ∀ (d : PyData) {v : V}, DR K F v d → DR K F' v d
  | .none, _, h => by cases h; exact .non
  | .bool b, _, h => by cases h; exact .bl b
  | .int b, _, h => by cases h; exact .int b
  | .str b, _, h => by cases h; exact .str b
  | .list ds, _, h => by cases h with | lst e q => exact .lst (s _ _ e) (DRA.mono s ds q)
  | .tuple ds, _, h => by cases h with | tup e q => exact .tup (s.sqT e) (DRA.mono s ds q)
  | .dict _, _, h => by cases h
theorem DRA.mono (s : Sub F F') : ∀ (d : List PyData) {v : List V}, DRA K F v d → DRA K F' v d
  | [], _, h => by cases h; exact .nil
  | d :: ds, _, h => by cases h with | cons a b => exact .cons (DR.mono s d a) (DRA.mono s ds b)
end
mutual
theorem DR.dp : ∀ (d : PyData) {v : V}, DR K F v d → Dp K F v d
  | .none, _, h => by cases h; exact .non
  | .bool b, _, h => by cases h; exact .bl b
  | .int b, _, h => by cases h; exact .int b
  | .str b, _, h => by cases h; exact .str b
  | .list ds, _, h => by cases h with | lst e q => exact .lst (.of e) (DRA.dp ds q)
  | .tuple ds, _, h => by cases h with | tup e q => exact .tup e (DRA.dp ds q)
  | .dict _, _, h => by cases h
theorem DRA.dp : ∀ (d : List PyData) {v : List V}, DRA K F v d → DpAll K F v d
  | [], _, h => by cases h; exact .nil
  | d :: ds, _, h => by cases h with | cons a b => exact .cons (DR.dp d a) (DRA.dp ds b)
end
theorem DRA.length : ∀ {vs : List V} {ds : List PyData}, DRA K F vs ds → vs.length = ds.length
  | _, _, .nil => rfl
  | _, _, .cons _ t => by simp [DRA.length t]
theorem DRA.app : ∀ {vs us : List V} {ds es : List PyData}, DRA K F vs ds → DRA K F us es → DRA K F (vs ++ us) (ds ++ es)
  | _, _, _, _, .nil, h => h
  | _, _, _, _, .cons a t, h => .cons a (DRA.app t h)
theorem DRA.get : ∀ {vs : List V} {ds : List PyData} {i : Nat} {d : PyData}, DRA K F vs ds → ds[i]? = some d → ∃ v, vs[i]? = some v ∧ DR K F v d
  | _, _, _, _, .nil, e => by simp at e
  | _, _, 0, _, .cons a t, e => by simp at e; subst e; exact ⟨_, rfl, a⟩
  | _, _, i + 1, _, .cons a t, e => by simpa using DRA.get t (by simpa using e)
theorem DRA.get' : ∀ {vs : List V} {ds : List PyData} {i : Nat} {v : V}, DRA K F vs ds → vs[i]? = some v → ∃ d, ds[i]? = some d ∧ DR K F v d
  | _, _, _, _, .nil, e => by simp at e
  | _, _, 0, _, .cons a t, e => by simp at e; subst e; exact ⟨_, rfl, a⟩
  | _, _, i + 1, _, .cons a t, e => by simpa using DRA.get' t (by simpa using e)
theorem DRA.take : ∀ {vs : List V} {ds : List PyData} (n : Nat), DRA K F vs ds → DRA K F (vs.take n) (ds.take n)
  | _, _, 0, _ => by simp; exact .nil
  | _, _, _ + 1, .nil => .nil
  | _, _, n + 1, .cons a t => .cons a (DRA.take n t)
theorem DRA.drop : ∀ {vs : List V} {ds : List PyData} (n : Nat), DRA K F vs ds → DRA K F (vs.drop n) (ds.drop n)
  | _, _, 0, h => by simpa using h
  | _, _, _ + 1, .nil => .nil
  | _, _, n + 1, .cons a t => by simpa using DRA.drop n t
theorem DRA.rev : ∀ {vs : List V} {ds : List PyData}, DRA K F vs ds → DRA K F vs.reverse ds.reverse
  | _, _, .nil => .nil
  | _, _, .cons a t => by rw [List.reverse_cons, List.reverse_cons]; exact DRA.app (DRA.rev t) (.cons a .nil)
theorem DRA.set {v : V} {d : PyData} (r : DR K F v d) : ∀ {vs : List V} {ds : List PyData} (i : Nat), DRA K F vs ds → DRA K F (vs.set i v) (ds.set i d)
  | _, _, _, .nil => .nil
  | _, _, 0, .cons _ t => .cons r t
  | _, _, i + 1, .cons a t => .cons a (DRA.set r i t)
theorem DRA.rep {vs : List V} {ds : List PyData} (h : DRA K F vs ds) : ∀ k : Nat, DRA K F (List.replicate k vs).flatten (List.replicate k ds).flatten
  | 0 => by simp; exact .nil
  | k + 1 => by rw [List.replicate_succ, List.flatten_cons, List.replicate_succ, List.flatten_cons]; exact DRA.app h (DRA.rep h k)
theorem DRA.ints : ∀ {vs : List V} {ds : List PyData} {ns : List Int}, DRA K F vs ds → intsOf ds = some ns → vs = ns.map V.int
  | _, _, _, .nil, e => by simp [intsOf] at e; subst e; rfl
  | _, _, _, .cons a t, e => by
    cases a with
    | int i =>
      simp only [intsOf, Option.map_eq_some_iff] at e
      obtain ⟨ms, e1, e2⟩ := e
      subst e2
      rw [DRA.ints t e1]; rfl
    | _ => simp [intsOf] at e
theorem DRA.bools : ∀ {vs : List V} {ds : List PyData} {ns : List Bool}, DRA K F vs ds → boolsOf ds = some ns → vs = ns.map V.bl
  | _, _, _, .nil, e => by simp [boolsOf] at e; subst e; rfl
  | _, _, _, .cons a t, e => by
    cases a with
    | bl i =>
      simp only [boolsOf, Option.map_eq_some_iff] at e
      obtain ⟨ms, e1, e2⟩ := e
      subst e2
      rw [DRA.bools t e1]; rfl
    | _ => simp [boolsOf] at e
theorem DRA.ofInts : ∀ (ns : List Int), DRA K F (ns.map V.int) (ns.map PyData.int)
  | [] => .nil
  | n :: r => .cons (.int n) (DRA.ofInts r)
end

/-! ## a world: what is frozen, where the cells lie, the heap -/
structure Wo where
  F : Hp
  ad : List Addr
  H : Hp
structure Tab where
  K : PySem.W.Frag
  fa : Nat → Addr
  ec : Nat → Addr
  S : Nat → Spec

structure Le (w w' : Wo) : Prop where
  f : Sub w.F w'.F
  a : ∃ m, w'.ad = w.ad ++ m
  n : ∀ a, a ∈ w'.ad → a ∉ w.ad → w.H a = none
  h : ∀ a o, a ∉ w.ad → w.H a = some o → w'.H a = some o
  k : ∀ a, w.H a ≠ none → a ∉ w.ad → w.F a = none → w'.F a = none
theorem Le.refl (w : Wo) : Le w w := ⟨Sub.refl _, ⟨[], by simp⟩, fun a h n => absurd h n, fun _ _ _ h => h, fun _ _ _ h => h⟩
theorem Le.trans {u v w : Wo} (x : Le u v) (y : Le v w) : Le u w where
  f := x.f.trans y.f
  a := by
    obtain ⟨m, e⟩ := x.a
    obtain ⟨m', e'⟩ := y.a
    exact ⟨m ++ m', by rw [e', e, List.append_assoc]⟩
  n := fun a h n => by
    by_cases q : a ∈ v.ad
    · exact x.n a q n
    · cases e : u.H a with
      | none => rfl
      | some o => have := x.h a o n e; rw [y.n a h q] at this; cases this
  h := fun a o n e => by
    refine y.h a o (fun q => ?_) (x.h a o n e)
    rw [x.n a q n] at e; cases e
  k := fun a n m e => by
    cases q : u.H a with
    | none => exact absurd q n
    | some o =>
      refine y.k a (by rw [x.h a o m q]; simp) (fun z => ?_) (x.k a n m e)
      rw [x.n a z m] at q; cases q

structure Rel (K : PySem.W.Frag) (w : Wo) (st : Store) : Prop where
  sub : Sub w.F w.H
  len : st.length = w.ad.length
  nd : w.ad.Nodup
  here : ∀ a, a ∈ w.ad → w.H a ≠ none
  cell : ∀ (c : Nat) (a : Addr) (ds : List PyData), w.ad[c]? = some a → st[c]? = some (.lst ds) → w.F a = none ∧ ∃ vs, w.H a = some (.lst vs) ∧ DRA K w.F vs ds

inductive WR (T : Tab) (w : Wo) : V → W → Prop
  | d {v : V} {x : PyData} : DR T.K w.F v x → WR T w v (.d x)
  | p {c : Nat} {a : Addr} : w.ad[c]? = some a → WR T w (.ref a) (.p c)
  | fn (k : Nat) : WR T w (.ref (T.fa k)) (.fn k)
  | fll {a : Addr} {ks : List Nat} : w.F a = some (.lst (ks.map fun k => V.ref (T.fa k))) → WR T w (.ref a) (.fl false ks)
  | flt {a : Addr} {ks : List Nat} : SqT T.K w.F a (ks.map fun k => V.ref (T.fa k)) → WR T w (.ref a) (.fl true ks)
  | fz {a : Addr} {xs : List V} {ds : List PyData} : SqL T.K w.F a xs → DRA T.K w.F xs ds → WR T w (.ref a) (.fz ds)

section
variable {T : Tab} {w w' : Wo} {st : Store}
theorem Le.get (l : Le w w') {c : Nat} {a : Addr} (h : w.ad[c]? = some a) : w'.ad[c]? = some a := by
  obtain ⟨m, e⟩ := l.a
  rw [e, List.getElem?_append_left (by obtain ⟨h, _⟩ := List.getElem?_eq_some_iff.mp h; exact h)]
  exact h
theorem WR.mono (l : Le w w') {v : V} {x : W} (h : WR T w v x) : WR T w' v x := by
  cases h with
  | d h => exact .d (h.mono l.f)
  | p h => exact .p (l.get h)
  | fn k => exact .fn k
  | fll h => exact .fll (l.f _ _ h)
  | flt h => exact .flt (l.f.sqT h)
  | fz h h2 => exact .fz (l.f.sqL h) (h2.mono l.f)

def WRs (T : Tab) (w : Wo) : List V → List W → Prop
  | [], [] => True
  | v :: vs, x :: xs => WR T w v x ∧ WRs T w vs xs
  | _, _ => False
theorem WRs.mono (l : Le w w') : ∀ {vs : List V} {xs : List W}, WRs T w vs xs → WRs T w' vs xs
  | [], [], _ => trivial
  | _ :: _, _ :: _, h => ⟨h.1.mono l, WRs.mono l h.2⟩
  | [], _ :: _, h => h.elim
  | _ :: _, [], h => h.elim
theorem WRs.length : ∀ {vs : List V} {xs : List W}, WRs T w vs xs → vs.length = xs.length
  | [], [], _ => rfl
  | _ :: _, _ :: _, h => by simp [WRs.length h.2]
  | [], _ :: _, h => h.elim
  | _ :: _, [], h => h.elim

def EnvR (T : Tab) (w : Wo) (Γ : Env') (σ : L2.St) : Prop := Γ.length = σ.length ∧ ∀ (i : Nat) (x : W), Γ[i]? = some (some x) → ∃ v, σ[i]? = some (some v) ∧ WR T w v x
theorem EnvR.mono (l : Le w w') {Γ : Env'} {σ : L2.St} (h : EnvR T w Γ σ) : EnvR T w' Γ σ := ⟨h.1, fun i x e => let ⟨v, e1, r⟩ := h.2 i x e; ⟨v, e1, r.mono l⟩⟩
theorem EnvR.set {Γ : Env'} {σ : L2.St} (h : EnvR T w Γ σ) (i : Nat) {v : V} {x : W} (r : WR T w v x) : EnvR T w (Γ.set i (some x)) (σ.set i (some v)) := by
  refine ⟨by simp [h.1], fun j y e => ?_⟩
  by_cases q : i = j
  · subst q
    by_cases b : i < Γ.length
    · rw [List.getElem?_set_self b] at e
      cases e
      exact ⟨v, by rw [List.getElem?_set_self (by rw [← h.1]; exact b)], r⟩
    · rw [List.getElem?_eq_none (by simpa using b)] at e; cases e
  · rw [List.getElem?_set_ne q] at e
    obtain ⟨u, e1, r1⟩ := h.2 j y e
    exact ⟨u, by rw [List.getElem?_set_ne q]; exact e1, r1⟩
theorem EnvR.unset {Γ : Env'} {σ : L2.St} (h : EnvR T w Γ σ) (i : Nat) : EnvR T w (Γ.set i none) (σ.set i none) := by
  refine ⟨by simp [h.1], fun j y e => ?_⟩
  by_cases q : i = j
  · subst q
    by_cases b : i < Γ.length
    · rw [List.getElem?_set_self b] at e; cases e
    · rw [List.getElem?_eq_none (by simpa using b)] at e; cases e
  · rw [List.getElem?_set_ne q] at e
    obtain ⟨u, e1, r1⟩ := h.2 j y e
    exact ⟨u, by rw [List.getElem?_set_ne q]; exact e1, r1⟩
theorem EnvR.wipe {Γ : Env'} {σ : L2.St} (h : EnvR T w Γ σ) : ∀ vs : List Nat, EnvR T w (wipeG Γ vs) (L2.wipe σ vs)
  | [] => h
  | v :: vs => (EnvR.wipe h vs).unset v

theorem upd_some {H : Hp} {a b : Addr} {o u : HO} (h : upd H a o b = some u) : (b = a ∧ u = o) ∨ (b ≠ a ∧ H b = some u) := by
  by_cases z : b = a
  · subst z; rw [upd_same] at h; cases h; exact .inl ⟨rfl, rfl⟩
  · rw [upd_ne z] at h; exact .inr ⟨z, h⟩
/-- a fresh object frozen -/
theorem Rel.freeze {v w : Wo} {st : Store} (lv : Le v w) (r : Rel T.K w st) {a : Addr} {o : HO} (h : w.H a = some o) (n : w.F a = none) (na : a ∉ w.ad) (old : v.H a = none) : Rel T.K ⟨upd w.F a o, w.ad, w.H⟩ st ∧ Le v ⟨upd w.F a o, w.ad, w.H⟩ := by
  have s : Sub w.F (upd w.F a o) := fun b u q => by rw [upd_ne (fun z => by rw [z, n] at q; cases q)]; exact q
  refine ⟨⟨fun b u q => ?_, r.len, r.nd, r.here, fun c b ds h1 h2 => ?_⟩, ⟨lv.f.trans s, lv.a, lv.n, lv.h, fun b q m e => ?_⟩⟩
  · rcases upd_some q with ⟨rfl, rfl⟩ | ⟨z, q⟩
    · exact h
    · exact r.sub b u q
  · obtain ⟨q1, vs, q2, q3⟩ := r.cell c b ds h1 h2
    have hb : b ≠ a := fun z => na (z ▸ List.mem_of_getElem? h1)
    exact ⟨by show upd w.F a o b = none; rw [upd_ne hb]; exact q1, vs, q2, q3.mono s⟩
  · show upd w.F a o b = none
    rw [upd_ne (fun z => by subst z; exact q old)]; exact lv.k b q m e
/-- a new object laid, not frozen -/
theorem Rel.born {w : Wo} {st : Store} (r : Rel T.K w st) {a : Addr} {o : HO} (n : w.H a = none) : Rel T.K ⟨w.F, w.ad, upd w.H a o⟩ st ∧ Le w ⟨w.F, w.ad, upd w.H a o⟩ ∧ w.F a = none ∧ a ∉ w.ad := by
  have nF : w.F a = none := by
    cases e : w.F a with
    | none => rfl
    | some u => rw [r.sub a u e] at n; cases n
  have na : a ∉ w.ad := fun z => r.here a z n
  have sH : Sub w.H (upd w.H a o) := fun b u q => by rw [upd_ne (fun z => by rw [z, n] at q; cases q)]; exact q
  refine ⟨⟨fun b u q => sH _ _ (r.sub b u q), r.len, r.nd, fun b hb => ?_, fun c b ds h1 h2 => ?_⟩, ⟨Sub.refl _, ⟨[], by simp⟩, fun a h n => absurd h n, fun b u _ h => sH b u h, fun _ _ _ h => h⟩, nF, na⟩
  · show upd w.H a o b ≠ none
    rw [upd_ne (show b ≠ a from fun z => na (by rw [← z]; exact hb))]; exact r.here b hb
  · obtain ⟨q1, vs, q2, q3⟩ := r.cell c b ds h1 h2
    exact ⟨q1, vs, sH _ _ q2, q3⟩
/-- an object that stood outside becomes a cell -/
theorem Rel.taken {v w : Wo} {st : Store} (lv : Le v w) (r : Rel T.K w st) {a : Addr} {vs : List V} {ds : List PyData} (h : w.H a = some (.lst vs)) (n : w.F a = none) (na : a ∉ w.ad) (old : v.H a = none) (d : DRA T.K w.F vs ds) :
    Rel T.K ⟨w.F, w.ad ++ [a], w.H⟩ (st ++ [.lst ds]) ∧ Le v ⟨w.F, w.ad ++ [a], w.H⟩ := by
  refine ⟨⟨r.sub, by simp [r.len], ?_, fun b hb => ?_, fun c b es h1 h2 => ?_⟩, ⟨lv.f, ?_, fun b hb nb => ?_, lv.h, lv.k⟩⟩
  · exact List.nodup_append.mpr ⟨r.nd, by simp, fun x hx y hy => by simp at hy; subst hy; exact fun z => na (z ▸ hx)⟩
  · rcases List.mem_append.mp hb with hb | hb
    · exact r.here b hb
    · simp at hb; subst hb; rw [h]; simp
  · have h1 : (w.ad ++ [a])[c]? = some b := h1
    by_cases q : c < w.ad.length
    · rw [List.getElem?_append_left q] at h1
      rw [List.getElem?_append_left (by rw [r.len]; exact q)] at h2
      exact r.cell c b es h1 h2
    · have hc : c = w.ad.length := by
        obtain ⟨hl, _⟩ := List.getElem?_eq_some_iff.mp h1
        simp at hl; omega
      subst hc
      rw [List.getElem?_append_right (Nat.le_refl _)] at h1
      rw [List.getElem?_append_right (by rw [r.len]; exact Nat.le_refl _), r.len] at h2
      simp at h1 h2
      subst h1 h2
      exact ⟨n, vs, h, d⟩
  · obtain ⟨m, e⟩ := lv.a
    exact ⟨m ++ [a], by show w.ad ++ [a] = _; rw [e, List.append_assoc]⟩
  · rcases List.mem_append.mp hb with hb | hb
    · exact lv.n b hb nb
    · simp at hb; subst hb; exact old
/-- a new object laid and frozen -/
theorem Rel.laid {w : Wo} {st : Store} (r : Rel T.K w st) {a : Addr} {o : HO} (n : w.H a = none) : Rel T.K ⟨upd w.F a o, w.ad, upd w.H a o⟩ st ∧ Le w ⟨upd w.F a o, w.ad, upd w.H a o⟩ := by
  have nF : w.F a = none := by
    cases e : w.F a with
    | none => rfl
    | some u => rw [r.sub a u e] at n; cases n
  have na : a ∉ w.ad := fun z => r.here a z n
  have s : Sub w.F (upd w.F a o) := fun b u q => by rw [upd_ne (fun z => by rw [z, nF] at q; cases q)]; exact q
  have sH : Sub w.H (upd w.H a o) := fun b u q => by rw [upd_ne (fun z => by rw [z, n] at q; cases q)]; exact q
  refine ⟨⟨fun b u q => ?_, r.len, r.nd, fun b hb => ?_, fun c b ds h1 h2 => ?_⟩, ⟨s, ⟨[], by simp⟩, fun a h n => absurd h n, fun b u _ h => sH b u h, fun b q m e => by show upd w.F a o b = none; rw [upd_ne (show b ≠ a from fun z => by subst z; exact q n)]; exact e⟩⟩
  · rcases upd_some q with ⟨rfl, rfl⟩ | ⟨z, q⟩
    · exact upd_same
    · exact sH _ _ (r.sub b u q)
  · show upd w.H a o b ≠ none
    rw [upd_ne (show b ≠ a from fun z => na (by rw [← z]; exact hb))]; exact r.here b hb
  · obtain ⟨q1, vs, q2, q3⟩ := r.cell c b ds h1 h2
    have hb : b ≠ a := fun z => na (z ▸ List.mem_of_getElem? h1)
    exact ⟨by show upd w.F a o b = none; rw [upd_ne hb]; exact q1, vs, sH _ _ q2, q3.mono s⟩
/-- a new list laid as a cell -/
theorem Rel.celled {w : Wo} {st : Store} (r : Rel T.K w st) {a : Addr} {vs : List V} {ds : List PyData} (n : w.H a = none) (h : DRA T.K w.F vs ds) :
    Rel T.K ⟨w.F, w.ad ++ [a], upd w.H a (.lst vs)⟩ (st ++ [.lst ds]) ∧ Le w ⟨w.F, w.ad ++ [a], upd w.H a (.lst vs)⟩ := by
  have nF : w.F a = none := by
    cases e : w.F a with
    | none => rfl
    | some u => rw [r.sub a u e] at n; cases n
  have na : a ∉ w.ad := fun z => r.here a z n
  have sH : Sub w.H (upd w.H a (.lst vs)) := fun b u q => by rw [upd_ne (fun z => by rw [z, n] at q; cases q)]; exact q
  refine ⟨⟨fun b u q => sH _ _ (r.sub b u q), by simp [r.len], ?_, fun b hb => ?_, fun c b es h1 h2 => ?_⟩, ⟨Sub.refl _, ⟨[a], rfl⟩, fun b hb nb => ?_, fun b u _ h => sH b u h, fun _ _ _ h => h⟩⟩
  · exact List.nodup_append.mpr ⟨r.nd, by simp, fun x hx y hy => by simp at hy; subst hy; exact fun z => na (z ▸ hx)⟩
  · show upd w.H a _ b ≠ none
    rcases List.mem_append.mp hb with hb | hb
    · rw [upd_ne (show b ≠ a from fun z => na (by rw [← z]; exact hb))]; exact r.here b hb
    · simp at hb; subst hb; rw [upd_same]; simp
  · have h1 : (w.ad ++ [a])[c]? = some b := h1
    by_cases q : c < w.ad.length
    · rw [List.getElem?_append_left q] at h1
      rw [List.getElem?_append_left (by rw [r.len]; exact q)] at h2
      obtain ⟨q1, us, q2, q3⟩ := r.cell c b es h1 h2
      exact ⟨q1, us, sH _ _ q2, q3⟩
    · have hc : c = w.ad.length := by
        obtain ⟨hl, _⟩ := List.getElem?_eq_some_iff.mp h1
        simp at hl; omega
      subst hc
      rw [List.getElem?_append_right (Nat.le_refl _)] at h1
      rw [List.getElem?_append_right (by rw [r.len]; exact Nat.le_refl _), r.len] at h2
      simp at h1 h2
      subst h1 h2
      exact ⟨nF, vs, upd_same, h⟩
  · have hb : b ∈ w.ad ++ [a] := hb
    rcases List.mem_append.mp hb with hb | hb
    · exact absurd hb nb
    · simp at hb; subst hb; exact n
/-- a cell changed -/
theorem Rel.stored {w : Wo} {st : Store} (r : Rel T.K w st) {c : Nat} {a : Addr} {vs : List V} {ds es : List PyData} (hc : w.ad[c]? = some a) (hs : st[c]? = some (.lst es)) (h : DRA T.K w.F vs ds) :
    Rel T.K ⟨w.F, w.ad, upd w.H a (.lst vs)⟩ (st.set c (.lst ds)) ∧ Le w ⟨w.F, w.ad, upd w.H a (.lst vs)⟩ := by
  obtain ⟨nF, us, hH, _⟩ := r.cell c a es hc hs
  have hm : a ∈ w.ad := List.mem_of_getElem? hc
  refine ⟨⟨fun b u q => ?_, by simp [r.len], r.nd, fun b hb => ?_, fun c' b ds' h1 h2 => ?_⟩, ⟨Sub.refl _, ⟨[], by simp⟩, fun a h n => absurd h n, fun b u nb h => ?_, fun _ _ _ h => h⟩⟩
  · show upd w.H a _ b = some u
    rw [upd_ne (fun z => by subst z; have : w.F b = some u := q; rw [nF] at this; cases this)]; exact r.sub b u q
  · show upd w.H a _ b ≠ none
    by_cases z : b = a
    · subst z; rw [upd_same]; simp
    · rw [upd_ne z]; exact r.here b hb
  · by_cases z : c' = c
    · subst z
      have h1 : w.ad[c']? = some b := h1
      rw [hc] at h1; cases h1
      rw [List.getElem?_set_self (by obtain ⟨h, _⟩ := List.getElem?_eq_some_iff.mp hs; exact h)] at h2
      cases h2
      exact ⟨nF, vs, upd_same, h⟩
    · rw [List.getElem?_set_ne (Ne.symm z)] at h2
      obtain ⟨q1, us', q2, q3⟩ := r.cell c' b ds' h1 h2
      have hb : b ≠ a := fun e => by
        subst e
        exact z (L2.nd_ix r.nd h1 hc)
      exact ⟨q1, us', by show upd w.H a _ b = _; rw [upd_ne hb]; exact q2, q3⟩
  · show upd w.H a _ b = some u
    rw [upd_ne (show b ≠ a from fun z => nb (by rw [z]; exact hm))]; exact h
/-- a cell frozen for good -/
theorem Rel.killed {w : Wo} {st : Store} (r : Rel T.K w st) {c : Nat} {a : Addr} {vs : List V} {ds : List PyData} (hc : w.ad[c]? = some a) (hs : st[c]? = some (.lst ds)) (hv : w.H a = some (.lst vs)) :
    Rel T.K ⟨upd w.F a (.lst vs), w.ad, w.H⟩ (st.set c .dead) ∧ Le w ⟨upd w.F a (.lst vs), w.ad, w.H⟩ := by
  obtain ⟨nF, us, hH, _⟩ := r.cell c a ds hc hs
  have s : Sub w.F (upd w.F a (.lst vs)) := fun b u q => by rw [upd_ne (fun z => by rw [z, nF] at q; cases q)]; exact q
  refine ⟨⟨fun b u q => ?_, by simp [r.len], r.nd, r.here, fun c' b ds' h1 h2 => ?_⟩, ⟨s, ⟨[], by simp⟩, fun a h n => absurd h n, fun _ _ _ h => h, fun b q m e => by show upd w.F a _ b = none; rw [upd_ne (show b ≠ a from fun z => by subst z; exact m (List.mem_of_getElem? hc))]; exact e⟩⟩
  · rcases upd_some q with ⟨rfl, rfl⟩ | ⟨z, q⟩
    · exact hv
    · exact r.sub b u q
  · by_cases z : c' = c
    · subst z
      rw [List.getElem?_set_self (by obtain ⟨h, _⟩ := List.getElem?_eq_some_iff.mp hs; exact h)] at h2
      cases h2
    · rw [List.getElem?_set_ne (Ne.symm z)] at h2
      obtain ⟨q1, us', q2, q3⟩ := r.cell c' b ds' h1 h2
      have hb : b ≠ a := fun e => by
        subst e
        exact z (L2.nd_ix r.nd h1 hc)
      exact ⟨by show upd w.F a _ b = none; rw [upd_ne hb]; exact q1, us', q2, q3.mono s⟩

/-- a list read: data or cell -/
theorem WR.asL (r : Rel T.K w st) {v : V} {x : W} {xs : List PyData} (h : WR T w v x) (e : asL st x = some xs) : ∃ a vs, v = .ref a ∧ w.H a = some (.lst vs) ∧ DRA T.K w.F vs xs := by
  cases h with
  | d h =>
    cases h with
    | lst h1 h2 => simp [Z.asL] at e; subst e; exact ⟨_, _, rfl, r.sub _ _ h1, h2⟩
    | _ => simp [Z.asL] at e
  | @p c a h =>
    simp only [Z.asL] at e
    split at e
    · rename_i ds h2
      cases e
      obtain ⟨_, vs, h3, h4⟩ := r.cell c a _ h h2
      exact ⟨a, vs, rfl, h3, h4⟩
    · cases e
  | _ => simp [Z.asL] at e
theorem WR.asQ (r : Rel T.K w st) {v : V} {x : W} {xs : List PyData} (h : WR T w v x) (e : asQ st x = some xs) : ∃ a vs, v = .ref a ∧ (w.H a = some (.lst vs) ∨ SqT T.K w.H a vs) ∧ DRA T.K w.F vs xs := by
  by_cases q : ∃ ys, x = .d (.tuple ys)
  · obtain ⟨ys, rfl⟩ := q
    simp [Z.asQ] at e; subst e
    cases h with
    | d h =>
      cases h with
      | tup h1 h2 => exact ⟨_, _, rfl, .inr (r.sub.sqT h1), h2⟩
  · have e' : Z.asL st x = some xs := by
      unfold Z.asQ at e
      split at e
      · exact absurd ⟨_, rfl⟩ q
      · exact e
    obtain ⟨a, vs, h1, h2, h3⟩ := h.asL r e'
    exact ⟨a, vs, h1, .inl h2, h3⟩
theorem WR.asD (r : Rel T.K w st) {v : V} {x : W} {y : PyData} (h : WR T w v x) (e : asD st x = some y) : Dp T.K w.H v y := by
  have mo : ∀ {v : V} {x : PyData}, DR T.K w.F v x → Dp T.K w.H v x := fun h => DR.dp _ (DR.mono r.sub _ h)
  cases h with
  | d h => simp [Z.asD] at e; subst e; exact mo h
  | @p c a h =>
    simp only [Z.asD] at e
    split at e
    · rename_i ds h2
      cases e
      obtain ⟨_, vs, h3, h4⟩ := r.cell c a _ h h2
      exact .lst (.of h3) (DRA.dp _ (DRA.mono r.sub _ h4))
    · cases e
  | _ => simp [Z.asD] at e
theorem onL_iff {s : Store} {x : W} {f : List PyData → Prop} (h : onL s x f) : ∃ xs, asL s x = some xs ∧ f xs := by
  unfold onL at h; split at h
  · exact ⟨_, by assumption, h⟩
  · exact h.elim
theorem onQ_iff {s : Store} {x : W} {f : List PyData → Prop} (h : onQ s x f) : ∃ xs, asQ s x = some xs ∧ f xs := by
  unfold onQ at h; split at h
  · exact ⟨_, by assumption, h⟩
  · exact h.elim
theorem onD_iff {s : Store} {x : W} {f : PyData → Prop} (h : onD s x f) : ∃ xs, asD s x = some xs ∧ f xs := by
  unfold onD at h; split at h
  · exact ⟨_, by assumption, h⟩
  · exact h.elim
theorem onI_iff {x : W} {f : Int → Prop} (h : onI x f) : ∃ i, x = .d (.int i) ∧ f i := by
  unfold onI at h; split at h
  · exact ⟨_, rfl, h⟩
  · exact h.elim
theorem onB_iff {x : W} {f : Bool → Prop} (h : onB x f) : ∃ i, x = .d (.bool i) ∧ f i := by
  unfold onB at h; split at h
  · exact ⟨_, rfl, h⟩
  · exact h.elim
theorem onC_iff {s : Store} {x : W} {f : Nat → List PyData → Prop} (h : onC s x f) : ∃ c ds, x = .p c ∧ s[c]? = some (.lst ds) ∧ f c ds := by
  unfold onC at h; split at h
  · split at h
    · exact ⟨_, _, rfl, by assumption, h⟩
    · exact h.elim
  · exact h.elim
theorem onV_iff {x : W} {f : PyData → Prop} (h : onV x f) : ∃ i, x = .d i ∧ f i := by
  unfold onV at h; split at h
  · exact ⟨_, rfl, h⟩
  · exact h.elim
theorem onS_iff {α : Type} {o : Option α} {f : α → Prop} (h : onS o f) : ∃ i, o = some i ∧ f i := by
  unfold onS at h; split at h
  · exact ⟨_, rfl, h⟩
  · exact h.elim
theorem WR.int {v : V} {i : Int} (h : WR T w v (.d (.int i))) : v = .int i := by
  cases h with | d h => cases h; rfl
theorem WR.bool {v : V} {i : Bool} (h : WR T w v (.d (.bool i))) : v = .bl i := by
  cases h with | d h => cases h; rfl
theorem WR.str {v : V} {i : Str} (h : WR T w v (.d (.str i))) : v = .str i := by
  cases h with | d h => cases h; rfl
theorem WR.tup {v : V} {i : List PyData} (h : WR T w v (.d (.tuple i))) : ∃ a xs, v = .ref a ∧ SqT T.K w.F a xs ∧ DRA T.K w.F xs i := by
  cases h with | d h => cases h with | tup a b => exact ⟨_, _, rfl, a, b⟩
theorem WR.ofInt (i : Int) : WR T w (.int i) (.d (.int i)) := .d (.int i)
theorem WR.ofBool (i : Bool) : WR T w (.bl i) (.d (.bool i)) := .d (.bl i)
theorem WR.ofStr (i : Str) : WR T w (.str i) (.d (.str i)) := .d (.str i)
theorem WR.ofNone : WR T w .non (.d .none) := .d .non
end
end Z
namespace Z
open PySem PySem.Spec PyProof.Rows L2

/-! ## operators by values -/
section
variable {T : Tab} {X : Cx}
def Res (T : Tab) (w : Wo) (st : Store) (P : W → Prop) (Q : VK) : Prop := ∀ w' v z, Le w w' → Rel T.K w' st → WR T w' v z → P z → Q v w'.H
theorem Res.here {w : Wo} {st : Store} {P : W → Prop} {Q : VK} (q : Res T w st P Q) (r : Rel T.K w st) {v : V} {z : W} (h : WR T w v z) (p : P z) : Q v w.H := q w v z (Le.refl w) r h p
theorem Res.lst {w : Wo} {st : Store} {P : W → Prop} {Q : VK} (q : Res T w st P Q) (r : Rel T.K w st) {xs : List V} {ds : List PyData} (h : DRA T.K w.F xs ds) (p : P (.d (.list ds))) {a : Addr} (n : w.H a = none) : Q (.ref a) (upd w.H a (.lst xs)) := by
  obtain ⟨r', l⟩ := r.laid (o := .lst xs) n
  exact q ⟨upd w.F a (.lst xs), w.ad, upd w.H a (.lst xs)⟩ _ _ l r' (.d (.lst upd_same (DRA.mono l.f _ h))) p
theorem Res.tup {w : Wo} {st : Store} {P : W → Prop} {Q : VK} (q : Res T w st P Q) (r : Rel T.K w st) {xs : List V} {ds : List PyData} (h : DRA T.K w.F xs ds) (p : P (.d (.tuple ds))) {a : Addr} (n : w.H a = none) : Q (.ref a) (upd w.H a (.tup xs)) := by
  obtain ⟨r', l⟩ := r.laid (o := .tup xs) n
  exact q ⟨upd w.F a (.tup xs), w.ad, upd w.H a (.tup xs)⟩ _ _ l r' (.d (.tup (.of upd_same) (DRA.mono l.f _ h))) p
theorem Res.fl {w : Wo} {st : Store} {P : W → Prop} {Q : VK} (q : Res T w st P Q) (r : Rel T.K w st) {ks : List Nat} (p : P (.fl false ks)) {a : Addr} (n : w.H a = none) : Q (.ref a) (upd w.H a (.lst (ks.map fun k => V.ref (T.fa k)))) := by
  obtain ⟨r', l⟩ := r.laid (o := .lst (ks.map fun k => V.ref (T.fa k))) n
  exact q ⟨upd w.F a _, w.ad, upd w.H a _⟩ _ _ l r' (.fll upd_same) p
theorem Res.ft {w : Wo} {st : Store} {P : W → Prop} {Q : VK} (q : Res T w st P Q) (r : Rel T.K w st) {ks : List Nat} (p : P (.fl true ks)) {a : Addr} (n : w.H a = none) : Q (.ref a) (upd w.H a (.tup (ks.map fun k => V.ref (T.fa k)))) := by
  obtain ⟨r', l⟩ := r.laid (o := .tup (ks.map fun k => V.ref (T.fa k))) n
  exact q ⟨upd w.F a _, w.ad, upd w.H a _⟩ _ _ l r' (.flt (.of upd_same)) p

def r2 (T : Tab) (f : W → W → Store → (W → Prop) → Prop) : R2 := fun x y H Q => ∃ (w : Wo) (st : Store) (wx wy : W) (P : W → Prop), w.H = H ∧ Rel T.K w st ∧ WR T w x wx ∧ WR T w y wy ∧ f wx wy st P ∧ Res T w st P Q
def r1 (T : Tab) (f : W → Store → (W → Prop) → Prop) : V → Hp → VK → Prop := fun x H Q => ∃ (w : Wo) (st : Store) (wx : W) (P : W → Prop), w.H = H ∧ Rel T.K w st ∧ WR T w x wx ∧ f wx st P ∧ Res T w st P Q
def rN (T : Tab) (f : List W → Store → (W → Prop) → Prop) : List V → Hp → VK → Prop := fun xs H Q => ∃ (w : Wo) (st : Store) (ws : List W) (P : W → Prop), w.H = H ∧ Rel T.K w st ∧ WRs T w xs ws ∧ f ws st P ∧ Res T w st P Q
theorem OpR.imp {f : Value → Value → Sem Value} {r r' : R2} (h : OpR X f r) (i : ∀ x y H Q, r' x y H Q → r x y H Q) : OpR X f r' := fun pins s σ H x y v u Q I rx ry q => h pins s σ H x y v u Q I rx ry (i _ _ _ _ q)
theorem CallR.imp {f : Value} {r r' : List V → Hp → VK → Prop} (h : CallR X f r) (i : ∀ x H Q, r' x H Q → r x H Q) : CallR X f r' := fun pins s σ H x v Q I rx q => h pins s σ H x v Q I rx (i _ _ _ q)

/-- () + t -/
theorem cat_tup0 {prog : Program} {w : World} {A : Around} {E : Value → Shared → Prop} {s : Shared} {t b : Addr} {ws : List Value} {Q : Value → Shared → Prop} (ht : IsTup s.heap t ([] : List Value).toArray) (hb : IsTup s.heap b ws.toArray)
    (h1 : Q (.ref b) s) : wpAny (model prog w) A (binaryOp .Add (.ref t) (.ref b)) Q E s := by
  obtain ⟨⟨cls, dd, data, sl⟩, ho, hc, n, hd⟩ := id ht
  obtain ⟨⟨cls2, dd2, data2, sl2⟩, ho2, hc2, n2, hd2⟩ := id hb
  simp only at hc hd hc2 hd2
  subst hc hd hc2 hd2
  exact concat_meets ⟨_, ho, rfl⟩ ⟨_, ho2, rfl⟩ noFill_tuple_add seq_tuple_add PySem.F.slot_tuple_add PySem.F.entry_tuple_add (PySem.F.args_tuple_add_2 _ _)
      (tuple_addW0 t b ([] : List Value).toArray ws.toArray n n2 dd dd2 sl sl2 (by simp)) ⟨ho, ho2, h1⟩
def rCat0 (K : PySem.W.Frag) : R2 := fun x y H Q => ∃ a b ys, x = .ref a ∧ y = .ref b ∧ SqT K H a [] ∧ SqT K H b ys ∧ Q (.ref b) H
theorem op_cat0 : OpR X (binaryOp .Add) (rCat0 X.K) := by
  intro pins s σ H x y v u Q I rx ry h
  obtain ⟨a, b, ys, rfl, rfl, ha, hb, q⟩ := h
  cases rx
  cases ry
  obtain ⟨its, r1, p1, _⟩ := I.tuple ha
  obtain ⟨its2, r2, p2, _⟩ := I.tuple hb
  cases r1
  exact cat_tup0 p1 p2 ⟨.ref b, H, I, rfl, q⟩

theorem dra_nil {F : Hp} {xs : List V} {K : PySem.W.Frag} (h : DRA K F xs []) : xs = [] := by cases h; rfl
theorem opAdd (hK : X.K = T.K) : OpR X (binaryOp .Add) (r2 T bAdd) := by
  have c0 := op_cat0 (X := X)
  have c1 := op_catT (X := X)
  rw [hK] at c0 c1
  refine OpR.imp (op_add.or (op_add_str.or (op_cat.or (c0.or c1)))) fun x y H Q h => ?_
  obtain ⟨w, st, wx, wy, P, rfl, r, hx, hy, hb, q⟩ := h
  have two : ∀ {xs ys : List PyData}, asL st wx = some xs → asL st wy = some ys → xs.length + ys.length ≤ sizeLine → P (.d (.list (xs ++ ys))) → rCat x y w.H Q := fun {xs ys} ex ey hz p => by
    obtain ⟨a, vs, e1, h1, d1⟩ := hx.asL r ex
    obtain ⟨b, us, e2, h2, d2⟩ := hy.asL r ey
    exact ⟨a, b, vs, us, e1, e2, h1, h2, by rw [d1.length, d2.length]; exact hz, fun p' n => q.lst r (d1.app d2) p n⟩
  unfold bAdd at hb
  split at hb
  · obtain ⟨j, rfl, p⟩ := onI_iff hb
    exact .inl ⟨_, _, hx.int, hy.int, q.here r (.ofInt _) p⟩
  · split at hb
    · rename_i _ xs _ ys
      obtain ⟨hz, p⟩ := hb
      obtain ⟨a, vs, e1, h1, d1⟩ := hx.tup
      obtain ⟨b, us, e2, h2, d2⟩ := hy.tup
      by_cases en : xs = []
      · subst en
        cases dra_nil d1
        exact .inr (.inr (.inr (.inl ⟨a, b, us, e1, e2, r.sub.sqT h1, r.sub.sqT h2, q.here r (.d (.tup h2 d2)) p⟩)))
      · refine .inr (.inr (.inr (.inr ⟨a, b, vs, us, e1, e2, r.sub.sqT h1, r.sub.sqT h2, fun z => en ?_, by rw [d1.length, d2.length]; exact hz, fun z => ?_, fun z p' n => q.tup r (d1.app d2) p n⟩)))
        · subst z; have := d1.length; simp at this; exact List.eq_nil_of_length_eq_zero this.symm
        · subst z
          have : ys = [] := by have := d2.length; simp at this; exact List.eq_nil_of_length_eq_zero this.symm
          subst this
          exact q.here r (.d (.tup h1 d1)) (by simpa using p)
    · exact hb.elim
  · split at hb
    · obtain ⟨hz, p⟩ := hb
      exact .inr (.inl ⟨_, _, hx.str, hy.str, hz, q.here r (.ofStr _) p⟩)
    · exact hb.elim
  · split at hb
    · rename_i t ks t' ks'
      obtain ⟨rfl, rfl, hz, p⟩ := hb
      cases hx with
      | fll h1 =>
        cases hy with
        | fll h2 =>
          refine .inr (.inr (.inl ⟨_, _, _, _, rfl, rfl, r.sub _ _ h1, r.sub _ _ h2, by simpa using hz, fun a n => ?_⟩))
          have := q.fl r p n
          rwa [List.map_append] at this
    · exact hb.elim
  · obtain ⟨xs, ex, hb⟩ := onL_iff hb
    obtain ⟨ys, ey, hz, p⟩ := onL_iff hb
    exact .inr (.inr (.inl (two ex ey hz p)))

theorem on2I_iff {x y : W} {f : Int → Int → Prop} (h : on2I x y f) : ∃ i j, x = .d (.int i) ∧ y = .d (.int j) ∧ f i j := by
  obtain ⟨i, e, h⟩ := onI_iff h
  obtain ⟨j, e', h⟩ := onI_iff h
  exact ⟨i, j, e, e', h⟩
theorem MulOk.ok {i j : Int} (h : MulOk i j) : IntMulOk i j := by
  rcases h with h | ⟨h1, h2⟩
  · exact h.ok
  · exact CMulW.ok (show i.natAbs.log2 + j.natAbs.log2 < 1000000 by unfold Small at h1 h2; omega)
theorem op_mulA : OpR X (binaryOp .Mult) (rI MulOk fun i j => .int (i * j)) := opI fun _ _ _ _ _ _ _ hc q => mul_int q hc.ok
theorem op_fdivA : OpR X (binaryOp .FloorDiv) (rI (fun _ j => DivOk j) fun i j => .int (i / j)) := opI fun i j _ _ _ _ _ hc q => by
  have h1 : (0 : Int) < j := hc.1
  refine floordiv_int (by omega) (by rw [Int.fdiv_eq_ediv_of_nonneg i (by omega)]; exact q) (.inl ?_)
  rcases hc.2 with h | h
  · exact PyProof.noPylong_small (by omega)
  · exact PyProof.noPylong_of_log2 (by unfold Small at h; omega)

theorem opB (o : Operator) (hK : X.K = T.K) : OpR X (binaryOp o) (r2 T (bop o)) := by
  have no : ∀ {o}, (∀ x y st P, bop o x y st P → False) → OpR X (binaryOp o) (r2 T (bop o)) := fun hn pins s σ H x y v u Q I rx ry h => by
    obtain ⟨w, st, wx, wy, P, e, r, hx, hy, hb, q⟩ := h
    exact (hn _ _ _ _ hb).elim
  cases o with
  | Add => exact opAdd hK
  | Sub =>
    refine OpR.imp op_sub fun x y H Q h => ?_
    obtain ⟨w, st, wx, wy, P, rfl, r, hx, hy, hb, q⟩ := h
    obtain ⟨i, j, rfl, rfl, p⟩ := on2I_iff (show on2I _ _ _ from hb)
    exact ⟨_, _, hx.int, hy.int, q.here r (.ofInt _) p⟩
  | Mult =>
    refine OpR.imp (op_mulA.or op_rep) fun x y H Q h => ?_
    obtain ⟨w, st, wx, wy, P, rfl, r, hx, hy, hb, q⟩ := h
    have hb : bMul wx wy st P := hb
    unfold bMul at hb
    split at hb
    · obtain ⟨j, rfl, c, p⟩ := onI_iff hb
      exact .inl ⟨_, _, hx.int, hy.int, c, q.here r (.ofInt _) p⟩
    · obtain ⟨xs, ex, hb⟩ := onL_iff hb
      obtain ⟨k, rfl, h1, h2, h3, p⟩ := onI_iff hb
      obtain ⟨a, vs, e1, hh, d1⟩ := hx.asL r ex
      exact .inr ⟨a, k, vs, e1, hy.int, hh, h1, h2, by rw [d1.length]; exact h3, fun a n => q.lst r (d1.rep _) p n⟩
  | FloorDiv =>
    refine OpR.imp op_fdivA fun x y H Q h => ?_
    obtain ⟨w, st, wx, wy, P, rfl, r, hx, hy, hb, q⟩ := h
    obtain ⟨i, j, rfl, rfl, c, p⟩ := on2I_iff (show on2I _ _ _ from hb)
    exact ⟨_, _, hx.int, hy.int, c, q.here r (.ofInt _) p⟩
  | Mod =>
    refine OpR.imp op_mod fun x y H Q h => ?_
    obtain ⟨w, st, wx, wy, P, rfl, r, hx, hy, hb, q⟩ := h
    obtain ⟨i, j, rfl, rfl, c, p⟩ := on2I_iff (show on2I _ _ _ from hb)
    exact ⟨_, _, hx.int, hy.int, c, q.here r (.ofInt _) p⟩
  | Pow =>
    refine OpR.imp op_pow fun x y H Q h => ?_
    obtain ⟨w, st, wx, wy, P, rfl, r, hx, hy, hb, q⟩ := h
    obtain ⟨i, j, rfl, rfl, c, p⟩ := on2I_iff (show on2I _ _ _ from hb)
    exact ⟨_, _, hx.int, hy.int, c, q.here r (.ofInt _) p⟩
  | _ => exact no fun _ _ _ _ h => h

/-! ## comparisons -/
def c2 (f : W → W → Store → (Bool → Prop) → Prop) : W → W → Store → (W → Prop) → Prop := fun x y s P => f x y s fun t => P (.d (.bool t))
theorem data_op {op : CmpOp} (f : PyData → PyData → Bool) (ok : PyData → PyData → Prop)
    (rule : ∀ (prog : Program) (w : World) (A : Around) (E : Value → Shared → Prop) (s : Shared) (a b : Value) (da db : PyData) (as bs : List Addr) (Q : Value → Shared → Prop), A.units + 60 < cLine → Reads s.heap a da as → Reads s.heap b db bs → ok da db → Q (.bool (f da db)) s → wpAny (model prog w) A (compareOp op a b) Q E s)
    (hu : X.A.units + 60 < cLine) : OpR X (compareOp op) (fun x y H Q => ∃ d e, Dp X.K H x d ∧ Dp X.K H y e ∧ ok d e ∧ Q (.bl (f d e)) H) := by
  intro pins s σ H x y v u Q I rx ry h
  obtain ⟨d, e, hd, he, k, q⟩ := h
  obtain ⟨as, r1⟩ := Dp.reads I d x v hd rx
  obtain ⟨bs, r2⟩ := Dp.reads I e y u he ry
  exact rule _ _ _ _ _ _ _ _ _ _ _ _ hu r1 r2 k ⟨.bl _, H, I, rfl, q⟩
theorem op_eqP (hu : X.A.units + 60 < cLine) : OpR X (compareOp .Eq) (fun x y H Q => ∃ d e, Dp X.K H x d ∧ Dp X.K H y e ∧ eqOk d e ∧ Q (.bl (PyData.eqv d e)) H) :=
  data_op _ _ (fun prog w A E s a b da db as bs Q hu r1 r2 k q => SeqAt.eq_plain r1 r2 k.1 k.2.1 (by have := k.2.2; omega) q) hu
theorem op_neP (hu : X.A.units + 60 < cLine) : OpR X (compareOp .NotEq) (fun x y H Q => ∃ d e, Dp X.K H x d ∧ Dp X.K H y e ∧ eqOk d e ∧ Q (.bl (!PyData.eqv d e)) H) :=
  data_op (fun d e => !PyData.eqv d e) _ (fun prog w A E s a b da db as bs Q hu r1 r2 k q => SeqAt.ne_plain r1 r2 k.1 k.2.1 (by have := k.2.2; omega) q) hu
theorem op_ltP (hu : X.A.units + 60 < cLine) : OpR X (compareOp .Lt) (fun x y H Q => ∃ d e, Dp X.K H x d ∧ Dp X.K H y e ∧ ltOk d e ∧ Q (.bl (PySem.W.dataLt d e)) H) :=
  data_op _ _ (fun prog w A E s a b da db as bs Q hu r1 r2 k q => PySem.W.lt_data r1 r2 k.1 k.2.1 (by have := k.2.2; omega) q) hu
theorem op_leP (hu : X.A.units + 60 < cLine) : OpR X (compareOp .LtE) (fun x y H Q => ∃ d e, Dp X.K H x d ∧ Dp X.K H y e ∧ ltOk d e ∧ Q (.bl (!PySem.W.dataLt e d)) H) :=
  data_op (fun d e => !PySem.W.dataLt e d) _ (fun prog w A E s a b da db as bs Q hu r1 r2 k q => PySem.W.le_data r1 r2 k.1 k.2.1 (by have := k.2.2; omega) q) hu
theorem op_gtP (hu : X.A.units + 60 < cLine) : OpR X (compareOp .Gt) (fun x y H Q => ∃ d e, Dp X.K H x d ∧ Dp X.K H y e ∧ ltOk d e ∧ Q (.bl (PySem.W.dataLt e d)) H) :=
  data_op (fun d e => PySem.W.dataLt e d) _ (fun prog w A E s a b da db as bs Q hu r1 r2 k q => PySem.W.gt_data r1 r2 k.1 k.2.1 (by have := k.2.2; omega) q) hu
theorem op_geP (hu : X.A.units + 60 < cLine) : OpR X (compareOp .GtE) (fun x y H Q => ∃ d e, Dp X.K H x d ∧ Dp X.K H y e ∧ ltOk d e ∧ Q (.bl (!PySem.W.dataLt d e)) H) :=
  data_op (fun d e => !PySem.W.dataLt d e) _ (fun prog w A E s a b da db as bs Q hu r1 r2 k q => PySem.W.ge_data r1 r2 k.1 k.2.1 (by have := k.2.2; omega) q) hu
theorem op_inP (hu : X.A.units + 61 < cLine) : OpR X (compareOp .In) (fun x y H Q => ∃ d xs, Dp X.K H x d ∧ (Dp X.K H y (.list xs) ∨ Dp X.K H y (.tuple xs)) ∧ inOk d xs ∧ Q (.bl (xs.any fun y => PyData.eqv y d)) H) := by
  intro pins s σ H x y v u Q I rx ry h
  obtain ⟨d, xs, hd, he, k, q⟩ := h
  obtain ⟨as, r1⟩ := Dp.reads I d x v hd rx
  rcases he with he | he
  · obtain ⟨bs, r2⟩ := Dp.reads I _ y u he ry
    exact SeqAt.in_list_data r2 r1 k.1 k.2.1 (by have := k.2.2; omega) ⟨.bl _, H, I, rfl, q⟩
  · obtain ⟨bs, r2⟩ := Dp.reads I _ y u he ry
    exact SeqAt.in_tuple_data r2 r1 k.1 k.2.1 (by have := k.2.2; omega) ⟨.bl _, H, I, rfl, q⟩
theorem op_ninP (hu : X.A.units + 61 < cLine) : OpR X (compareOp .NotIn) (fun x y H Q => ∃ d xs, Dp X.K H x d ∧ (Dp X.K H y (.list xs) ∨ Dp X.K H y (.tuple xs)) ∧ inOk d xs ∧ Q (.bl (!xs.any fun y => PyData.eqv y d)) H) := by
  intro pins s σ H x y v u Q I rx ry h
  obtain ⟨d, xs, hd, he, k, q⟩ := h
  obtain ⟨as, r1⟩ := Dp.reads I d x v hd rx
  rcases he with he | he
  · obtain ⟨bs, r2⟩ := Dp.reads I _ y u he ry
    exact SeqAt.notIn_list_data r2 r1 k.1 k.2.1 (by have := k.2.2; omega) ⟨.bl _, H, I, rfl, q⟩
  · obtain ⟨bs, r2⟩ := Dp.reads I _ y u he ry
    exact SeqAt.notIn_tuple_data r2 r1 k.1 k.2.1 (by have := k.2.2; omega) ⟨.bl _, H, I, rfl, q⟩

def cGen (g : Int → Int → Bool) (f : PyData → PyData → Bool) (ok : PyData → PyData → Prop) (a b : W) (st : Store) (Q : Bool → Prop) : Prop := match a, b with
  | .d (.int i), .d (.int j) => Q (g i j)
  | a, b => onD st a fun x => onD st b fun y => ok x y ∧ Q (f x y)
/-- what an ordering or an equality has shown: two ints, or data -/
theorem cmp_cases {w : Wo} {st : Store} {x y : V} {wx wy : W} {g : Int → Int → Bool} {f : PyData → PyData → Bool} {ok : PyData → PyData → Prop} {Q : Bool → Prop} (r : Rel T.K w st) (hx : WR T w x wx) (hy : WR T w y wy)
    (h : cGen g f ok wx wy st Q) :
    (∃ i j, x = .int i ∧ y = .int j ∧ Q (g i j)) ∨ ∃ d e, Dp T.K w.H x d ∧ Dp T.K w.H y e ∧ ok d e ∧ Q (f d e) := by
  unfold cGen at h
  split at h
  · exact .inl ⟨_, _, hx.int, hy.int, h⟩
  · obtain ⟨d, e1, h⟩ := onD_iff h
    obtain ⟨e, e2, k, h⟩ := onD_iff h
    exact .inr ⟨d, e, hx.asD r e1, hy.asD r e2, k, h⟩
theorem eq_cases {w : Wo} {st : Store} {x y : V} {wx wy : W} {Q : Bool → Prop} (r : Rel T.K w st) (hx : WR T w x wx) (hy : WR T w y wy) (h : cEq wx wy st Q) :
    ∃ d e, Dp T.K w.H x d ∧ Dp T.K w.H y e ∧ eqOk d e ∧ Q (PyData.eqv d e) := by
  unfold cEq at h
  split at h
  · rename_i i j
    refine ⟨.int i, .int j, by rw [hx.int]; exact .int i, by rw [hy.int]; exact .int j, ⟨rfl, rfl, by simp [PyData.depth]⟩, ?_⟩
    have : PyData.eqv (.int i) (.int j) = decide (i = j) := by show (i == j) = _; by_cases z : i = j <;> simp [z]
    rw [this]; exact h
  · rename_i i j
    exact ⟨.bool i, .bool j, by rw [hx.bool]; exact .bl i, by rw [hy.bool]; exact .bl j, ⟨rfl, rfl, by simp [PyData.depth]⟩, h⟩
  · obtain ⟨d, e1, h⟩ := onD_iff h
    obtain ⟨e, e2, k, h⟩ := onD_iff h
    exact ⟨d, e, hx.asD r e1, hy.asD r e2, k, h⟩
theorem in_cases {w : Wo} {st : Store} {x y : V} {wx wy : W} {Q : Bool → Prop} (r : Rel T.K w st) (hx : WR T w x wx) (hy : WR T w y wy) (h : cIn wx wy st Q) :
    ∃ d xs, Dp T.K w.H x d ∧ (Dp T.K w.H y (.list xs) ∨ Dp T.K w.H y (.tuple xs)) ∧ inOk d xs ∧ Q (xs.any fun y => PyData.eqv y d) := by
  obtain ⟨d, e1, h⟩ := onD_iff (show onD _ _ _ from h)
  obtain ⟨xs, e2, k, h⟩ := onQ_iff h
  obtain ⟨a, vs, rfl, o, dr⟩ := hy.asQ r e2
  refine ⟨d, xs, hx.asD r e1, ?_, k, h⟩
  rcases o with o | o
  · exact .inl (.lst (.of o) (DRA.dp _ (DRA.mono r.sub _ dr)))
  · exact .inr (.tup o (DRA.dp _ (DRA.mono r.sub _ dr)))
theorem is_cases {w : Wo} {st : Store} {x y : V} {wx wy : W} {Q : Bool → Prop} (hx : WR T w x wx) (hy : WR T w y wy) (h : cIs wx wy Q) :
    (y = .non ∧ Q (decide (x = .non))) ∨ ∃ a b : Bool, x = .bl a ∧ y = .bl b ∧ Q (decide (a = b)) := by
  unfold cIs at h
  split at h
  · cases hy with
    | d hy =>
      cases hy
      refine .inl ⟨rfl, ?_⟩
      have : isN wx = decide (x = V.non) := by
        cases hx with
        | d hx => cases hx <;> simp [isN]
        | _ => simp [isN]
      rw [← this]; exact h
  · obtain ⟨i, rfl, h⟩ := onB_iff h
    rename_i j _
    refine .inr ⟨_, _, hx.bool, hy.bool, ?_⟩
    have : decide (i = j) = (i == j) := by cases i <;> cases j <;> rfl
    rw [this]; exact h
  · exact h.elim

theorem opC (o : CmpOp) (hK : X.K = T.K) (hu : X.A.units + 61 < cLine) : OpR X (compareOp o) (r2 T (c2 (cop o))) := by
  have hu' : X.A.units + 60 < cLine := by omega
  have cmp : ∀ {op : CmpOp} {g : Int → Int → Bool} {f : PyData → PyData → Bool} {c : W → W → Store → (Bool → Prop) → Prop}, OpR X (compareOp op) (rI0 fun i j => .bl (g i j)) →
      OpR X (compareOp op) (fun x y H Q => ∃ d e, Dp X.K H x d ∧ Dp X.K H y e ∧ ltOk d e ∧ Q (.bl (f d e)) H) →
      (∀ wx wy st Q, c wx wy st Q → cGen g f ltOk wx wy st Q) → OpR X (compareOp op) (r2 T (c2 c)) := fun {op g f c} h1 h2 hc => by
    refine OpR.imp (h1.or h2) fun x y H Q h => ?_
    obtain ⟨w, st, wx, wy, P, rfl, r, hx, hy, hb, q⟩ := h
    rcases cmp_cases r hx hy (hc _ _ _ _ hb) with ⟨i, j, e1, e2, p⟩ | ⟨d, e, e1, e2, k, p⟩
    · exact .inl ⟨i, j, e1, e2, q.here r (.ofBool _) p⟩
    · rw [← hK] at e1 e2
      exact .inr ⟨d, e, e1, e2, k, q.here r (.ofBool _) p⟩
  cases o with
  | Lt => exact cmp op_lt (op_ltP hu') fun _ _ _ _ h => h
  | LtE => exact cmp (f := fun d e => !PySem.W.dataLt e d) op_le (op_leP hu') fun _ _ _ _ h => h
  | Gt => exact cmp (g := fun i j => decide (j < i)) (f := fun d e => PySem.W.dataLt e d) op_gt (op_gtP hu') fun _ _ _ _ h => h
  | GtE => exact cmp (g := fun i j => decide (j ≤ i)) (f := fun d e => !PySem.W.dataLt d e) op_ge (op_geP hu') fun _ _ _ _ h => h
  | Eq =>
    refine OpR.imp (op_eqP hu') fun x y H Q h => ?_
    obtain ⟨w, st, wx, wy, P, rfl, r, hx, hy, hb, q⟩ := h
    obtain ⟨d, e, e1, e2, k, p⟩ := eq_cases r hx hy (show cEq _ _ _ (fun t => P (.d (.bool t))) from hb)
    rw [← hK] at e1 e2
    exact ⟨d, e, e1, e2, k, q.here r (.ofBool _) p⟩
  | NotEq =>
    refine OpR.imp (op_neP hu') fun x y H Q h => ?_
    obtain ⟨w, st, wx, wy, P, rfl, r, hx, hy, hb, q⟩ := h
    obtain ⟨d, e, e1, e2, k, p⟩ := eq_cases r hx hy (show cEq _ _ _ (fun t => P (.d (.bool (!t)))) from hb)
    rw [← hK] at e1 e2
    exact ⟨d, e, e1, e2, k, q.here r (.ofBool _) p⟩
  | In =>
    refine OpR.imp (op_inP hu) fun x y H Q h => ?_
    obtain ⟨w, st, wx, wy, P, rfl, r, hx, hy, hb, q⟩ := h
    obtain ⟨d, e, e1, e2, k, p⟩ := in_cases r hx hy (show cIn _ _ _ (fun t => P (.d (.bool t))) from hb)
    rw [← hK] at e1 e2
    exact ⟨d, e, e1, e2, k, q.here r (.ofBool _) p⟩
  | NotIn =>
    refine OpR.imp (op_ninP hu) fun x y H Q h => ?_
    obtain ⟨w, st, wx, wy, P, rfl, r, hx, hy, hb, q⟩ := h
    obtain ⟨d, e, e1, e2, k, p⟩ := in_cases r hx hy (show cIn _ _ _ (fun t => P (.d (.bool (!t)))) from hb)
    rw [← hK] at e1 e2
    exact ⟨d, e, e1, e2, k, q.here r (.ofBool _) p⟩
  | Is =>
    refine OpR.imp (op_isN.or op_isBl) fun x y H Q h => ?_
    obtain ⟨w, st, wx, wy, P, rfl, r, hx, hy, hb, q⟩ := h
    rcases is_cases (st := st) hx hy (show cIs _ _ (fun t => P (.d (.bool t))) from hb) with ⟨e, p⟩ | ⟨a, b, e1, e2, p⟩
    · exact .inl ⟨e, q.here r (.ofBool _) p⟩
    · exact .inr ⟨a, b, e1, e2, q.here r (.ofBool _) p⟩
  | IsNot =>
    refine OpR.imp (op_notN.or op_notBl) fun x y H Q h => ?_
    obtain ⟨w, st, wx, wy, P, rfl, r, hx, hy, hb, q⟩ := h
    rcases is_cases (st := st) hx hy (show cIs _ _ (fun t => P (.d (.bool (!t)))) from hb) with ⟨e, p⟩ | ⟨a, b, e1, e2, p⟩
    · exact .inl ⟨e, q.here r (.ofBool _) p⟩
    · exact .inr ⟨a, b, e1, e2, q.here r (.ofBool _) p⟩
end
end Z
namespace Z
open PySem PySem.Spec PyProof.Rows L2

/-! ## truth, places, slices, built-ins, by values -/
section
variable {T : Tab} {X : Cx}

theorem tru_cases {w : Wo} {st : Store} {x : V} {wx : W} {Q : Bool → Prop} (r : Rel T.K w st) (hx : WR T w x wx) (h : wTr wx st Q) : ∃ k, TruV T.K x w.H k ∧ Q k := by
  unfold wTr at h
  split at h
  · cases hx with | d hx => cases hx; exact ⟨_, rfl, h⟩
  · rw [hx.bool]; exact ⟨_, rfl, h⟩
  · rw [hx.int]; exact ⟨_, rfl, h⟩
  · rw [hx.str]; exact ⟨_, ⟨h.1, rfl⟩, h.2⟩
  · obtain ⟨a, xs, rfl, h1, d1⟩ := hx.tup
    refine ⟨_, .inr (.inl ⟨xs, r.sub.sqT h1, ?_⟩), h⟩
    have := d1.length
    rename_i l
    cases xs <;> cases l <;> simp_all
  · obtain ⟨xs, e, h⟩ := onL_iff h
    obtain ⟨a, vs, rfl, h1, d1⟩ := hx.asL r e
    refine ⟨_, .inl ⟨vs, .of h1, ?_⟩, h⟩
    have := d1.length
    cases vs <;> cases xs <;> simp_all

theorem fl_get {ks : List Nat} {fa : Nat → Addr} {i : Int} {k : Nat} (h : atI ks i = some k) : atI (ks.map fun k => V.ref (fa k)) i = some (V.ref (fa k)) := by
  unfold atI at h ⊢
  rw [List.length_map]
  cases e : ixN ks.length i with
  | none => rw [e] at h; cases h
  | some j =>
    rw [e] at h
    show (ks.map _)[j]? = _
    rw [List.getElem?_map, show ks[j]? = some k from h]; rfl
theorem dra_at {F : Hp} {K : PySem.W.Frag} {vs : List V} {ds : List PyData} (h : DRA K F vs ds) {i : Int} {d : PyData} (e : atI ds i = some d) : ∃ v, atI vs i = some v ∧ DR K F v d := by
  unfold atI at e ⊢
  rw [h.length]
  cases q : ixN ds.length i with
  | none => rw [q] at e; cases e
  | some j => rw [q] at e; exact h.get e
theorem opIdx (hK : X.K = T.K) : IxR X (r2 T idxW) := by
  have c1 := (ix_list (X := X)).or (ix_tup (X := X))
  rw [hK] at c1
  intro value slice pins s σ H x y v u Q I rx ry h hs
  refine c1 value slice pins s σ H x y v u Q I rx ry ?_ hs
  obtain ⟨w, st, wx, wy, P, rfl, r, hx, hy, hb, q⟩ := h
  unfold idxW at hb
  split at hb
  · obtain ⟨i, rfl, hb2⟩ := onI_iff hb
    split at hb2
    · rename_i k e
      cases hx with
      | fll h1 => exact .inl ⟨_, _, i, _, rfl, hy.int, .of (r.sub _ _ h1), fl_get e, q.here r (.fn _) hb2⟩
      | flt h1 => exact .inr ⟨_, _, i, _, rfl, hy.int, r.sub.sqT h1, fl_get e, q.here r (.fn _) hb2⟩
    · exact hb2.elim
  · obtain ⟨i, rfl, hb2⟩ := onI_iff hb
    obtain ⟨xs, ex, hb⟩ := onQ_iff hb2
    split at hb
    · rename_i d e
      obtain ⟨a, vs, rfl, o, dr⟩ := hx.asQ r ex
      obtain ⟨v, ev, dv⟩ := dra_at dr e
      rcases o with o | o
      · exact .inl ⟨a, vs, i, v, rfl, hy.int, .of o, ev, q.here r (.d dv) hb⟩
      · exact .inr ⟨a, vs, i, v, rfl, hy.int, o, ev, q.here r (.d dv) hb⟩
    · exact hb.elim

/-- the whole of a tuple is itself -/
theorem getItem_tuple_whole {prog : Program} {w : World} {A : Around} {E : Value → Shared → Prop} {s : Shared} {t sl : Addr} {items : Array Value} {vl vu : Value} {lo hi : Option Int} {Q : Value → Shared → Prop} (ht : IsTup s.heap t items) (hs : s.heap.IsSliceOf sl vl vu .none) (pl : IsPart vl lo) (pu : IsPart vu hi)
    (hw : HT.sIx items.size 0 lo = 0 ∧ HT.sIx items.size items.size hi = items.size) (h : Q (.ref t) s) : wpAny (model prog w) A (getItem (.ref t) (.ref sl)) Q E s := by
  obtain ⟨os, hos, hcs, hds⟩ := id hs
  have hTs : s.TypeIs (.ref sl) "slice" := ⟨os, hos, hcs⟩
  unfold getItem
  try with_reducible refine wpAny_holding ?_
  first | refine wpAny_bind (wpAny_pure ?_) | skip
  refine wpAny_bind (wpAny_sequenceKey ht.typeIs (by decide) ?_)
  refine wpAny_bind (wpAny_callSpecial?_slot (name := Str.ofString "__getitem__") ht.typeIs PyProof.Rows.slot_tuple_getitem
    (wpAny_call_entry PyProof.Rows.slot_tuple_getitem ht.typeIs entry_tuple_getitem ?_ (args_tuple_getitem _ _)))
  show wpAny _ _ (Builtin.Tuple.tupleItemsOf (.ref t) >>= _) _ _ s
  refine wpAny_bind (tupleItemsOf_ ht ?_)
  refine wpAny_bind (wpAny_typeOf hTs ?_)
  rw [if_pos (by decide)]
  refine wpAny_bind (HT.sliceApplied_gen hs pl pu ?_)
  have hyes : ((((HT.sIx items.size 0 lo : Nat) : Int) == 0 && (1 : Int) == 1 && (HT.sIx items.size items.size hi - HT.sIx items.size 0 lo) == items.size) = true) := by
    rw [hw.1, hw.2]; simp
  show wpAny _ _ (if (((HT.sIx items.size 0 lo : Nat) : Int) == 0 && (1 : Int) == 1 && (HT.sIx items.size items.size hi - HT.sIx items.size 0 lo) == items.size) = true then _ else _) _ _ s
  rw [if_pos hyes]
  refine wpAny_bind ?_
  unfold Builtin.Tuple.tupleIsExact
  refine wpAny_bind (wpAny_typeOf ht.typeIs ?_)
  refine wpAny_pure ?_
  rw [if_pos (by decide)]
  refine wpAny_bind (wpAny_rule ?_)
  refine wpAny_pure ?_
  exact ⟨_, rfl, wpAny_pure h⟩

def r3 (T : Tab) (f : W → Option Int → Option Int → Store → (W → Prop) → Prop) : V → Option Int → Option Int → Hp → VK → Prop := fun x lo hi H Q => ∃ (w : Wo) (st : Store) (wx : W) (P : W → Prop), w.H = H ∧ Rel T.K w st ∧ WR T w x wx ∧ f wx lo hi st P ∧ Res T w st P Q
theorem SlR.imp {r r' : V → Option Int → Option Int → Hp → VK → Prop} (h : SlR X r) (i : ∀ x a b H Q, r' x a b H Q → r x a b H Q) : SlR X r' := fun pins s σ H x v vl vu lo hi sl Q I rx hs pl pu q => h pins s σ H x v vl vu lo hi sl Q I rx hs pl pu (i _ _ _ _ _ q)
def rSlW (K : PySem.W.Frag) : V → Option Int → Option Int → Hp → VK → Prop := fun x lo hi H Q => ∃ a xs, x = .ref a ∧ SqT K H a xs ∧ (HT.sIx xs.length 0 lo = 0 ∧ HT.sIx xs.length xs.length hi = xs.length) ∧ Q (.ref a) H
theorem sl_tupW : SlR X (rSlW X.K) := by
  intro pins s σ H x v vl vu lo hi sl Q I rx hs pl pu h
  obtain ⟨a, xs, rfl, hx, hw, q⟩ := h
  cases rx
  obtain ⟨its, r, ht, hz⟩ := I.tuple hx
  have hlen : its.toArray.size = xs.length := by rw [List.size_toArray]; exact r.length.symm
  refine ⟨"tuple", _, PyProof.Rows.slot_tuple_getitem.lookup, ht.typeIs, ?_⟩
  exact getItem_tuple_whole ht hs pl pu (by rw [hlen]; exact hw) ⟨.ref a, H, I, rfl, q⟩
theorem dra_cut {F : Hp} {K : PySem.W.Frag} {vs : List V} {ds : List PyData} (h : DRA K F vs ds) (lo hi : Option Int) : DRA K F (cutV vs lo hi) (cutD ds lo hi) := by
  unfold cutV cutD
  rw [h.length]
  exact (h.drop _).take _
theorem opSlc (hK : X.K = T.K) : SlR X (r3 T slcW) := by
  have c1 := (sl_list (X := X)).or ((sl_tupW (X := X)).or (sl_tup (X := X)))
  rw [hK] at c1
  refine SlR.imp c1 fun x lo hi H Q h => ?_
  obtain ⟨w, st, wx, P, rfl, r, hx, hb, q⟩ := h
  unfold slcW at hb
  split at hb
  · rename_i xs
    obtain ⟨a, vs, rfl, h1, d1⟩ := hx.tup
    have dc := dra_cut d1 lo hi
    by_cases c : HT.sIx vs.length 0 lo = 0 ∧ HT.sIx vs.length vs.length hi = vs.length
    · refine .inr (.inl ⟨a, vs, rfl, r.sub.sqT h1, c, ?_⟩)
      have e : cutD xs lo hi = xs := by
        unfold cutD
        rw [← d1.length, c.1, c.2]; simp [d1.length]
      rw [e] at hb
      exact q.here r (.d (.tup h1 d1)) hb
    · exact .inr (.inr ⟨a, vs, rfl, r.sub.sqT h1, c, fun p n => q.tup r dc hb n⟩)
  · obtain ⟨xs, e, hb2⟩ := onL_iff hb
    obtain ⟨a, vs, rfl, h1, d1⟩ := hx.asL r e
    exact .inl ⟨a, vs, rfl, .of h1, fun p n => q.lst r (dra_cut d1 lo hi) hb2 n⟩

/-- displays -/
theorem dats_dra {w : Wo} : ∀ {vs : List V} {ws : List W} {ds : List PyData}, WRs T w vs ws → dats ws = some ds → DRA T.K w.F vs ds
  | [], [], _, _, e => by simp [dats] at e; subst e; exact .nil
  | v :: vs, x :: xs, ds, h, e => by
    obtain ⟨h1, h2⟩ := h
    cases h1 with
    | d h1 =>
      simp only [dats, Option.map_eq_some_iff] at e
      obtain ⟨es, e1, e2⟩ := e
      subst e2
      exact .cons h1 (dats_dra h2 e1)
    | _ => simp [dats] at e
  | [], _ :: _, _, h, _ => h.elim
  | _ :: _, [], _, h, _ => h.elim
theorem fns_vs {w : Wo} : ∀ {vs : List V} {ws : List W} {ks : List Nat}, WRs T w vs ws → fns ws = some ks → vs = ks.map fun k => V.ref (T.fa k)
  | [], [], _, _, e => by simp [fns] at e; subst e; rfl
  | v :: vs, x :: xs, ds, h, e => by
    obtain ⟨h1, h2⟩ := h
    cases h1 with
    | fn k =>
      simp only [fns, Option.map_eq_some_iff] at e
      obtain ⟨es, e1, e2⟩ := e
      subst e2
      rw [fns_vs h2 e1]; rfl
    | _ => simp [fns] at e
  | [], _ :: _, _, h, _ => h.elim
  | _ :: _, [], _, h, _ => h.elim
theorem mkT_res {w : Wo} {st : Store} {P : W → Prop} {Q : VK} {vs : List V} {ws : List W} (r : Rel T.K w st) (h : WRs T w vs ws) (q : Res T w st P Q) (m : mkT ws P) : vs.length ≤ sizeLine ∧ ∀ p, w.H p = none → Q (.ref p) (upd w.H p (.tup vs)) := by
  unfold mkT at m
  rw [h.length]
  split at m
  · exact ⟨m.1, fun p n => q.tup r (dats_dra h (by assumption)) m.2 n⟩
  · split at m
    · refine ⟨m.1, fun p n => ?_⟩
      rw [fns_vs h (by assumption)]
      exact q.ft r m.2 n
    · exact m.elim
theorem mkL_res {w : Wo} {st : Store} {P : W → Prop} {Q : VK} {vs : List V} {ws : List W} (r : Rel T.K w st) (h : WRs T w vs ws) (q : Res T w st P Q) (m : mkL ws P) : vs.length ≤ sizeLine ∧ ∀ p, w.H p = none → Q (.ref p) (upd w.H p (.lst vs)) := by
  unfold mkL at m
  rw [h.length]
  split at m
  · exact ⟨m.1, fun p n => q.lst r (dats_dra h (by assumption)) m.2 n⟩
  · split at m
    · refine ⟨m.1, fun p n => ?_⟩
      rw [fns_vs h (by assumption)]
      exact q.fl r m.2 n
    · exact m.elim

/-- sorted -/
def rSrt (K : PySem.W.Frag) : List V → Hp → VK → Prop := fun vs H Q => ∃ (a : Addr) (xs : List V) (ds : List PyData) (G : V → PyData → Prop), vs = [V.ref a] ∧ SqL K H a xs ∧ (∀ v d, G v d → Dp K H v d) ∧ Paired G xs ds ∧ sortOk ds ∧
  ∀ p ys, H p = none → Paired G ys (srt ds) → Q (.ref p) (upd H p (.lst ys))
theorem each_zip {G : V → PyData → Prop} : ∀ {xs : List V} {its : List Value} {ds : List PyData}, Vals xs its → Paired G xs ds → PySem.W.EachIs (fun (u : Value) (b : V × PyData) => RelV b.1 u ∧ G b.1 b.2) its (xs.zip ds)
  | [], _, _, .nil, .nil => .nil
  | _ :: _, _, _, .cons a t, .cons b u => .cons ⟨a, b⟩ (each_zip t u)
theorem zip_snd {G : V → PyData → Prop} : ∀ {xs : List V} {ds : List PyData}, Paired G xs ds → (xs.zip ds).map Prod.snd = ds
  | [], _, .nil => rfl
  | _ :: _, _, .cons _ u => by rw [List.zip_cons_cons, List.map_cons, zip_snd u]
theorem each_fst {G : V → PyData → Prop} : ∀ {out : List Value} {bs : List (V × PyData)}, PySem.W.EachIs (fun (u : Value) (b : V × PyData) => RelV b.1 u ∧ G b.1 b.2) out bs → Vals (bs.map Prod.fst) out ∧ Paired G (bs.map Prod.fst) (bs.map Prod.snd)
  | [], _, .nil => ⟨.nil, .nil⟩
  | _ :: _, _, .cons a t => ⟨.cons a.1 (each_fst t).1, .cons a.2 (each_fst t).2⟩
theorem dra_pr {K : PySem.W.Frag} {F : Hp} : ∀ {xs : List V} {ds : List PyData}, DRA K F xs ds → Paired (DR K F) xs ds
  | [], _, .nil => .nil
  | _ :: _, _, .cons a t => .cons a (dra_pr t)
theorem pr_dra {K : PySem.W.Frag} {F : Hp} : ∀ {xs : List V} {ds : List PyData}, Paired (DR K F) xs ds → DRA K F xs ds
  | [], _, .nil => .nil
  | _ :: _, _, .cons a t => .cons a (pr_dra t)
theorem srt_eq {zs : List (V × PyData)} : (zs.mergeSort (PySem.W.dataLe false Prod.snd)).map Prod.snd = srt (zs.map Prod.snd) := by
  unfold srt
  exact PySem.W.sort_maps (r := PySem.W.dataLe false Prod.snd) (s := PySem.W.dataLe false id) Prod.snd (fun _ _ _ _ => rfl)
theorem crSrt (hu : X.A.units + 62 < cLine) : CallR X (.builtin "sorted") (rSrt X.K) := by
  intro pins s σ H vs us Q I r h
  obtain ⟨a, xs, ds, G, rfl, hs, hG, dp, ok, q⟩ := h
  obtain ⟨its, rv, hl, _⟩ := I.list hs
  rw [Vals.ref1 r]
  have ez := each_zip rv dp
  have sn := zip_snd dp
  have hlen : (xs.zip ds).length = ds.length := by have := congrArg List.length sn; rwa [List.length_map] at this
  refine PySem.W.sorted_data (enc := Prod.snd) (R := fun (u : Value) (b : V × PyData) => RelV b.1 u ∧ G b.1 b.2) hl.isList ez
    (ez.mono fun u b hb => Dp.reads I b.2 b.1 u (hG _ _ hb.2) hb.1) (by rw [sn]; exact ok.1) (by rw [sn]; exact ok.2.1) (by rw [hlen]; exact ok.2.2.1)
    (fun b hb => by have := ok.2.2.2 b.2 (by rw [← sn]; exact List.mem_map_of_mem hb); omega) fun out hol he => ?_
  obtain ⟨ep, he'⟩ := PyProof.Rows.sortedAll_at s.heap its out.toArray
  obtain ⟨v1, d1⟩ := each_fst he
  rw [srt_eq, sn] at d1
  have hz : (((xs.zip ds).mergeSort (PySem.W.dataLe false Prod.snd)).map Prod.fst).length ≤ sizeLine := by
    rw [List.length_map, List.length_mergeSort, hlen]; exact ok.2.2.1
  exact ⟨.ref _, upd H (s.heap.objs.size + 1) (.lst _), I.laid (t' := s.toks) (fun _ _ => PyProof.Rows.sortedAll_old) (Nat.le_succ _) ⟨hz, out, ep, v1, he'⟩, rfl, q _ _ (I.hok.fresh (Nat.le_succ _)) d1⟩

/-- what is data in the heap stays data where it stood: Dp of frozen things -/
theorem mn_mem : ∀ (m : Int) (xs : List Int), mnOf m xs ∈ m :: xs ∧ ∀ y ∈ m :: xs, mnOf m xs ≤ y
  | m, [] => ⟨by simp [mnOf], by simp [mnOf]⟩
  | m, x :: xs => by
    obtain ⟨h1, h2⟩ := mn_mem (if x < m then x else m) xs
    have e : mnOf m (x :: xs) = mnOf (if x < m then x else m) xs := rfl
    rw [e]
    refine ⟨?_, fun y hy => ?_⟩
    · rcases List.mem_cons.mp h1 with h | h
      · rw [h]; split <;> simp
      · exact List.mem_cons_of_mem _ (List.mem_cons_of_mem _ h)
    · have h0 := h2 _ List.mem_cons_self
      rcases List.mem_cons.mp hy with rfl | hy
      · refine Int.le_trans h0 ?_; split <;> omega
      · rcases List.mem_cons.mp hy with rfl | hy
        · refine Int.le_trans h0 ?_; split <;> omega
        · exact h2 y (List.mem_cons_of_mem _ hy)
theorem mx_mem : ∀ (m : Int) (xs : List Int), mxOf m xs ∈ m :: xs ∧ ∀ y ∈ m :: xs, y ≤ mxOf m xs
  | m, [] => ⟨by simp [mxOf], by simp [mxOf]⟩
  | m, x :: xs => by
    obtain ⟨h1, h2⟩ := mx_mem (if x > m then x else m) xs
    have e : mxOf m (x :: xs) = mxOf (if x > m then x else m) xs := rfl
    rw [e]
    refine ⟨?_, fun y hy => ?_⟩
    · rcases List.mem_cons.mp h1 with h | h
      · rw [h]; split <;> simp
      · exact List.mem_cons_of_mem _ (List.mem_cons_of_mem _ h)
    · have h0 := h2 _ List.mem_cons_self
      rcases List.mem_cons.mp hy with rfl | hy
      · refine Int.le_trans ?_ h0; split <;> omega
      · rcases List.mem_cons.mp hy with rfl | hy
        · refine Int.le_trans ?_ h0; split <;> omega
        · exact h2 y (List.mem_cons_of_mem _ hy)
theorem min_uniq {ns : List Int} {a b : Int} (h1 : a ∈ ns) (h2 : ∀ y ∈ ns, a ≤ y) (h3 : b ∈ ns) (h4 : ∀ y ∈ ns, b ≤ y) : a = b := Int.le_antisymm (h2 _ h3) (h4 _ h1)
theorem max_uniq {ns : List Int} {a b : Int} (h1 : a ∈ ns) (h2 : ∀ y ∈ ns, y ≤ a) (h3 : b ∈ ns) (h4 : ∀ y ∈ ns, y ≤ b) : a = b := Int.le_antisymm (h4 _ h1) (h2 _ h3)

/-- the frozen part of data read as data over the whole heap -/
theorem dra_dp {w : Wo} {st : Store} (r : Rel T.K w st) {vs : List V} {ds : List PyData} (h : DRA T.K w.F vs ds) : DpAll T.K w.H vs ds := DRA.dp _ (DRA.mono r.sub _ h)

def btV : Bt → Value
  | .len => .builtin "len" | .abs => .builtin "abs" | .min => .builtin "min" | .max => .builtin "max" | .sum => .builtin "sum"
  | .all => .builtin "all" | .any => .builtin "any" | .sorted => .builtin "sorted" | .tuple => .type "tuple" | .list => .type "list" | .int => .type "int"

theorem wrs1 {w : Wo} {vs : List V} {x : W} (h : WRs T w vs [x]) : ∃ v, vs = [v] ∧ WR T w v x := by
  cases vs with
  | nil => exact h.elim
  | cons v r => cases r with
    | nil => exact ⟨v, rfl, h.1⟩
    | cons _ _ => exact h.2.elim
theorem wrs2 {w : Wo} {vs : List V} {x y : W} (h : WRs T w vs [x, y]) : ∃ v u, vs = [v, u] ∧ WR T w v x ∧ WR T w u y := by
  cases vs with
  | nil => exact h.elim
  | cons v r =>
    obtain ⟨u, rfl, h2⟩ := wrs1 h.2
    exact ⟨v, u, rfl, h.1, h2⟩
theorem onIs_iff {xs : List PyData} {f : List Int → Prop} (h : onIs xs f) : ∃ ns, intsOf xs = some ns ∧ f ns := by
  unfold onIs at h; split at h
  · exact ⟨_, by assumption, h⟩
  · exact h.elim
theorem onBs_iff {xs : List PyData} {f : List Bool → Prop} (h : onBs xs f) : ∃ ns, boolsOf xs = some ns ∧ f ns := by
  unfold onBs at h; split at h
  · exact ⟨_, by assumption, h⟩
  · exact h.elim
/-- one list argument -/
theorem listArg {w : Wo} {st : Store} {vs : List V} {x : W} {f : List PyData → Prop} (r : Rel T.K w st) (h : WRs T w vs [x]) (o : onL st x f) : ∃ a us ds, vs = [.ref a] ∧ w.H a = some (.lst us) ∧ DRA T.K w.F us ds ∧ f ds := by
  obtain ⟨xs, e, k⟩ := onL_iff o
  obtain ⟨v, rfl, hv⟩ := wrs1 h
  obtain ⟨a, us, rfl, h1, d1⟩ := hv.asL r e
  exact ⟨a, us, xs, rfl, h1, d1, k⟩
theorem seqArg {w : Wo} {st : Store} {vs : List V} {x : W} {f : List PyData → Prop} (r : Rel T.K w st) (h : WRs T w vs [x]) (o : onQ st x f) : ∃ a us ds, vs = [.ref a] ∧ (w.H a = some (.lst us) ∨ SqT T.K w.H a us) ∧ DRA T.K w.F us ds ∧ f ds ∧ WR T w (.ref a) x ∧ asQ st x = some ds := by
  obtain ⟨xs, e, k⟩ := onQ_iff o
  obtain ⟨v, rfl, hv⟩ := wrs1 h
  obtain ⟨a, us, rfl, h1, d1⟩ := hv.asQ r e
  exact ⟨a, us, xs, rfl, h1, d1, k, hv, e⟩

/-- a data list, a tuple or a cell whose items are ds -/
theorem tuple_res {w : Wo} {st : Store} {P : W → Prop} {Q : VK} {x : W} {a : Addr} {ds : List PyData} (r : Rel T.K w st) (hv : WR T w (.ref a) x) (e : asQ st x = some ds) (q : Res T w st P Q) (p : P (.d (.tuple ds))) :
    ∃ us, ((w.H a = some (.lst us) ∧ ∀ l, w.H l = none → Q (.ref l) (upd w.H l (.tup us))) ∨ (SqT T.K w.H a us ∧ Q (.ref a) w.H)) := by
  by_cases z : ∃ ys, x = .d (.tuple ys)
  · obtain ⟨ys, rfl⟩ := z
    simp [asQ] at e; subst e
    obtain ⟨b, us, e1, h1, d1⟩ := hv.tup
    cases e1
    exact ⟨us, .inr ⟨r.sub.sqT h1, q.here r (.d (.tup h1 d1)) p⟩⟩
  · have e' : asL st x = some ds := by
      unfold asQ at e; split at e
      · exact absurd ⟨_, rfl⟩ z
      · exact e
    obtain ⟨b, us, e1, h1, d1⟩ := hv.asL r e'
    cases e1
    exact ⟨us, .inl ⟨h1, fun l n => q.tup r d1 p n⟩⟩

theorem call_intW : CallR X (.type "int") (rN T (blt .int)) := by
  refine CallR.imp call_int1 fun xs H Q h => ?_
  obtain ⟨w, st, ws, P, rfl, r, hx, hb, q⟩ := h
  have hb : bInt ws P := hb
  unfold bInt at hb
  split at hb
  · obtain ⟨v, rfl, hv⟩ := wrs1 hx
    rw [hv.int]
    exact .inl ⟨_, rfl, q.here r (.ofInt _) hb⟩
  · obtain ⟨v, rfl, hv⟩ := wrs1 hx
    rw [hv.bool]
    exact .inr ⟨_, rfl, q.here r (.ofInt _) hb⟩
  · exact hb.elim

theorem opBt (b : Bt) (hK : X.K = T.K) (hc : X.calm = true) (hu : X.A.units + 62 < cLine) : CallR X (btV b) (rN T (blt b)) := by
  cases b with
  | int => exact call_intW
  | len =>
    have c1 := (call_len_seq (X := X)).or (call_len_str (X := X))
    rw [hK] at c1
    refine CallR.imp c1 fun xs H Q h => ?_
    obtain ⟨w, st, ws, P, rfl, r, hx, hb, q⟩ := h
    have hb : bLen ws st P := hb
    unfold bLen at hb
    split at hb
    · rename_i x
      unfold lenQ at hb
      split at hb
      · obtain ⟨v, rfl, hv⟩ := wrs1 hx
        rw [hv.str]
        exact .inr ⟨_, rfl, hb.1, q.here r (.ofInt _) hb.2⟩
      · obtain ⟨v, rfl, hv⟩ := wrs1 hx
        cases hv with
        | fll h1 => exact .inl ⟨_, _, rfl, .inl (.of (r.sub _ _ h1)), by rw [List.length_map]; exact q.here r (.ofInt _) hb⟩
        | flt h1 => exact .inl ⟨_, _, rfl, .inr (r.sub.sqT h1), by rw [List.length_map]; exact q.here r (.ofInt _) hb⟩
      · obtain ⟨v, rfl, hv⟩ := wrs1 hx
        cases hv with
        | fz h1 h2 => exact .inl ⟨_, _, rfl, .inl (r.sub.sqL h1), by rw [h2.length]; exact q.here r (.ofInt _) hb⟩
      · obtain ⟨a, us, ds, rfl, o, d1, k, _, _⟩ := seqArg r hx hb
        rcases o with o | o
        · exact .inl ⟨a, us, rfl, .inl (.of o), by rw [d1.length]; exact q.here r (.ofInt _) k⟩
        · exact .inl ⟨a, us, rfl, .inr o, by rw [d1.length]; exact q.here r (.ofInt _) k⟩
    · exact hb.elim
  | abs =>
    refine CallR.imp call_abs fun xs H Q h => ?_
    obtain ⟨w, st, ws, P, rfl, r, hx, hb, q⟩ := h
    have hb : bAbs ws P := hb
    unfold bAbs at hb
    split at hb
    · obtain ⟨i, rfl, p⟩ := onI_iff hb
      obtain ⟨v, rfl, hv⟩ := wrs1 hx
      rw [hv.int]
      exact ⟨_, rfl, q.here r (.ofInt _) p⟩
    · exact hb.elim
  | min =>
    have c1 := (call_min2 (X := X) hc).or (cr_min (X := X) hc)
    rw [hK] at c1
    refine CallR.imp c1 fun xs H Q h => ?_
    obtain ⟨w, st, ws, P, rfl, r, hx, hb, q⟩ := h
    have hb : bMin ws st P := hb
    unfold bMin at hb
    split at hb
    · obtain ⟨i, j, rfl, rfl, p⟩ := on2I_iff hb
      obtain ⟨v, u, rfl, hv, hu⟩ := wrs2 hx
      rw [hv.int, hu.int]
      exact .inl ⟨_, _, rfl, q.here r (.ofInt _) p⟩
    · obtain ⟨a, us, ds, rfl, h1, d1, k⟩ := listArg r hx hb
      obtain ⟨ns, e, k⟩ := onIs_iff k
      cases d1.ints e
      unfold nonE at k
      cases ns with
      | nil => exact k.elim
      | cons n l =>
        refine .inr ⟨a, n :: l, rfl, .of h1, by simp, fun m hm hl => ?_⟩
        obtain ⟨g1, g2⟩ := mn_mem n l
        rw [min_uniq hm hl g1 g2]
        exact q.here r (.ofInt _) k
    · exact hb.elim
  | max =>
    have c1 := (call_max2 (X := X) hc).or (cr_max (X := X) hc)
    rw [hK] at c1
    refine CallR.imp c1 fun xs H Q h => ?_
    obtain ⟨w, st, ws, P, rfl, r, hx, hb, q⟩ := h
    have hb : bMax ws st P := hb
    unfold bMax at hb
    split at hb
    · obtain ⟨i, j, rfl, rfl, p⟩ := on2I_iff hb
      obtain ⟨v, u, rfl, hv, hu⟩ := wrs2 hx
      rw [hv.int, hu.int]
      exact .inl ⟨_, _, rfl, q.here r (.ofInt _) p⟩
    · obtain ⟨a, us, ds, rfl, h1, d1, k⟩ := listArg r hx hb
      obtain ⟨ns, e, k⟩ := onIs_iff k
      cases d1.ints e
      unfold nonE at k
      cases ns with
      | nil => exact k.elim
      | cons n l =>
        refine .inr ⟨a, n :: l, rfl, .of h1, by simp, fun m hm hl => ?_⟩
        obtain ⟨g1, g2⟩ := mx_mem n l
        rw [max_uniq hm hl g1 g2]
        exact q.here r (.ofInt _) k
    · exact hb.elim
  | sum =>
    have c1 := cr_sum (X := X) hc
    rw [hK] at c1
    refine CallR.imp c1 fun xs H Q h => ?_
    obtain ⟨w, st, ws, P, rfl, r, hx, hb, q⟩ := h
    have hb : bSum ws st P := hb
    unfold bSum at hb
    split at hb
    · obtain ⟨a, us, ds, rfl, h1, d1, k⟩ := listArg r hx hb
      obtain ⟨ns, e, k⟩ := onIs_iff k
      cases d1.ints e
      exact ⟨a, ns, rfl, .of h1, q.here r (.ofInt _) k⟩
    · exact hb.elim
  | all =>
    have c1 := cr_all (X := X) hc
    rw [hK] at c1
    refine CallR.imp c1 fun xs H Q h => ?_
    obtain ⟨w, st, ws, P, rfl, r, hx, hb, q⟩ := h
    have hb : bAll ws st P := hb
    unfold bAll at hb
    split at hb
    · obtain ⟨a, us, ds, rfl, h1, d1, k⟩ := listArg r hx hb
      obtain ⟨ns, e, k⟩ := onBs_iff k
      cases d1.bools e
      exact ⟨a, ns, rfl, .of h1, q.here r (.ofBool _) k⟩
    · exact hb.elim
  | any =>
    have c1 := cr_any (X := X) hc
    rw [hK] at c1
    refine CallR.imp c1 fun xs H Q h => ?_
    obtain ⟨w, st, ws, P, rfl, r, hx, hb, q⟩ := h
    have hb : bAny ws st P := hb
    unfold bAny at hb
    split at hb
    · obtain ⟨a, us, ds, rfl, h1, d1, k⟩ := listArg r hx hb
      obtain ⟨ns, e, k⟩ := onBs_iff k
      cases d1.bools e
      exact ⟨a, ns, rfl, .of h1, q.here r (.ofBool _) k⟩
    · exact hb.elim
  | sorted =>
    have c1 := crSrt (X := X) hu
    rw [hK] at c1
    refine CallR.imp c1 fun xs H Q h => ?_
    obtain ⟨w, st, ws, P, rfl, r, hx, hb, q⟩ := h
    have hb : bSorted ws st P := hb
    unfold bSorted at hb
    split at hb
    · obtain ⟨a, us, ds, rfl, h1, d1, ok, k⟩ := listArg r hx hb
      refine ⟨a, us, ds, DR T.K w.F, rfl, .of h1, fun v d g => DR.dp _ (DR.mono r.sub _ g), dra_pr d1, ok, fun p ys n g => q.lst r (pr_dra g) k n⟩
    · exact hb.elim
  | tuple =>
    have c1 := call_tuple_of (X := X)
    rw [hK] at c1
    refine CallR.imp c1 fun xs H Q h => ?_
    obtain ⟨w, st, ws, P, rfl, r, hx, hb, q⟩ := h
    have hb : bTuple ws st P := hb
    unfold bTuple at hb
    split at hb
    · obtain ⟨a, us, ds, rfl, o, d1, k, hv, e⟩ := seqArg r hx hb
      obtain ⟨us', o'⟩ := tuple_res r hv e q k
      rcases o' with ⟨o1, o2⟩ | ⟨o1, o2⟩
      · exact ⟨a, us', rfl, .inl ⟨.of o1, o2⟩⟩
      · exact ⟨a, us', rfl, .inr ⟨o1, o2⟩⟩
    · exact hb.elim
  | list =>
    have c1 := call_list_of (X := X)
    rw [hK] at c1
    refine CallR.imp c1 fun xs H Q h => ?_
    obtain ⟨w, st, ws, P, rfl, r, hx, hb, q⟩ := h
    have hb : bList ws st P := hb
    unfold bList at hb
    split at hb
    · obtain ⟨v, rfl, hv⟩ := wrs1 hx
      cases hv with
      | fz h1 h2 => exact ⟨_, _, rfl, .inl (r.sub.sqL h1), fun l n => q.lst r h2 hb n⟩
    · obtain ⟨a, us, ds, rfl, o, d1, k, hv, e⟩ := seqArg r hx hb
      refine ⟨a, us, rfl, ?_, fun l n => q.lst r d1 k n⟩
      rcases o with o | o
      · exact .inl (.of o)
      · exact .inr o
    · exact hb.elim
end
end Z
namespace Z
open PySem PySem.Spec PyProof.Rows L2

/-! ## the check that ties my syntax to the program's own -/
mutual
def eqPD : PyData → PyData → Bool
  | .none, .none => true
  | .bool a, .bool b => a == b
  | .int a, .int b => decide (a = b)
  | .str a, .str b => decide (a = b)
  | .list a, .list b => eqPDs a b
  | .tuple a, .tuple b => eqPDs a b
  | _, _ => false
def eqPDs : List PyData → List PyData → Bool
  | [], [] => true
  | a :: r, b :: s => eqPD a b && eqPDs r s
  | _, _ => false
end
mutual
theorem eqPD_of : ∀ {a b : PyData}, eqPD a b = true → a = b
  | .none, b, h => by cases b <;> simp_all [eqPD]
  | .bool a, b, h => by cases b <;> simp_all [eqPD]
  | .int a, b, h => by cases b <;> simp_all [eqPD]
  | .str a, b, h => by cases b <;> simp_all [eqPD]
  | .list a, b, h => by
    cases b with
    | list b => simp only [eqPD] at h; rw [eqPDs_of h]
    | _ => simp [eqPD] at h
  | .tuple a, b, h => by
    cases b with
    | tuple b => simp only [eqPD] at h; rw [eqPDs_of h]
    | _ => simp [eqPD] at h
  | .dict a, b, h => by cases b <;> simp [eqPD] at h
theorem eqPDs_of : ∀ {a b : List PyData}, eqPDs a b = true → a = b
  | [], b, h => by cases b <;> simp_all [eqPDs]
  | a :: r, b, h => by
    cases b with
    | cons b s => simp only [eqPDs, Bool.and_eq_true] at h; rw [eqPD_of h.1, eqPDs_of h.2]
    | nil => simp [eqPDs] at h
end

structure Cc where
  N : List Str
  sc : Scope
  fs : List (Nat × Str)
  cs : List (Str × PyData)
  xs : List (Nat × Str)
  bl : List Str
  df : Bool

/-- within a comprehension -/
def Cc.inn (c : Cc) (scope : Scope) : Cc := { c with sc := relS scope c.sc, df := false }
def visC (c : Cc) (i : Nat) (x : Str) : Bool := decide (c.N[i]? = some x) && (match c.sc.names.lookup x with | some .local => true | some .cell => true | some .free => true | _ => false) && !(x == ("__debug__" : Str)) && !(x == ("__classdict__" : Str))
def locC (c : Cc) (i : Nat) (x : Str) : Bool := decide (c.N[i]? = some x) && (match c.sc.names.lookup x with | some .local => true | some .cell => c.df | _ => false)
def glC (c : Cc) (x : Str) : Bool := decide (c.sc.names.lookup x = some .globalImplicit) && !(x == ("__debug__" : Str)) && !(decide (x = ("__name__" : Str)))
def conC : PyData → Const → Bool
  | .none, .none => true
  | .bool a, .bool b => a == b
  | .int a, .int b => decide (a = b)
  | .str a, .str b => decide (a = b)
  | _, _ => false
def btN : Bt → Str
  | .len => "len" | .abs => "abs" | .min => "min" | .max => "max" | .sum => "sum" | .all => "all" | .any => "any"
  | .sorted => "sorted" | .tuple => "tuple" | .list => "list" | .int => "int"
def tyS : Ty → String | .int => "int" | .bool => "bool" | .str => "str" | .tuple => "tuple" | .list => "list"
def tyN : Ty → Str | .int => "int" | .bool => "bool" | .str => "str" | .tuple => "tuple" | .list => "list"
def bltC (c : Cc) (x y : Str) : Bool := decide (x = y) && glC c x && decide (x ∈ c.bl)
def isNm : Expr → Bool | .Name _ _ => true | _ => false
def nmsC (c : Cc) : List Nat → List Expr → Bool
  | [], [] => true
  | i :: is, .Name x _ :: es => locC c i x && nmsC c is es
  | _, _ => false
def tgC (c : Cc) : Tg → Expr → Bool
  | .name i, .Name x _ => locC c i x
  | .tup is, .Tuple es _ _ => nmsC c is es
  | _, _ => false
def isTupE : Expr → Bool | .Tuple _ _ _ => true | _ => false
def tgIn (own : List (Str × Nat)) : Tg → Bool
  | .name i => decide (i ∈ own.map (·.2))
  | .tup is => is.all fun i => decide (i ∈ own.map (·.2))
def freshX : Ex → Bool
  | .lst _ => true
  | .bin .Add _ _ => true
  | .comp _ _ _ _ _ => true
  | .blt .list _ => true
  | .blt .sorted _ => true
  | _ => false

mutual
def chkE (c : Cc) : Ex → Expr → Bool
  | .var i, .Name x _ => visC c i x
  | .con d, .Constant k _ _ => conC d k
  | .glob x d, .Name y _ => decide (x = y) && glC c x && c.cs.any (fun p => decide (p.1 = x) && eqPD p.2 d)
  | .fnv k, .Name x _ => glC c x && decide ((k, x) ∈ c.fs)
  | .bin o a b, .BinOp x p y _ => decide (o = p) && chkE c a x && chkE c b y
  | .neg a, .UnaryOp .USub x _ => chkE c a x
  | .not a, .UnaryOp .Not x _ => chkE c a x
  | .cmp a ch, .Compare x ops es _ => chkE c a x && chkCh c ch ops es
  | .and a b, .BoolOp .And [x, y] _ => chkE c a x && chkE c b y
  | .and a b, .BoolOp .And (x :: y :: z :: r) _ => chkE c a x && chkB c b .And y z r
  | .or a b, .BoolOp .Or [x, y] _ => chkE c a x && chkE c b y
  | .or a b, .BoolOp .Or (x :: y :: z :: r) _ => chkE c a x && chkB c b .Or y z r
  | .ite k a b, .IfExp t x y _ => chkE c k t && chkE c a x && chkE c b y
  | .tup es, .Tuple xs _ _ => chkAs c es xs
  | .lst es, .List xs _ => chkAs c es xs
  | .idx a i, .Subscript x y _ => chkE c a x && chkE c i y
  | .slc a lo hi, .Subscript x (.Slice l h none _) _ => chkE c a x && chkO c lo l && chkO c hi h
  | .call k es, .Call (.Name x _) (y :: ys) [] _ => glC c x && decide ((k, x) ∈ c.fs) && chkAs c es (y :: ys)
  | .blt b es, .Call (.Name x _) (y :: ys) [] _ => bltC c x (btN b) && chkAs c es (y :: ys)
  | .isi a t, .Call (.Name x _) [y, .Name z _] [] _ => bltC c x "isinstance" && bltC c z (tyN t) && chkE c a y
  | .comp own g it cd e, .ListComp elt [⟨tg, iter, ifs, 0⟩] scope _ => blkC c.N c.sc scope own && tgIn own g && tgC (c.inn scope) g tg && chkIt c it tg iter && chkCd (c.inn scope) cd ifs && chkE (c.inn scope) e elt
  | .new e, x => freshX e && chkE c e x
  | .pop a, .Call (.Attribute o n p1) [] [] p2 => decide (n = ("pop" : Str)) && (p1.endLine == p2.line) && isNm o && chkE c a o
  | .bad, .Call _ _ _ _ => true
  | _, _ => false
termination_by structural p => p
/-- two or more: the first, the second, more -/
def chkB (c : Cc) : Ex → BoolOp → Expr → Expr → List Expr → Bool
  | .and a b, .And, y, z, [] => chkE c a y && chkE c b z
  | .and a b, .And, y, z, v :: r => chkE c a y && chkB c b .And z v r
  | .or a b, .Or, y, z, [] => chkE c a y && chkE c b z
  | .or a b, .Or, y, z, v :: r => chkE c a y && chkB c b .Or z v r
  | _, _, _, _, _ => false
termination_by structural p => p
def chkAs (c : Cc) : Exs → List Expr → Bool
  | .nil, [] => true
  | .cons e es, x :: xs => chkE c e x && chkAs c es xs
  | _, _ => false
termination_by structural p => p
def chkCh (c : Cc) : Ch → List CmpOp → List Expr → Bool
  | .last o b, [p], [y] => decide (o = p) && chkE c b y
  | .link o b d, p :: q :: ps, y :: z :: zs => decide (o = p) && chkE c b y && chkCh c d (q :: ps) (z :: zs)
  | _, _, _ => false
termination_by structural p => p
def chkIt (c : Cc) : It → Expr → Expr → Bool
  | .e x, _, y => chkE c x y
  | .rng1 a, _, .Call (.Name x _) [y] [] _ => bltC c x "range" && chkE c a y
  | .rng2 a b, _, .Call (.Name x _) [y, z] [] _ => bltC c x "range" && chkE c a y && chkE c b z
  | .zip a b, t, .Call (.Name x _) [y, z] [] _ => isTupE t && bltC c x "zip" && chkE c a y && chkE c b z
  | .enum a, t, .Call (.Name x _) [y] [] _ => isTupE t && bltC c x "enumerate" && chkE c a y
  | _, _, _ => false
termination_by structural p => p
def chkO (c : Cc) : Exo → Option Expr → Bool
  | .none, none => true
  | .some e, some x => chkE c e x
  | _, _ => false
termination_by structural p => p
def chkCd (c : Cc) : Exo → List Expr → Bool
  | .none, [] => true
  | .some e, [x] => chkE c e x
  | _, _ => false
termination_by structural p => p
end

/-- what an expression is not -/
def okX : Expr → Bool
  | .Starred _ _ => false
  | .Set _ _ _ => false
  | .Slice _ _ _ _ => false
  | .SetComp _ _ _ _ => false
  | .DictComp _ _ _ _ _ => false
  | _ => true
theorem chk_new {c : Cc} {p : Ex} {e : Expr} (h : chkE c (.new p) e = true) : freshX p = true ∧ chkE c p e = true := by
  rw [chkE, Bool.and_eq_true] at h; exact h
theorem chk_ok0 {c : Cc} {p : Ex} {e : Expr} (hn : ∀ q, p ≠ .new q) (h : chkE c p e = true) : okX e = true := by
  cases e <;> first
    | rfl
    | (exfalso; cases p <;> first | exact hn _ rfl | (simp only [chkE] at h; exact Bool.false_ne_true h))
theorem fresh_new {p : Ex} (h : freshX p = true) : ∀ q, p ≠ .new q := fun q e => by subst e; exact Bool.false_ne_true h
theorem chk_ok {c : Cc} {p : Ex} {e : Expr} (h : chkE c p e = true) : okX e = true := by
  by_cases q : ∃ q, p = .new q
  · obtain ⟨q, rfl⟩ := q
    obtain ⟨h1, h2⟩ := chk_new h
    exact chk_ok0 (fresh_new h1) h2
  · exact chk_ok0 (fun x e => q ⟨x, e⟩) h
theorem star_ok {e : Expr} (h : okX e = true) (es : List Expr) (env : Env) : starEach (e :: es) env = (false, eval e env) :: starEach es env := by
  cases e <;> first | rfl | exact absurd h Bool.false_ne_true
theorem mark_ok {e : Expr} (h : okX e = true) (op : CmpOp) : behindInMarks op e = false := by
  cases e <;> first | rfl | exact absurd h Bool.false_ne_true
theorem sub_ok {e : Expr} (h : okX e = true) (o i : Value) : subscripted e false o i = operate [o, i] (getItem o i) := by
  cases e <;> first | rfl | exact absurd h Bool.false_ne_true
theorem fold_ok {e : Expr} (h : okX e = true) (env : Env) (x : Value) : foldedSetIterable e env x = pure x := by
  cases e <;> first | rfl | exact absurd h Bool.false_ne_true
theorem chkAs_ok {c : Cc} : ∀ {p : Exs} {es : List Expr}, chkAs c p es = true → es.all okX = true
  | .nil, [], _ => rfl
  | .nil, _ :: _, h => by simp [chkAs] at h
  | .cons _ _, [], h => by simp [chkAs] at h
  | .cons p ps, e :: es, h => by
    rw [chkAs, Bool.and_eq_true] at h
    rw [List.all_cons, chk_ok h.1, chkAs_ok h.2]; rfl
theorem stars_ok {pos : Pos} : ∀ {es : List Expr} (env : Env), es.all okX = true → (backTo pos (starEach es env)).any (·.1) = false
  | [], _, _ => rfl
  | e :: es, env, h => by
    rw [List.all_cons, Bool.and_eq_true] at h
    rw [star_ok h.1]
    show (false || (backTo pos (starEach es env)).any (·.1)) = false
    rw [stars_ok env h.2]; rfl
end Z
namespace Z
open PySem PySem.Spec PyProof.Rows L2

/-! ## readings -/
def tgSub : Tg → List Nat → Prop
  | .name i, vs => i ∈ vs
  | .tup is, vs => ∀ i, i ∈ is → i ∈ vs
theorem wipe_set (σ : L2.St) (i : Nat) (v : Option V) : ∀ vs : List Nat, i ∈ vs → L2.wipe (σ.set i v) vs = L2.wipe σ vs := by
  have len : ∀ (σ : L2.St) vs, (L2.wipe σ vs).length = σ.length := L2.wipe_length
  have key : ∀ (σ : L2.St) (vs : List Nat) (j : Nat), (L2.wipe σ vs)[j]? = if j ∈ vs then (if j < σ.length then some none else none) else σ[j]? := by
    intro σ vs
    induction vs with
    | nil => intro j; simp [L2.wipe]
    | cons v vs ih =>
      intro j
      show ((L2.wipe σ vs).set v none)[j]? = _
      by_cases e : v = j
      · subst e
        by_cases hl : v < σ.length
        · rw [List.getElem?_set_self (by rw [len]; exact hl)]; simp [hl]
        · rw [List.getElem?_eq_none (by rw [List.length_set, len]; omega)]; simp [hl]
      · rw [List.getElem?_set_ne e, ih]
        have : (j ∈ v :: vs) ↔ j ∈ vs := by simp [Ne.symm e]
        simp only [this]
  intro vs hi
  apply List.ext_getElem?
  intro j
  rw [key, key, List.length_set]
  by_cases h : j ∈ vs
  · rw [if_pos h, if_pos h]
  · rw [if_neg h, if_neg h, List.getElem?_set_ne (show i ≠ j from fun e => h (by rw [← e]; exact hi))]
theorem wipe_all : ∀ (is : List Nat) (us : List V) (σ : L2.St) (vs : List Nat), (∀ i, i ∈ is → i ∈ vs) → L2.wipe ((is.zip us).foldl (fun σ p => σ.set p.1 (some p.2)) σ) vs = L2.wipe σ vs
  | [], _, _, _, _ => rfl
  | _ :: _, [], _, _, _ => rfl
  | i :: is, u :: us, σ, vs, h => by
    have := wipe_all is us (σ.set i (some u)) vs fun j hj => h j (List.mem_cons_of_mem _ hj)
    rw [wipe_set σ i (some u) vs (h i List.mem_cons_self)] at this
    exact this
section
variable (T : Tab)
def EQ (w : Wo) (Q : VK) (P : Post) : Prop := ∀ w' st' v x, Le w w' → Rel T.K w' st' → WR T w' v x → P x st' → Q v w'.H
def FQ (w : Wo) (Q : VK) (P : List PyData → Store → Prop) : Prop := ∀ w' st' a vs ds, Le w w' → Rel T.K w' st' → w'.H a = some (.lst vs) → w'.F a = none → a ∉ w'.ad → w.H a = none → DRA T.K w'.F vs ds → P ds st' → Q (.ref a) w'.H
def TQ (w : Wo) (Q : Bool → Hp → Prop) (P : Bool → Store → Prop) : Prop := ∀ w' st' b, Le w w' → Rel T.K w' st' → P b st' → Q b w'.H
def AQ (w : Wo) (Q : List V → Hp → Prop) (P : List W → Store → Prop) : Prop := ∀ w' st' vs xs, Le w w' → Rel T.K w' st' → WRs T w' vs xs → P xs st' → Q vs w'.H
def RC (W : WX) (w : Wo) (σ : L2.St) (R : XP) : Prop := ∀ w' st' k, Le w w' → Rel T.K w' st' → R k st' → W (.ref (T.ec k)) none σ w'.H
structure At (W : WX) (w : Wo) (Γ : Env') (st : Store) (R : XP) (σ : L2.St) (H : Hp) : Prop where
  h : w.H = H
  r : Rel T.K w st
  e : EnvR T w Γ σ
  x : RC T W w σ R
def tE (W : WX) (p : Ex) : TE := fun σ H Q => ∃ w Γ st P R, At T W w Γ st R σ H ∧ wE T.S p Γ st P R ∧ EQ T w Q P
def tF (W : WX) (p : Ex) : TE := fun σ H Q => ∃ w Γ st P R, At T W w Γ st R σ H ∧ wE T.S p Γ st (fun x s => onDL x fun ds => P ds s) R ∧ FQ T w Q P
def tT (W : WX) (p : Ex) : TT := fun σ H Q => ∃ w Γ st P R, At T W w Γ st R σ H ∧ wE T.S p Γ st (fun x s => wTr x s fun b => P b s) R ∧ TQ T w Q P
def tB (W : WX) (p : Ex) : TT := fun σ H Q => ∃ w Γ st P R, At T W w Γ st R σ H ∧ wE T.S p Γ st (fun x s => onB x fun b => P b s) R ∧ TQ T w Q P
def tA (W : WX) (p : Exs) : TA := fun σ H Q => ∃ w Γ st P R, At T W w Γ st R σ H ∧ wAs T.S p Γ st P R ∧ AQ T w Q P
def tO (W : WX) (p : Exo) : TO := fun σ H Q => ∃ (w : Wo) (Γ : Env') (st : Store) (P : Option Int → Store → Prop) (R : XP), At T W w Γ st R σ H ∧ wO T.S p Γ st P R ∧ ∀ w' st' o, Le w w' → Rel T.K w' st' → P o st' → Q o w'.H
def tCd (W : WX) (p : Exo) : TT := fun σ H Q => ∃ w Γ st P R, At T W w Γ st R σ H ∧ wC T.S p Γ st P R ∧ TQ T w Q P
/-- an iterator that gives these -/
structure ItOk (w : Wo) (J : L2.It) (ws : List W) : Prop where
  go : ∀ i w' st', Le w w' → Rel T.K w' st' → i < ws.length → J.go i w'.H
  stop : ∀ w' st', Le w w' → Rel T.K w' st' → J.stop ws.length w'.H
  yld : ∀ i w' st' v H', Le w w' → Rel T.K w' st' → i < ws.length → J.yld i w'.H v H' → ∃ w'' y, w''.H = H' ∧ Le w' w'' ∧ Rel T.K w'' st' ∧ ws[i]? = some y ∧ WR T w'' v y
def tIt (W : WX) (p : It) : TI := fun σ H Q => ∃ (w : Wo) (Γ : Env') (st : Store) (P : List Z.W → Store → Prop) (R : XP), At T W w Γ st R σ H ∧ wIt T.S p Γ st P R ∧ ∀ w' st' J ws, Le w w' → Rel T.K w' st' → ItOk T w' J ws → P ws st' → Q J w'.H
def tG (g : Tg) : TG := fun v σ H Q => ∃ (w : Wo) (Γ : Env') (st : Store) (x : Z.W) (P : Env' → Prop), w.H = H ∧ Rel T.K w st ∧ EnvR T w Γ σ ∧ WR T w v x ∧ wTg g x Γ st P ∧ ∀ Γ' σ', EnvR T w Γ' σ' → P Γ' → (∀ vs, tgSub g vs → L2.wipe σ' vs = L2.wipe σ vs) → Q σ' w.H
/-- what a def promises -/
def toSp (S : Spec) : Sp := fun vs H Q E => ∃ (w : Wo) (st : Store) (ws : List Z.W) (P : Post) (R : XP), w.H = H ∧ Rel T.K w st ∧ WRs T w vs ws ∧ S ws st P R ∧ EQ T w Q P ∧ ∀ w' st' k, Le w w' → Rel T.K w' st' → R k st' → E (.ref (T.ec k)) none w'.H
end
section
variable {T : Tab} {W : WX} {w w' : Wo} {Γ : Env'} {st st' : Store} {R : XP} {σ : L2.St} {H : Hp}
theorem RC.mono (l : Le w w') (h : RC T W w σ R) : RC T W w' σ R := fun u s k a b c => h u s k (l.trans a) b c
theorem EQ.mono {Q : VK} {P : Post} (l : Le w w') (h : EQ T w Q P) : EQ T w' Q P := fun u s v x a b c d => h u s v x (l.trans a) b c d
theorem TQ.mono {Q : Bool → Hp → Prop} {P : Bool → Store → Prop} (l : Le w w') (h : TQ T w Q P) : TQ T w' Q P := fun u s v a b c => h u s v (l.trans a) b c
theorem At.step (a : At T W w Γ st R σ H) (l : Le w w') (r : Rel T.K w' st') : At T W w' Γ st' R σ w'.H := ⟨rfl, r, a.e.mono l, a.x.mono l⟩
theorem At.res (a : At T W w Γ st R σ H) {Q : VK} {P : Post} (q : EQ T w Q P) (l : Le w w') (r : Rel T.K w' st') : Res T w' st' (fun x => P x st') Q := fun u v z l2 r2 h p => q u st' v z (l.trans l2) r2 h p
/-- a fresh one as a cell -/
theorem tF_new (p : Ex) {Q : VK} (h : tE T W (.new p) σ H Q) : tF T W p σ H Q := by
  obtain ⟨w, Γ, st, P, R, a, b, q⟩ := h
  rw [wE] at b
  refine ⟨w, Γ, st, fun ds s => P (.p s.length) (s ++ [.lst ds]), R, a, b, fun u s b vs ds l r h n na old d p => ?_⟩
  obtain ⟨r2, l2⟩ := r.taken l h n na old d
  refine q ⟨u.F, u.ad ++ [b], u.H⟩ (s ++ [.lst ds]) _ _ l2 r2 (.p ?_) p
  rw [r.len]
  show (u.ad ++ [b])[u.ad.length]? = _
  simp
end

structure Good (T : Tab) (L : Nat) (c : Cc) (X : Cx) : Prop where
  K : X.K = T.K
  N : X.N = c.N
  sc : X.env.scope = c.sc
  nd : c.N.Nodup
  calm : X.calm = true
  room : Room L X.A
  fn : ∀ k x, (k, x) ∈ c.fs → X.mg x = some (.ref (T.fa k)) ∧ PySem.W.keepIn X.K (.ref (T.fa k)) = true ∧ ∃ (fd : FuncData) (ps : List Str), FnOk X.prog X.w X.K X.mg X.base (L2.CX X.prog X.w) L (T.fa k) fd ps (toSp T (T.S k)) ∧ Binds X.K fd ps []
  cs : ∀ x d, (x, d) ∈ c.cs → ∃ u v, X.mg x = some u ∧ RelV v u ∧ ∀ F, DR T.K F v d
  bl : ∀ x, x ∈ c.bl → X.mg x = none
  df : c.df = true → X.fn = fun _ => true

theorem Good.blk {T : Tab} {L : Nat} {c : Cc} {X : Cx} (g : Good T L c X) (s : Shared) (H : Hp) (scope : Scope) (C : Addr) (cl : List (Str × Addr)) (fp : List Addr) :
    Good T L (c.inn scope) (X.blk s H scope (compEnvC scope cl C X.env) fp) where
  K := g.K
  N := g.N
  sc := by
    show relabel scope X.env = relS scope c.sc
    rw [← g.sc]; rfl
  nd := g.nd
  calm := g.calm
  room := g.room
  fn := g.fn
  cs := g.cs
  bl := g.bl
  df := fun h => nomatch (show false = true from h)
theorem Good.tr {T : Tab} {L : Nat} {c : Cc} {X : Cx} (g : Good T L c X) (pn : List (Addr × Obj)) (xe : Value → Shared → Prop) : Good T L c (X.tr pn xe) := ⟨g.K, g.N, g.sc, g.nd, g.calm, g.room, g.fn, g.cs, g.bl, g.df⟩

section
variable {T : Tab} {L : Nat} {c : Cc} {X : Cx} {W : WX} {e : Expr} {es : List Expr} {p : Ex} {ps : Exs}
theorem PE.imp {t t' : TE} (h : PE X e t) (i : ∀ σ H Q, t' σ H Q → t σ H Q) : PE X e t' := ⟨fun pins s σ H Q I q => h.run pins s σ H Q I (i _ _ _ q)⟩
theorem PT.imp {t t' : TT} (h : PT X e t) (i : ∀ σ H Q, t' σ H Q → t σ H Q) : PT X e t' := ⟨fun pins s σ H Q I q => h.run pins s σ H Q I (i _ _ _ q)⟩
theorem PW.imp {t t' : TT} (h : PW X e t) (i : ∀ σ H Q, t' σ H Q → t σ H Q) : PW X e t' := ⟨fun wh pins s σ H Q I q => h.run wh pins s σ H Q I (i _ _ _ q)⟩
theorem PA.imp {t t' : TA} (h : PA X es t) (i : ∀ σ H Q, t' σ H Q → t σ H Q) : PA X es t' := ⟨fun pos pins s σ H Q I q => h.run pos pins s σ H Q I (i _ _ _ q)⟩

theorem Good.hu (g : Good T L c X) : X.A.units + 62 < cLine := by have := g.room.un; omega
theorem gl_of (g : Good T L c X) {x : Str} (h : glC c x = true) : Gl X x ∧ (x == ("__debug__" : Str)) = false ∧ x ≠ "__name__" := by
  unfold glC at h
  rw [Bool.and_eq_true, Bool.and_eq_true] at h
  obtain ⟨⟨h1, h2⟩, h3⟩ := h
  refine ⟨?_, by simpa using h2, by simpa using h3⟩
  show X.env.scope.names.lookup x = some .globalImplicit
  rw [g.sc]; exact of_decide_eq_true h1
theorem pe_varZ (g : Good T L c X) {i : Nat} {x : Str} {pos : Pos} (h : visC c i x = true) : PE X (.Name x pos) (tE T W (.var i)) := by
  unfold visC at h
  rw [Bool.and_eq_true, Bool.and_eq_true, Bool.and_eq_true] at h
  obtain ⟨⟨⟨h1, h2⟩, h3⟩, h4⟩ := h
  have hv : Vis X.env.scope x := by
    unfold Vis
    rw [g.sc]
    revert h2
    cases e : c.sc.names.lookup x with
    | none => intro h; cases h
    | some k => cases k <;> intro h <;> first | exact .inl rfl | exact .inr (.inl rfl) | exact .inr (.inr rfl) | cases h
  refine PE.imp (pe_var (i := i) (by rw [g.N]; exact of_decide_eq_true h1) hv (by simpa using h3) (by simpa using h4)) fun σ H Q q => ?_
  obtain ⟨w, Γ, st, P, R, a, b, q⟩ := q
  rw [wE] at b
  split at b
  · rename_i x0 e
    obtain ⟨v, e1, r1⟩ := a.e.2 i _ e
    refine ⟨v, e1, ?_⟩
    rw [← a.h]
    exact q w st v _ (Le.refl _) a.r r1 b
  · exact b.elim
theorem pe_conZ {d : PyData} {k : Const} {j : Nat} {pos : Pos} (h : conC d k = true) : PE X (.Constant k j pos) (tE T W (.con d)) := by
  have fin : ∀ {v : V}, (∀ F, DR T.K F v d) → ∀ σ H Q, tE T W (.con d) σ H Q → tC v σ H Q := fun hv σ H Q q => by
    obtain ⟨w, Γ, st, P, R, a, b, q⟩ := q
    show Q _ H
    rw [← a.h]
    exact q w st _ _ (Le.refl _) a.r (.d (hv _)) b
  cases d <;> cases k <;> first | (exact absurd h Bool.false_ne_true) | skip
  · exact PE.imp pe_non (fin fun F => .non)
  · have := eq_of_beq (show (_ == _) = true from h); subst this; exact PE.imp pe_bl (fin fun F => .bl _)
  · have := of_decide_eq_true (show decide _ = true from h); subst this; exact PE.imp pe_int (fin fun F => .int _)
  · have := of_decide_eq_true (show decide _ = true from h); subst this; exact PE.imp pe_str (fin fun F => .str _)

theorem plain_ok {e : Expr} {env : Env} (h1 : ∀ x p, e ≠ .UnaryOp .Not x p) (h2 : ∀ o v p, e ≠ .BoolOp o v p) (h3 : ∀ a b d p, e ≠ .IfExp a b d p) (h4 : ∀ a b d p, e ≠ .Compare a b d p) (whole : Sem Value) :
    isTrue e env whole = (do let v ← whole; standAt e.pos; holding [v] (truthy v)) := by
  cases e with
  | UnaryOp o x p => cases o <;> first | rfl | exact absurd rfl (h1 _ _)
  | BoolOp o v p => exact absurd rfl (h2 _ _ _)
  | IfExp a b d p => exact absurd rfl (h3 _ _ _ _)
  | Compare a b d p => exact absurd rfl (h4 _ _ _ _)
  | _ => rfl
theorem pt_ofZ (hK : X.K = T.K) (h : PE X e (tE T W p)) (hp : ∀ whole, isTrue e X.env whole = (do let v ← whole; standAt e.pos; holding [v] (truthy v))) : PT X e (tT T W p) := by
  have c1 := pt_truth h hp
  rw [hK] at c1
  refine PT.imp c1 fun σ H Q q => ?_
  obtain ⟨w, Γ, st, P, R, a, b, q⟩ := q
  refine ⟨w, Γ, st, _, R, a, b, fun u s v x l r h k => ?_⟩
  obtain ⟨b, e1, e2⟩ := tru_cases r h k
  exact ⟨b, e1, q u s b l r e2⟩
theorem pb_ofZ (hK : X.K = T.K) (h : PE X e (tE T W p)) (hp : ∀ whole, isTrue e X.env whole = (do let v ← whole; standAt e.pos; holding [v] (truthy v))) : PT X e (tB T W p) := by
  have c1 := pt_truth h hp
  refine PT.imp c1 fun σ H Q q => ?_
  obtain ⟨w, Γ, st, P, R, a, b, q⟩ := q
  refine ⟨w, Γ, st, _, R, a, b, fun u s v x l r h k => ?_⟩
  obtain ⟨b, rfl, e2⟩ := onB_iff k
  rw [h.bool]
  exact ⟨b, rfl, q u s b l r e2⟩
end
end Z
namespace Z
open PySem PySem.Spec PyProof.Rows L2

section
variable {T : Tab} {L : Nat} {c : Cc} {X : Cx} {W : WX} {e x y z : Expr} {es xs : List Expr} {p a b k : Ex} {ps : Exs} {pos : Pos}

theorem res2 {w w' : Wo} {st' : Store} {Q : VK} {P : Post} (q : EQ T w Q P) (l : Le w w') : Res T w' st' (fun x => P x st') Q := fun u v z l2 r2 h p => q u st' v z (l.trans l2) r2 h p

theorem z_bin (g : Good T L c X) {o : Operator} (ha : PE X x (tE T W a)) (hb : PE X y (tE T W b)) : PE X (.BinOp x o y pos) (tE T W (.bin o a b)) := by
  refine PE.imp (pe_op (opB o g.K) ha hb) fun σ H Q q => ?_
  obtain ⟨w, Γ, st, P, R, A, h, q⟩ := q
  rw [wE] at h
  exact ⟨w, Γ, st, _, R, A, h, fun w1 s1 v1 x1 l1 r1 hx h1 => ⟨w1, Γ, s1, _, R, A.step l1 r1, h1, fun w2 s2 v2 x2 l2 r2 hy h2 => ⟨w2, s2, x1, x2, _, rfl, r2, hx.mono l2, hy, h2, fun u v z l r h p => q u s2 v z ((l1.trans l2).trans l) r h p⟩⟩⟩
theorem z_neg (ha : PE X x (tE T W a)) : PE X (.UnaryOp .USub x pos) (tE T W (.neg a)) := by
  refine PE.imp (pe_un un_neg ha) fun σ H Q q => ?_
  obtain ⟨w, Γ, st, P, R, A, h, q⟩ := q
  rw [wE] at h
  refine ⟨w, Γ, st, _, R, A, h, fun w1 s1 v1 x1 l1 r1 hx h1 => ?_⟩
  obtain ⟨i, rfl, h1⟩ := onI_iff h1
  exact ⟨i, hx.int, q w1 s1 _ _ l1 r1 (.ofInt _) h1⟩
theorem z_not (g : Good T L c X) (ha : PE X x (tE T W a)) : PE X (.UnaryOp .Not x pos) (tE T W (.not a)) := by
  have c1 := pe_notT (pos := pos) ha
  rw [g.K] at c1
  refine PE.imp c1 fun σ H Q q => ?_
  obtain ⟨w, Γ, st, P, R, A, h, q⟩ := q
  rw [wE] at h
  refine ⟨w, Γ, st, _, R, A, h, fun w1 s1 v1 x1 l1 r1 hx h1 => ?_⟩
  obtain ⟨b, e1, e2⟩ := tru_cases r1 hx h1
  exact ⟨b, e1, q w1 s1 _ _ l1 r1 (.ofBool _) e2⟩
theorem zt_not (ha : PT X x (tT T W a)) : PT X (.UnaryOp .Not x pos) (tT T W (.not a)) := by
  refine PT.imp (pt_not ha) fun σ H Q q => ?_
  obtain ⟨w, Γ, st, P, R, A, h, q⟩ := q
  rw [wE] at h
  exact ⟨w, Γ, st, fun b s => P (!b) s, R, A, h, fun w1 s1 b l1 r1 h1 => q w1 s1 _ l1 r1 h1⟩
theorem z_and (ha : PE X x (tE T W a)) (hb : PE X (.BoolOp .And (y :: xs) pos) (tE T W b)) : PE X (.BoolOp .And (x :: y :: xs) pos) (tE T W (.and a b)) := by
  refine PE.imp (pe_and ha hb) fun σ H Q q => ?_
  obtain ⟨w, Γ, st, P, R, A, h, q⟩ := q
  rw [wE] at h
  refine ⟨w, Γ, st, _, R, A, h, fun w1 s1 v1 x1 l1 r1 hx h1 => ?_⟩
  obtain ⟨t, rfl, h1⟩ := onB_iff h1
  refine ⟨t, hx.bool, ?_⟩
  cases t with
  | true => exact iteT ⟨w1, Γ, s1, _, R, A.step l1 r1, h1.1 rfl, q.mono l1⟩
  | false => exact iteF (q w1 s1 _ _ l1 r1 (.ofBool _) (h1.2 rfl))
theorem z_or (ha : PE X x (tE T W a)) (hb : PE X (.BoolOp .Or (y :: xs) pos) (tE T W b)) : PE X (.BoolOp .Or (x :: y :: xs) pos) (tE T W (.or a b)) := by
  refine PE.imp (pe_or ha hb) fun σ H Q q => ?_
  obtain ⟨w, Γ, st, P, R, A, h, q⟩ := q
  rw [wE] at h
  refine ⟨w, Γ, st, _, R, A, h, fun w1 s1 v1 x1 l1 r1 hx h1 => ?_⟩
  obtain ⟨t, rfl, h1⟩ := onB_iff h1
  refine ⟨t, hx.bool, ?_⟩
  cases t with
  | false => exact iteF ⟨w1, Γ, s1, _, R, A.step l1 r1, h1.2 rfl, q.mono l1⟩
  | true => exact iteT (q w1 s1 _ _ l1 r1 (.ofBool _) (h1.1 rfl))
theorem zb_not (ha : PT X x (tT T W a)) : PT X (.UnaryOp .Not x pos) (tB T W (.not a)) := by
  refine PT.imp (pt_not ha) fun σ H Q q => ?_
  obtain ⟨w, Γ, st, P, R, A, h, q⟩ := q
  rw [wE] at h
  exact ⟨w, Γ, st, fun b s => P (!b) s, R, A, h, fun w1 s1 b l1 r1 h1 => q w1 s1 _ l1 r1 h1⟩
theorem zw_and (ha : PT X x (tB T W a)) (hb : PW X (.BoolOp .And (y :: xs) pos) (tT T W b)) : PW X (.BoolOp .And (x :: y :: xs) pos) (tT T W (.and a b)) := by
  refine PW.imp (pw_and ha hb) fun σ H Q q => ?_
  obtain ⟨w, Γ, st, P, R, A, h, q⟩ := q
  rw [wE] at h
  refine ⟨w, Γ, st, _, R, A, h, fun w1 s1 t l1 r1 h1 => ?_⟩
  cases t with
  | true => exact iteT ⟨w1, Γ, s1, _, R, A.step l1 r1, h1.1 rfl, q.mono l1⟩
  | false => exact iteF (q w1 s1 _ l1 r1 (h1.2 rfl))
theorem zv_and (ha : PT X x (tB T W a)) (hb : PW X (.BoolOp .And (y :: xs) pos) (tB T W b)) : PW X (.BoolOp .And (x :: y :: xs) pos) (tB T W (.and a b)) := by
  refine PW.imp (pw_and ha hb) fun σ H Q q => ?_
  obtain ⟨w, Γ, st, P, R, A, h, q⟩ := q
  rw [wE] at h
  refine ⟨w, Γ, st, _, R, A, h, fun w1 s1 t l1 r1 h1 => ?_⟩
  cases t with
  | true => exact iteT ⟨w1, Γ, s1, _, R, A.step l1 r1, h1.1 rfl, q.mono l1⟩
  | false => exact iteF (q w1 s1 _ l1 r1 (h1.2 rfl))
theorem zw_or (ha : PT X x (tB T W a)) (hb : PW X (.BoolOp .Or (y :: xs) pos) (tT T W b)) : PW X (.BoolOp .Or (x :: y :: xs) pos) (tT T W (.or a b)) := by
  refine PW.imp (pw_or ha hb) fun σ H Q q => ?_
  obtain ⟨w, Γ, st, P, R, A, h, q⟩ := q
  rw [wE] at h
  refine ⟨w, Γ, st, _, R, A, h, fun w1 s1 t l1 r1 h1 => ?_⟩
  cases t with
  | false => exact iteF ⟨w1, Γ, s1, _, R, A.step l1 r1, h1.2 rfl, q.mono l1⟩
  | true => exact iteT (q w1 s1 _ l1 r1 (h1.1 rfl))
theorem zv_or (ha : PT X x (tB T W a)) (hb : PW X (.BoolOp .Or (y :: xs) pos) (tB T W b)) : PW X (.BoolOp .Or (x :: y :: xs) pos) (tB T W (.or a b)) := by
  refine PW.imp (pw_or ha hb) fun σ H Q q => ?_
  obtain ⟨w, Γ, st, P, R, A, h, q⟩ := q
  rw [wE] at h
  refine ⟨w, Γ, st, _, R, A, h, fun w1 s1 t l1 r1 h1 => ?_⟩
  cases t with
  | false => exact iteF ⟨w1, Γ, s1, _, R, A.step l1 r1, h1.2 rfl, q.mono l1⟩
  | true => exact iteT (q w1 s1 _ l1 r1 (h1.1 rfl))
theorem z_ite (hc : PT X z (tT T W k)) (ha : PE X x (tE T W a)) (hb : PE X y (tE T W b)) : PE X (.IfExp z x y pos) (tE T W (.ite k a b)) := by
  refine PE.imp (pe_ifExp hc ha hb) fun σ H Q q => ?_
  obtain ⟨w, Γ, st, P, R, A, h, q⟩ := q
  rw [wE] at h
  refine ⟨w, Γ, st, _, R, A, h, fun w1 s1 t l1 r1 h1 => ?_⟩
  cases t with
  | true => exact iteT ⟨w1, Γ, s1, _, R, A.step l1 r1, h1.1 rfl, q.mono l1⟩
  | false => exact iteF ⟨w1, Γ, s1, _, R, A.step l1 r1, h1.2 rfl, q.mono l1⟩
theorem pt_ifExp {c x y : Expr} {tc ta tb : TT} (hc : PT X c tc) (ha : PT X x ta) (hb : PT X y tb) : PT X (.IfExp c x y pos) (fun σ H Q => tc σ H fun t H1 => if t = true then ta σ H1 Q else tb σ H1 Q) := by
  refine ⟨fun pins s σ H Q I h => ?_⟩
  refine isTrue_IfExp (thn (hc.run pins s σ H _ I h) fun d s1 ⟨H1, I1, q1⟩ => ?_)
  cases d with
  | true => exact ha.run pins s1 σ H1 Q I1 q1
  | false => exact hb.run pins s1 σ H1 Q I1 q1
theorem zt_ite (hc : PT X z (tT T W k)) (ha : PT X x (tT T W a)) (hb : PT X y (tT T W b)) : PT X (.IfExp z x y pos) (tT T W (.ite k a b)) := by
  refine PT.imp (pt_ifExp hc ha hb) fun σ H Q q => ?_
  obtain ⟨w, Γ, st, P, R, A, h, q⟩ := q
  rw [wE] at h
  refine ⟨w, Γ, st, _, R, A, h, fun w1 s1 t l1 r1 h1 => ?_⟩
  cases t with
  | true => exact iteT ⟨w1, Γ, s1, _, R, A.step l1 r1, h1.1 rfl, q.mono l1⟩
  | false => exact iteF ⟨w1, Γ, s1, _, R, A.step l1 r1, h1.2 rfl, q.mono l1⟩
theorem zb_ite (hc : PT X z (tT T W k)) (ha : PT X x (tB T W a)) (hb : PT X y (tB T W b)) : PT X (.IfExp z x y pos) (tB T W (.ite k a b)) := by
  refine PT.imp (pt_ifExp hc ha hb) fun σ H Q q => ?_
  obtain ⟨w, Γ, st, P, R, A, h, q⟩ := q
  rw [wE] at h
  refine ⟨w, Γ, st, _, R, A, h, fun w1 s1 t l1 r1 h1 => ?_⟩
  cases t with
  | true => exact iteT ⟨w1, Γ, s1, _, R, A.step l1 r1, h1.1 rfl, q.mono l1⟩
  | false => exact iteF ⟨w1, Γ, s1, _, R, A.step l1 r1, h1.2 rfl, q.mono l1⟩

/-! ### arguments, displays, places -/
theorem za_nil : PA X [] (tA T W .nil) := by
  refine PA.imp pa_nil fun σ H Q q => ?_
  obtain ⟨w, Γ, st, P, R, A, h, q⟩ := q
  rw [wAs] at h
  have := q w st [] [] (Le.refl _) A.r trivial h
  rw [A.h] at this; exact this
theorem za_cons (ok : okX x = true) (ha : PE X x (tE T W a)) (hr : PA X xs (tA T W ps)) : PA X (x :: xs) (tA T W (.cons a ps)) := by
  refine PA.imp (pa_cons ha hr (star_ok ok _ _)) fun σ H Q q => ?_
  obtain ⟨w, Γ, st, P, R, A, h, q⟩ := q
  rw [wAs] at h
  exact ⟨w, Γ, st, _, R, A, h, fun w1 s1 v1 x1 l1 r1 hx h1 => ⟨w1, Γ, s1, _, R, A.step l1 r1, h1, fun w2 s2 vs ys l2 r2 hy h2 => q w2 s2 (v1 :: vs) (x1 :: ys) (l1.trans l2) r2 ⟨hx.mono l2, hy⟩ h2⟩⟩
theorem z_tup {j : Nat} (ha : PA X xs (tA T W ps)) : PE X (.Tuple xs j pos) (tE T W (.tup ps)) := by
  refine PE.imp (pe_tup ha) fun σ H Q q => ?_
  obtain ⟨w, Γ, st, P, R, A, h, q⟩ := q
  rw [wE] at h
  exact ⟨w, Γ, st, _, R, A, h, fun w1 s1 vs ys l1 r1 hx h1 => mkT_res r1 hx (res2 q l1) h1⟩
theorem z_lst (ha : PA X xs (tA T W ps)) : PE X (.List xs pos) (tE T W (.lst ps)) := by
  refine PE.imp (pe_lst ha) fun σ H Q q => ?_
  obtain ⟨w, Γ, st, P, R, A, h, q⟩ := q
  rw [wE] at h
  exact ⟨w, Γ, st, _, R, A, h, fun w1 s1 vs ys l1 r1 hx h1 => mkL_res r1 hx (res2 q l1) h1⟩
theorem z_idx (g : Good T L c X) (ok : okX y = true) (ha : PE X x (tE T W a)) (hb : PE X y (tE T W b)) : PE X (.Subscript x y pos) (tE T W (.idx a b)) := by
  refine PE.imp (pe_ix (opIdx g.K) ha hb (fun o i => sub_ok ok o i)) fun σ H Q q => ?_
  obtain ⟨w, Γ, st, P, R, A, h, q⟩ := q
  rw [wE] at h
  exact ⟨w, Γ, st, _, R, A, h, fun w1 s1 v1 x1 l1 r1 hx h1 => ⟨w1, Γ, s1, _, R, A.step l1 r1, h1, fun w2 s2 v2 x2 l2 r2 hy h2 => ⟨w2, s2, x1, x2, _, rfl, r2, hx.mono l2, hy, h2, fun u v z l r h p => q u s2 v z ((l1.trans l2).trans l) r h p⟩⟩⟩
theorem PO.imp {e : Option Expr} {t t' : TO} (h : PO X e t) (i : ∀ σ H Q, t' σ H Q → t σ H Q) : PO X e t' := ⟨fun pins s σ H Q I q => h.run pins s σ H Q I (i _ _ _ q)⟩
theorem zo_none : PO X none (tO T W .none) := by
  refine PO.imp po_none fun σ H Q q => ?_
  obtain ⟨w, Γ, st, P, R, A, h, q⟩ := q
  rw [wO] at h
  have := q w st _ (Le.refl _) A.r h
  rw [A.h] at this; exact this
theorem zo_some (ha : PE X x (tE T W a)) : PO X (some x) (tO T W (.some a)) := by
  refine PO.imp (po_some ha) fun σ H Q q => ?_
  obtain ⟨w, Γ, st, P, R, A, h, q⟩ := q
  rw [wO] at h
  refine ⟨w, Γ, st, _, R, A, h, fun w1 s1 v1 x1 l1 r1 hx h1 => ?_⟩
  obtain ⟨i, rfl, h1⟩ := onI_iff h1
  exact ⟨i, hx.int, q w1 s1 _ l1 r1 h1⟩
theorem z_slc (g : Good T L c X) {lo hi : Option Expr} {l h : Exo} {p2 : Pos} (ha : PE X x (tE T W a)) (hl : PO X lo (tO T W l)) (hh : PO X hi (tO T W h)) : PE X (.Subscript x (.Slice lo hi none p2) pos) (tE T W (.slc a l h)) := by
  refine PE.imp (pe_slice (opSlc g.K) ha hl hh) fun σ H Q q => ?_
  obtain ⟨w, Γ, st, P, R, A, h, q⟩ := q
  rw [wE] at h
  exact ⟨w, Γ, st, _, R, A, h, fun w1 s1 v1 x1 l1 r1 hx h1 => ⟨w1, Γ, s1, _, R, A.step l1 r1, h1, fun w2 s2 o l2 r2 h2 => ⟨w2, Γ, s2, _, R, (A.step l1 r1).step l2 r2, h2, fun w3 s3 o2 l3 r3 h3 =>
    ⟨w3, s3, x1, _, rfl, r3, (hx.mono l2).mono l3, h3, fun u v z l r h p => q u s3 v z (((l1.trans l2).trans l3).trans l) r h p⟩⟩⟩⟩

/-! ### calls -/
theorem z_call (g : Good T L c X) (tk : Takes X W) {j : Nat} {f : Str} {p1 : Pos} (hg : glC c f = true) (hf : (j, f) ∈ c.fs) (ok : (x :: xs).all okX = true) (ha : PA X (x :: xs) (tA T W ps)) : PE X (.Call (.Name f p1) (x :: xs) [] pos) (tE T W (.call j ps)) := by
  obtain ⟨g1, g2, _⟩ := gl_of g hg
  obtain ⟨m, kp, fd, pn, F, B⟩ := g.fn j f hf
  have ok' : okX x = true ∧ xs.all okX = true := by rw [List.all_cons, Bool.and_eq_true] at ok; exact ok
  refine PE.imp (pe_callS F g.room g1 m kp B (fun σ => passAt tk σ) ha g2 (star_ok ok'.1 _ _) (stars_ok _ ok'.2)) fun σ H Q q => ?_
  obtain ⟨w, Γ, st, P, R, A, h, q⟩ := q
  rw [wE] at h
  exact ⟨w, Γ, st, _, R, A, h, fun w1 s1 vs ws l1 r1 hx h1 => ⟨w1, s1, ws, P, R, rfl, r1, hx, h1, q.mono l1, fun w' st' k l r hR => A.x w' st' k (l1.trans l) r hR⟩⟩
theorem blt_ok (g : Good T L c X) {f y : Str} (h : bltC c f y = true) : f = y ∧ Gl X f ∧ (f == ("__debug__" : Str)) = false ∧ f ≠ "__name__" ∧ X.mg f = none := by
  unfold bltC at h
  rw [Bool.and_eq_true, Bool.and_eq_true] at h
  obtain ⟨⟨h1, h2⟩, h3⟩ := h
  obtain ⟨g1, g2, g3⟩ := gl_of g h2
  exact ⟨of_decide_eq_true h1, g1, g2, g3, g.bl f (of_decide_eq_true h3)⟩
theorem boot_bt (b : Bt) : bootBuiltins (btN b) = some (btV b) := by cases b <;> decide +kernel
theorem z_blt (g : Good T L c X) {b : Bt} {f : Str} {p1 : Pos} (hf : bltC c f (btN b) = true) (ok : (x :: xs).all okX = true) (ha : PA X (x :: xs) (tA T W ps)) : PE X (.Call (.Name f p1) (x :: xs) [] pos) (tE T W (.blt b ps)) := by
  obtain ⟨e, g1, g2, g3, m⟩ := blt_ok g hf
  subst e
  have ok' : okX x = true ∧ xs.all okX = true := by rw [List.all_cons, Bool.and_eq_true] at ok; exact ok
  have key := opBt (X := X) b g.K g.calm g.hu
  have bb := boot_bt b
  have fin : ∀ σ H Q, tE T W (.blt b ps) σ H Q → tCB (rN T (blt b)) (tA T W ps) σ H Q := fun σ H Q q => by
    obtain ⟨w, Γ, st, P, R, A, h, q⟩ := q
    rw [wE] at h
    exact ⟨w, Γ, st, _, R, A, h, fun w1 s1 vs ws l1 r1 hx h1 => ⟨w1, s1, ws, _, rfl, r1, hx, h1, res2 q l1⟩⟩
  cases b <;> first
    | exact PE.imp (pe_callB key g1 m bb ha g3 g2 (star_ok ok'.1 _ _) (stars_ok _ ok'.2)) fin
    | exact PE.imp (pe_callTy key g1 m bb ha g3 g2 (star_ok ok'.1 _ _) (stars_ok _ ok'.2)) fin

theorem tyTab (t : Ty) : bootBuiltins (tyN t) = some (.type (tyS t)) := by cases t <;> decide +kernel
def kdS : Kd → String | .non => "NoneType" | .bool => "bool" | .int => "int" | .str => "str" | .list => "list" | .tuple => "tuple" | .dict => "dict"
theorem kd_key : ∀ (k : Kd) (t : Ty), kitB (kdS k) (tyS t) = some (isTyS t k) := by intro k t; cases k <;> cases t <;> decide +kernel
theorem dp_ty {K : PySem.W.Frag} {H : Hp} {v : V} {d : PyData} (h : Dp K H v d) : TyX K H v (.type (kdS (kd d))) := by
  cases h with
  | non => exact .base .non
  | bl b => exact .base (.bl b)
  | int b => exact .base (.int b)
  | str b => exact .base (.str b)
  | lst e _ =>
    rcases e with (e | ⟨o, e⟩) | ⟨o, its, n, e1, e2, _⟩
    · exact .base (.lst e)
    · exact .base (.frz e)
    · exact .kList e1 e2
  | tup e _ =>
    rcases e with (e | ⟨o, e⟩) | ⟨o, its, n, e1, e2, _⟩
    · exact .base (.tup e)
    · exact .fTuple e
    · exact .kTuple e1 e2
theorem z_isi (g : Good T L c X) {t : Ty} {f n : Str} {p1 p2 : Pos} (hf : bltC c f "isinstance" = true) (hn : bltC c n (tyN t) = true) (ok : okX x = true) (ha : PE X x (tE T W a)) : PE X (.Call (.Name f p1) [x, .Name n p2] [] pos) (tE T W (.isi a t)) := by
  obtain ⟨e, g1, g2, g3, m⟩ := blt_ok g hf
  subst e
  obtain ⟨e, n1, n2, n3, nm⟩ := blt_ok g hn
  subst e
  have c1 := call_isi (X := X)
  rw [g.K] at c1
  have pn : PE X (.Name (tyN t) p2) (tC (.ty (tyS t))) := pe_bltn n1 nm (tyTab t) rfl n3 n2
  refine PE.imp (pe_callB c1 g1 m (by decide +kernel) (pa_cons ha (pa_cons pn pa_nil) (star_ok ok _ _)) (by decide) (by decide) (star_ok ok _ _) rfl) fun σ H Q q => ?_
  obtain ⟨w, Γ, st, P, R, A, h, q⟩ := q
  rw [wE] at h
  refine ⟨w, Γ, st, _, R, A, h, fun w1 s1 v1 x1 l1 r1 hx h1 => ?_⟩
  obtain ⟨d, e, h1⟩ := onD_iff h1
  exact ⟨v1, _, _, _, _, rfl, .ty _, dp_ty (hx.asD r1 e), kit_ty (kd_key _ t), q w1 s1 _ _ l1 r1 (.ofBool _) h1⟩

/-! ### a module's constant, a def as a value -/
theorem z_glob (g : Good T L c X) {n : Str} {d : PyData} (hg : glC c n = true) (hc : c.cs.any (fun p => decide (p.1 = n) && eqPD p.2 d) = true) : PE X (.Name n pos) (tE T W (.glob n d)) := by
  obtain ⟨g1, g2, _⟩ := gl_of g hg
  obtain ⟨⟨n', d'⟩, hm, he⟩ := List.any_eq_true.mp hc
  rw [Bool.and_eq_true] at he
  have e1 : n' = n := of_decide_eq_true he.1
  have e2 : d' = d := eqPD_of he.2
  subst e1 e2
  obtain ⟨u, v, m, rv, dr⟩ := g.cs _ _ hm
  refine PE.imp (pe_glob g1 m rv g2) fun σ H Q q => ?_
  obtain ⟨w, Γ, st, P, R, A, h, q⟩ := q
  rw [wE] at h
  show Q v H
  rw [← A.h]
  exact q w st _ _ (Le.refl _) A.r (.d (dr _)) h
theorem z_fnv (g : Good T L c X) {n : Str} {j : Nat} (hg : glC c n = true) (hf : (j, n) ∈ c.fs) : PE X (.Name n pos) (tE T W (.fnv j)) := by
  obtain ⟨g1, g2, _⟩ := gl_of g hg
  obtain ⟨m, _⟩ := g.fn j n hf
  refine PE.imp (pe_glob (v := .ref (T.fa j)) g1 m rfl g2) fun σ H Q q => ?_
  obtain ⟨w, Γ, st, P, R, A, h, q⟩ := q
  rw [wE] at h
  show Q _ H
  rw [← A.h]
  exact q w st _ _ (Le.refl _) A.r (.fn j) h

/-! ### new cells -/
theorem z_new (h : PE X e (tF T W p)) : PE X e (tE T W (.new p)) := PE.imp h fun σ H Q q => tF_new p q
theorem onDL_iff {x : Z.W} {f : List PyData → Prop} (h : onDL x f) : ∃ ds, x = .d (.list ds) ∧ f ds := by
  unfold onDL at h; split at h
  · exact ⟨_, rfl, h⟩
  · exact h.elim
theorem fborn {w w1 : Wo} {s1 : Store} {Q : VK} {P : List PyData → Store → Prop} (q : FQ T w Q P) (l1 : Le w w1) (r1 : Rel T.K w1 s1) {vs : List V} {ds : List PyData} (d : DRA T.K w1.F vs ds) (h : P ds s1) {a : Addr} (n : w1.H a = none) : Q (.ref a) (upd w1.H a (.lst vs)) := by
  obtain ⟨r2, l2, nF, na⟩ := r1.born (o := .lst vs) n
  refine q ⟨w1.F, w1.ad, upd w1.H a (.lst vs)⟩ s1 a vs ds (l1.trans l2) r2 upd_same nF na ?_ d h
  cases e : w.H a with
  | none => rfl
  | some o =>
    by_cases z : a ∈ w.ad
    · obtain ⟨m, em⟩ := l1.a
      exact absurd (by rw [em]; exact List.mem_append_left _ z) na
    · have := l1.h a o z e
      rw [n] at this; cases this
theorem zf_lst (ha : PA X xs (tA T W ps)) : PE X (.List xs pos) (tF T W (.lst ps)) := by
  refine PE.imp (pe_lst ha) fun σ H Q q => ?_
  obtain ⟨w, Γ, st, P, R, A, h, q⟩ := q
  rw [wE] at h
  refine ⟨w, Γ, st, _, R, A, h, fun w1 s1 vs ys l1 r1 hx h1 => ?_⟩
  unfold mkL at h1
  split at h1
  · exact ⟨by rw [hx.length]; exact h1.1, fun p n => fborn q l1 r1 (dats_dra hx (by assumption)) h1.2 n⟩
  · split at h1
    · exact h1.2.elim
    · exact h1.elim
theorem zf_add (g : Good T L c X) (ha : PE X x (tE T W a)) (hb : PE X y (tE T W b)) : PE X (.BinOp x .Add y pos) (tF T W (.bin .Add a b)) := by
  refine PE.imp (pe_op op_cat ha hb) fun σ H Q q => ?_
  obtain ⟨w, Γ, st, P, R, A, h, q⟩ := q
  rw [wE] at h
  refine ⟨w, Γ, st, _, R, A, h, fun w1 s1 v1 x1 l1 r1 hx h1 => ⟨w1, Γ, s1, _, R, A.step l1 r1, h1, fun w2 s2 v2 x2 l2 r2 hy h2 => ?_⟩⟩
  have h2 : bAdd x1 x2 s2 (fun w => onDL w fun ds => P ds s2) := h2
  unfold bAdd at h2
  split at h2
  · obtain ⟨_, _, h2⟩ := onI_iff h2; exact h2.elim
  · split at h2
    · exact h2.2.elim
    · exact h2.elim
  · split at h2
    · exact h2.2.elim
    · exact h2.elim
  · split at h2
    · exact h2.2.2.2.elim
    · exact h2.elim
  · obtain ⟨xs, ex, h2⟩ := onL_iff h2
    obtain ⟨ys, ey, hz, h2⟩ := onL_iff h2
    obtain ⟨a, us, e1, g1, d1⟩ := (hx.mono l2).asL r2 ex
    obtain ⟨b, vs, e2, g2, d2⟩ := hy.asL r2 ey
    exact ⟨a, b, us, vs, e1, e2, g1, g2, by rw [d1.length, d2.length]; exact hz, fun p n => fborn q (l1.trans l2) r2 (d1.app d2) h2 n⟩
theorem zf_list (g : Good T L c X) {f : Str} {p1 : Pos} (hf : bltC c f (btN .list) = true) (ok : (x :: xs).all okX = true) (ha : PA X (x :: xs) (tA T W ps)) : PE X (.Call (.Name f p1) (x :: xs) [] pos) (tF T W (.blt .list ps)) := by
  obtain ⟨e, g1, g2, g3, m⟩ := blt_ok g hf
  subst e
  have ok' : okX x = true ∧ xs.all okX = true := by rw [List.all_cons, Bool.and_eq_true] at ok; exact ok
  have c1 := call_list_of (X := X)
  rw [g.K] at c1
  refine PE.imp (pe_callTy c1 g1 m (boot_bt .list) ha g3 g2 (star_ok ok'.1 _ _) (stars_ok _ ok'.2)) fun σ H Q q => ?_
  obtain ⟨w, Γ, st, P, R, A, h, q⟩ := q
  rw [wE] at h
  refine ⟨w, Γ, st, _, R, A, h, fun w1 s1 vs ws l1 r1 hx hb => ?_⟩
  have hb : bList ws s1 (fun w => onDL w fun ds => P ds s1) := hb
  unfold bList at hb
  split at hb
  · obtain ⟨v, rfl, hv⟩ := wrs1 hx
    cases hv with
    | fz h1 h2 => exact ⟨_, _, rfl, .inl (r1.sub.sqL h1), fun l n => fborn q l1 r1 h2 hb n⟩
  · obtain ⟨a, us, ds, rfl, o, d1, k, hv, e⟩ := seqArg r1 hx hb
    refine ⟨a, us, rfl, ?_, fun l n => fborn q l1 r1 d1 k n⟩
    rcases o with o | o
    · exact .inl (.of o)
    · exact .inr o
  · exact hb.elim
theorem zf_sorted (g : Good T L c X) {f : Str} {p1 : Pos} (hf : bltC c f (btN .sorted) = true) (ok : (x :: xs).all okX = true) (ha : PA X (x :: xs) (tA T W ps)) : PE X (.Call (.Name f p1) (x :: xs) [] pos) (tF T W (.blt .sorted ps)) := by
  obtain ⟨e, g1, g2, g3, m⟩ := blt_ok g hf
  subst e
  have ok' : okX x = true ∧ xs.all okX = true := by rw [List.all_cons, Bool.and_eq_true] at ok; exact ok
  have c1 := crSrt (X := X) g.hu
  rw [g.K] at c1
  refine PE.imp (pe_callB c1 g1 m (boot_bt .sorted) ha g3 g2 (star_ok ok'.1 _ _) (stars_ok _ ok'.2)) fun σ H Q q => ?_
  obtain ⟨w, Γ, st, P, R, A, h, q⟩ := q
  rw [wE] at h
  refine ⟨w, Γ, st, _, R, A, h, fun w1 s1 vs ws l1 r1 hx hb => ?_⟩
  have hb : bSorted ws s1 (fun w => onDL w fun ds => P ds s1) := hb
  unfold bSorted at hb
  split at hb
  · obtain ⟨a, us, ds, rfl, h1, d1, ok, k⟩ := listArg r1 hx hb
    exact ⟨a, us, ds, DR T.K w1.F, rfl, .of h1, fun v d g => DR.dp _ (DR.mono r1.sub _ g), dra_pr d1, ok, fun p ys n g => fborn q l1 r1 (pr_dra g) k n⟩
  · exact hb.elim

/-- xs.pop() -/
theorem z_pop {p1 p2 : Pos} {n : Str} (hn : n = ("pop" : Str)) (hl : (p1.endLine == p2.line) = true) (hx : isNm x = true) (ha : PE X x (tE T W a)) : PE X (.Call (.Attribute x n p1) [] [] p2) (tE T W (.pop a)) := by
  subst hn
  cases x with
  | Name id p0 =>
    refine PE.imp (pe_bm0 PySem.F.plainAttrs_list PySem.F.slot_list_pop PySem.F.type_list_pop mt_pop ha rfl hl) fun σ H Q q => ?_
    obtain ⟨w, Γ, st, P, R, A, h, q⟩ := q
    rw [wE] at h
    refine ⟨w, Γ, st, _, R, A, h, fun w1 s1 v1 x1 l1 r1 hx h1 => ?_⟩
    obtain ⟨c, ds, rfl, e1, h1⟩ := onC_iff h1
    obtain ⟨y, e2, h1⟩ := onS_iff h1
    cases hx with
    | p e3 =>
      rename_i ad
      obtain ⟨nF, vs, e4, d1⟩ := r1.cell _ _ _ e3 e1
      have hlen := d1.length
      have hy : ds[ds.length - 1]? = some y := by rw [← e2, List.getLast?_eq_getElem?]
      obtain ⟨v, ev, dv⟩ := d1.get hy
      have dd : DRA T.K w1.F vs.dropLast ds.dropLast := by
        rw [List.dropLast_eq_take, List.dropLast_eq_take, hlen]; exact d1.take _
      refine ⟨.inl ⟨rfl, _, .of e4⟩, ad, vs, v, rfl, rfl, e4, by rw [hlen]; exact ev, ?_⟩
      obtain ⟨r2, l2⟩ := r1.stored e3 e1 dd
      exact q ⟨w1.F, w1.ad, upd w1.H ad (.lst vs.dropLast)⟩ _ _ _ (l1.trans l2) r2 (.d dv) h1
  | _ => exact absurd hx Bool.false_ne_true
end
end Z
namespace Z
open PySem PySem.Spec PyProof.Rows L2

section
variable {T : Tab} {L : Nat} {c : Cc} {X : Cx} {W : WX} {e x y z : Expr} {es xs : List Expr} {p a b k : Ex} {ps : Exs} {pos : Pos}

/-! ### comparisons -/
theorem z_cmp1 (g : Good T L c X) {o : CmpOp} (ok : okX y = true) (ha : PE X x (tE T W a)) (hb : PE X y (tE T W b)) : PE X (.Compare x [o] [y] pos) (tE T W (.cmp a (.last o b))) := by
  refine PE.imp (pe_cmpR (opC o g.K (by have := g.hu; omega)) ha hb (mark_ok ok o)) fun σ H Q q => ?_
  obtain ⟨w, Γ, st, P, R, A, h, q⟩ := q
  rw [wE] at h
  refine ⟨w, Γ, st, _, R, A, h, fun w1 s1 v1 x1 l1 r1 hx h1 => ?_⟩
  rw [wCh] at h1
  exact ⟨w1, Γ, s1, _, R, A.step l1 r1, h1, fun w2 s2 v2 x2 l2 r2 hy h2 => ⟨w2, s2, x1, x2, fun v => P v s2, rfl, r2, hx.mono l2, hy, h2, fun u v z l r h p => q u s2 v z ((l1.trans l2).trans l) r h p⟩⟩
theorem zt_cmp1 (g : Good T L c X) {o : CmpOp} (ok : okX y = true) (ha : PE X x (tE T W a)) (hb : PE X y (tE T W b)) : PT X (.Compare x [o] [y] pos) (tB T W (.cmp a (.last o b))) := by
  refine PT.imp (pt_cmpR (opC o g.K (by have := g.hu; omega)) ha hb (mark_ok ok o)) fun σ H Q q => ?_
  obtain ⟨w, Γ, st, P, R, A, h, q⟩ := q
  rw [wE] at h
  refine ⟨w, Γ, st, _, R, A, h, fun w1 s1 v1 x1 l1 r1 hx h1 => ?_⟩
  rw [wCh] at h1
  refine ⟨w1, Γ, s1, _, R, A.step l1 r1, h1, fun w2 s2 v2 x2 l2 r2 hy h2 => ⟨w2, s2, x1, x2, fun v => onB v fun t => P t s2, rfl, r2, hx.mono l2, hy, h2, fun u v z l r h p => ?_⟩⟩
  obtain ⟨t, rfl, p⟩ := onB_iff p
  exact ⟨t, h.bool, q u s2 t ((l1.trans l2).trans l) r p⟩

/-- the rest of a chain, behind a left value -/
def ChV (T : Tab) (W : WX) (X : Cx) (d : Ch) (ops : List CmpOp) (es : List Expr) : Prop :=
  ∀ (pos : Pos) (pins : List (Addr × Obj)) (s : Shared) (σ : L2.St) (w : Wo) (Γ : Env') (st : Store) (R : XP) (v : V) (u : Value) (wx : Z.W) (P : Bool → Store → Prop) (Q : Bool → Hp → Prop), Inv X pins σ w.H s → RelV v u → At T W w Γ st R σ w.H → WR T w v wx → wCh T.S d wx Γ st P R → TQ T w Q P →
    wpAny (model X.prog X.w) X.A (compareChain pos u ops (evalEach es X.env)) (EP X pins σ fun z H' => ∃ b, z = .bl b ∧ Q b H') X.xe s ∧ wpAny (model X.prog X.w) X.A (testChain pos u ops (evalEach es X.env)) (TP X pins σ Q) X.xe s
theorem ch_last (g : Good T L c X) {o : CmpOp} (hb : PE X y (tE T W b)) : ChV T W X (.last o b) [o] [y] := by
  intro pos pins s σ w Γ st R v u wx P Q I rv A hx h q
  rw [wCh] at h
  have rd : ∀ {K' : V → Hp → Prop}, (∀ w2 s2 t, Le w w2 → Rel T.K w2 s2 → P t s2 → K' (.bl t) w2.H) → tE T W b σ w.H fun v2 H2 => r2 T (c2 (cop o)) v v2 H2 K' := fun {K'} hK => ⟨w, Γ, st, _, R, A, h, fun w2 s2 v2 y2 l2 r2 hy h2 => ⟨w2, s2, wx, y2, fun z => onB z fun t => P t s2, rfl, r2, hx.mono l2, hy, h2, fun u' v' z l r' hz p => by
    obtain ⟨t, rfl, p⟩ := onB_iff p
    rw [hz.bool]
    exact hK u' s2 t (l2.trans l) r' p⟩⟩
  have op := opC (X := X) (T := T) o g.K (by have := g.hu; omega)
  refine ⟨chain_last (thn (hb.run pins s σ w.H _ I (rd (K' := fun z H' => ∃ b, z = .bl b ∧ Q b H') fun w2 s2 t l r p => ⟨t, rfl, q w2 s2 t l r p⟩)) fun u2 s2 ⟨v2, H2, I2, r2', q2⟩ => op pins s2 σ H2 v v2 u u2 _ I2 rv r2' q2), ?_⟩
  refine test_last (thn (hb.run pins s σ w.H _ I (rd (K' := fun z H' => ∃ b, z = .bl b ∧ Q b H') fun w2 s2 t l r p => ⟨t, rfl, q w2 s2 t l r p⟩)) fun u2 s2 ⟨v2, H2, I2, r2', q2⟩ => thn (op pins s2 σ H2 v v2 u u2 _ I2 rv r2' q2) fun c3 s3 ⟨z3, H3, I3, r3, t, e3, q3⟩ => ?_)
  subst e3
  cases r3
  exact wpAny_truthy_bool ⟨H3, I3, q3⟩
theorem ch_link (g : Good T L c X) {o o2 : CmpOp} {d : Ch} {os : List CmpOp} (hb : PE X y (tE T W b)) (hd : ChV T W X d (o2 :: os) (z :: xs)) : ChV T W X (.link o b d) (o :: o2 :: os) (y :: z :: xs) := by
  intro pos pins s σ w Γ st R v u wx P Q I rv A hx h q
  rw [wCh] at h
  have op := opC (X := X) (T := T) o g.K (by have := g.hu; omega)
  have rd : tE T W b σ w.H fun v2 H2 => r2 T (c2 (cop o)) v v2 H2 fun z H' => ∃ t, z = .bl t ∧ ∃ (w3 : Wo) (s3 : Store) (y2 : Z.W), w3.H = H' ∧ Le w w3 ∧ Rel T.K w3 s3 ∧ WR T w3 v2 y2 ∧ wIf t (wCh T.S d y2 Γ s3 P R) (P false s3) :=
    ⟨w, Γ, st, _, R, A, h, fun w2 s2 v2 y2 l2 r2 hy h2 => ⟨w2, s2, wx, y2, fun z => onB z fun t => wIf t (wCh T.S d y2 Γ s2 P R) (P false s2), rfl, r2, hx.mono l2, hy, h2, fun u' v' z l r' hz p => by
      obtain ⟨t, rfl, p⟩ := onB_iff p
      exact ⟨t, hz.bool, u', s2, y2, rfl, l2.trans l, r', hy.mono l, p⟩⟩⟩
  constructor
  · refine chain_link (thn (hb.run pins s σ w.H _ I rd) fun u2 s2 ⟨v2, H2, I2, r2', q2⟩ => thn (op pins s2 σ H2 v v2 u u2 _ I2 rv r2' q2) fun c3 s3 ⟨z3, H3, I3, r3, t, e3, w3, st3, y2, eH, l3, rr3, hy, hi⟩ => ?_)
    subst e3 eH
    cases r3
    refine wpAny_truthy_bool ?_
    cases t with
    | true => exact ite_tt (hd pos pins s3 σ w3 Γ st3 R v2 u2 y2 P Q I3 r2' (A.step l3 rr3) hy (hi.1 rfl) (q.mono l3)).1
    | false => exact ite_ff ⟨.bl false, w3.H, I3, rfl, false, rfl, q w3 st3 false l3 rr3 (hi.2 rfl)⟩
  · refine test_link (thn (hb.run pins s σ w.H _ I rd) fun u2 s2 ⟨v2, H2, I2, r2', q2⟩ => thn (op pins s2 σ H2 v v2 u u2 _ I2 rv r2' q2) fun c3 s3 ⟨z3, H3, I3, r3, t, e3, w3, st3, y2, eH, l3, rr3, hy, hi⟩ => ?_)
    subst e3 eH
    cases r3
    refine wpAny_truthy_bool ?_
    cases t with
    | true => exact ite_tt (hd pos pins s3 σ w3 Γ st3 R v2 u2 y2 P Q I3 r2' (A.step l3 rr3) hy (hi.1 rfl) (q.mono l3)).2
    | false => exact ite_ff ⟨w3.H, I3, q w3 st3 false l3 rr3 (hi.2 rfl)⟩
theorem z_chain {o o2 : CmpOp} {os : List CmpOp} {d : Ch} (ha : PE X x (tE T W a)) (hd : ChV T W X d (o :: o2 :: os) (y :: z :: xs)) (hm : lastMarks (o :: o2 :: os) (y :: z :: xs) = false) : PE X (.Compare x (o :: o2 :: os) (y :: z :: xs) pos) (tE T W (.cmp a d)) := by
  refine ⟨fun pins s σ H Q I h => ?_⟩
  obtain ⟨w, Γ, st, P, R, A, h, q⟩ := h
  rw [wE] at h
  refine Compare_chain (thn (ha.run pins s σ H (fun v H1 => ∃ (w1 : Wo) (s1 : Store) (x1 : Z.W), w1.H = H1 ∧ Le w w1 ∧ Rel T.K w1 s1 ∧ WR T w1 v x1 ∧ wCh T.S d x1 Γ s1 (fun b s2 => P (.d (.bool b)) s2) R) I ⟨w, Γ, st, _, R, A, h, fun w1 s1 v1 x1 l1 r1 hx h1 => ⟨w1, s1, x1, rfl, l1, r1, hx, h1⟩⟩) fun u s1 hh => ?_) hm
  obtain ⟨v, H1, I1, r1, w1, st1, x1, eH, l1, rr1, hx, h1⟩ := hh
  subst eH
  refine thn ((hd _ pins s1 σ w1 Γ st1 R v u x1 _ (fun b H' => Q (.bl b) H') I1 r1 (A.step l1 rr1) hx h1 fun w2 s2 t l2 r2 p => q w2 s2 _ _ (l1.trans l2) r2 (.ofBool _) p).1) fun c2 s2 ⟨z, H2, I2, rz, t, ez, qz⟩ => ?_
  subst ez
  exact ⟨_, H2, I2, rz, qz⟩
theorem zt_chain {o o2 : CmpOp} {os : List CmpOp} {d : Ch} (ha : PE X x (tE T W a)) (hd : ChV T W X d (o :: o2 :: os) (y :: z :: xs)) (hm : lastMarks (o :: o2 :: os) (y :: z :: xs) = false) : PT X (.Compare x (o :: o2 :: os) (y :: z :: xs) pos) (tB T W (.cmp a d)) := by
  refine ⟨fun pins s σ H Q I h => ?_⟩
  obtain ⟨w, Γ, st, P, R, A, h, q⟩ := h
  rw [wE] at h
  refine isTrue_chain (thn (ha.run pins s σ H (fun v H1 => ∃ (w1 : Wo) (s1 : Store) (x1 : Z.W), w1.H = H1 ∧ Le w w1 ∧ Rel T.K w1 s1 ∧ WR T w1 v x1 ∧ wCh T.S d x1 Γ s1 P R) I ⟨w, Γ, st, _, R, A, h, fun w1 s1 v1 x1 l1 r1 hx h1 => ⟨w1, s1, x1, rfl, l1, r1, hx, h1⟩⟩) fun u s1 hh => ?_) hm
  obtain ⟨v, H1, I1, r1, w1, st1, x1, eH, l1, rr1, hx, h1⟩ := hh
  subst eH
  exact (hd _ pins s1 σ w1 Γ st1 R v u x1 P Q I1 r1 (A.step l1 rr1) hx h1 (q.mono l1)).2
theorem tB_cmp {d : Ch} {σ : L2.St} {H : Hp} {Q : Bool → Hp → Prop} (h : tT T W (.cmp a d) σ H Q) : tB T W (.cmp a d) σ H Q := by
  obtain ⟨w, Γ, st, P, R, A, h, q⟩ := h
  refine ⟨w, Γ, st, P, R, A, ?_, q⟩
  rw [wE] at h ⊢
  exact h

/-! ### targets -/
theorem loc_of (g : Good T L c X) {i : Nat} {n : Str} (h : locC c i n = true) : X.N[i]? = some n ∧ L2.Loc X.env.scope n ∧ (X.fn n = true ∨ X.env.scope.names.lookup n = some .local) := by
  unfold locC at h
  rw [Bool.and_eq_true] at h
  obtain ⟨h1, h2⟩ := h
  refine ⟨by rw [g.N]; exact of_decide_eq_true h1, ?_⟩
  unfold L2.Loc
  rw [g.sc]
  revert h2
  cases e : c.sc.names.lookup n with
  | none => intro h; cases h
  | some k =>
    cases k <;> intro h <;> first
      | exact ⟨.inl rfl, .inr rfl⟩
      | exact ⟨.inr rfl, .inl (by rw [g.df h])⟩
      | cases h
theorem PG.imp {t t' : TG} (h : PG X e t) (i : ∀ v σ H Q, t' v σ H Q → t v σ H Q) : PG X e t' := ⟨fun pins s σ H v u Q I r q => h.run pins s σ H v u Q I r (i _ _ _ _ q)⟩
theorem PG.or {t t' : TG} (h : PG X e t) (h' : PG X e t') : PG X e (fun v σ H Q => t v σ H Q ∨ t' v σ H Q) := ⟨fun pins s σ H v u Q I r q => q.elim (h.run pins s σ H v u Q I r) (h'.run pins s σ H v u Q I r)⟩
theorem zg_name (g : Good T L c X) {i : Nat} {n : Str} (h : locC c i n = true) : PG X (.Name n pos) (tG T (.name i)) := by
  obtain ⟨h1, h2, h3⟩ := loc_of g h
  refine PG.imp (pg_name (by rw [g.N]; exact g.nd) h1 h2 h3) fun v σ H Q q => ?_
  obtain ⟨w, Γ, st, x, P, e, r, ev, hx, ht, q⟩ := q
  subst e
  exact q _ _ (ev.set i hx) ht fun vs h => wipe_set σ i _ vs h
/-- the names of a tuple target -/
def gAll (is : List Nat) : TGs := fun vs σ H Q => vs.length = is.length ∧ Q ((is.zip vs).foldl (fun σ p => σ.set p.1 (some p.2)) σ) H
theorem zg_all (g : Good T L c X) : ∀ {is : List Nat} {es : List Expr}, nmsC c is es = true → PGs X es (gAll is) ∧ (assignEach es X.env).length = is.length ∧ (assignEach es X.env).findIdx? (·.1) = none
  | [], [], _ => ⟨⟨fun pins s σ H vs us Q I r h => by
      obtain ⟨h1, h2⟩ := h
      cases vs with
      | nil => exact pgs_nil.run pins s σ H [] us Q I r ⟨rfl, h2⟩
      | cons _ _ => simp at h1⟩, rfl, rfl⟩
  | [], _ :: _, h => by simp [nmsC] at h
  | _ :: _, [], h => by simp [nmsC] at h
  | i :: is, e :: es, h => by
    cases e with
    | Name n p0 =>
      rw [nmsC, Bool.and_eq_true] at h
      obtain ⟨h1, h2, h3⟩ := loc_of g h.1
      obtain ⟨k1, k2, k3⟩ := zg_all g h.2
      refine ⟨⟨fun pins s σ H vs us Q I r h => ?_⟩, by show (assignEach es X.env).length + 1 = _; rw [k2]; rfl, ?_⟩
      · obtain ⟨e1, q⟩ := h
        cases vs with
        | nil => simp at e1
        | cons v vs => exact (pgs_cons (pg_name (by rw [g.N]; exact g.nd) h1 h2 h3) k1).run pins s σ H _ us Q I r ⟨v, vs, rfl, by simpa using e1, q⟩
      · show List.findIdx? _ ((false, _) :: assignEach es X.env) = none
        rw [List.findIdx?_cons]
        simp [k3]
    | _ => simp [nmsC] at h
theorem env_all {w : Wo} : ∀ {is : List Nat} {vs : List V} {ds : List PyData} {Γ : Env'} {σ : L2.St}, EnvR T w Γ σ → DRA T.K w.F vs ds → vs.length = is.length → EnvR T w (setAll is ds Γ) ((is.zip vs).foldl (fun σ p => σ.set p.1 (some p.2)) σ)
  | [], _, _, _, _, h, .nil, _ => h
  | [], _, _, _, _, _, .cons _ _, e => by simp at e
  | _ :: _, _, _, _, _, _, .nil, e => by simp at e
  | i :: is, _, _, Γ, σ, h, .cons a t, e => by
    have := env_all (is := is) (h.set i (.d a)) t (by simpa using e)
    exact this
theorem zg_tup (g : Good T L c X) {is : List Nat} {j : Nat} (h : nmsC c is es = true) : PG X (.Tuple es j pos) (tG T (.tup is)) := by
  obtain ⟨k1, k2, k3⟩ := zg_all g h
  have c1 := Z.PG.or (pg_tup (pos := pos) (k := j) g.calm k1 k2 k3) (pg_lst (pos := pos) (k := j) g.calm k1 k2 k3)
  rw [g.K] at c1
  refine PG.imp c1 fun v σ H Q q => ?_
  obtain ⟨w, Γ, st, x, P, e, r, ev, hx, ht, q⟩ := q
  subst e
  obtain ⟨ds, e1, e2, ht⟩ := onQ_iff (show onQ _ _ _ from ht)
  obtain ⟨a, vs, rfl, o, d1⟩ := hx.asQ r e1
  have hl : vs.length = is.length := by rw [d1.length]; exact e2
  have fin := q _ _ (env_all ev d1 hl) ht fun us h => wipe_all is vs σ us h
  rcases o with o | o
  · exact .inr ⟨a, vs, rfl, .of o, hl, hl, fin⟩
  · exact .inl ⟨a, vs, rfl, o, hl, hl, fin⟩
theorem zg (g : Good T L c X) {t : Tg} (h : tgC c t e = true) : PG X e (tG T t) := by
  cases t with
  | name i => cases e with
    | Name n p0 => exact zg_name g h
    | _ => exact absurd h Bool.false_ne_true
  | tup is => cases e with
    | Tuple es j p0 => exact zg_tup g h
    | _ => exact absurd h Bool.false_ne_true
end
end Z
namespace Z
open PySem PySem.Spec PyProof.Rows L2

section
variable {T : Tab} {L : Nat} {c : Cc} {X : Cx} {W : WX} {e x y z tg : Expr} {es xs : List Expr} {p a b k : Ex} {ps : Exs} {pos : Pos}

/-! ### what is walked -/
theorem itok {w : Wo} {J : L2.It} {n : Nat} {G : Hp → Prop} {Y : Nat → Hp → V → Hp → Prop} {ws : List Z.W} (wk : Walk J n G Y) (hn : n = ws.length) (hG : ∀ w' st', Le w w' → Rel T.K w' st' → G w'.H)
    (hY : ∀ i w' st' v H', Le w w' → Rel T.K w' st' → i < n → Y i w'.H v H' → ∃ w'' y, w''.H = H' ∧ Le w' w'' ∧ Rel T.K w'' st' ∧ ws[i]? = some y ∧ WR T w'' v y) : ItOk T w J ws := by
  subst hn
  exact ⟨fun i w' st' l r hi => wk.goes i w'.H hi (hG w' st' l r), fun w' st' l r => wk.stops w'.H (hG w' st' l r), fun i w' st' v H' l r hi y => hY i w' st' v H' l r hi (wk.yields i w'.H v H' hi (hG w' st' l r) y)⟩
theorem it_at {w : Wo} {xs : List V} {ds : List PyData} (d : DRA T.K w.F xs ds) : ∀ i w' st' v H', Le w w' → Rel T.K w' st' → i < xs.length → YAt xs i w'.H v H' → ∃ w'' y, w''.H = H' ∧ Le w' w'' ∧ Rel T.K w'' st' ∧ (ds.map Z.W.d)[i]? = some y ∧ WR T w'' v y := fun i w' st' v H' l r hi y => by
  obtain ⟨rfl, hx⟩ := y
  obtain ⟨d', e1, e2⟩ := d.get' hx
  exact ⟨w', .d d', rfl, Le.refl _, r, by rw [List.getElem?_map, e1]; rfl, .d (DR.mono l.f _ e2)⟩
theorem it_fn {w : Wo} {ks : List Nat} : ∀ i w' st' v H', Le w w' → Rel T.K w' st' → i < (ks.map fun k => V.ref (T.fa k)).length → YAt (ks.map fun k => V.ref (T.fa k)) i w'.H v H' → ∃ w'' y, w''.H = H' ∧ Le w' w'' ∧ Rel T.K w'' st' ∧ (ks.map Z.W.fn)[i]? = some y ∧ WR T w'' v y := fun i w' st' v H' l r hi y => by
  obtain ⟨rfl, hx⟩ := y
  rw [List.getElem?_map] at hx
  cases e : ks[i]? with
  | none => rw [e] at hx; cases hx
  | some k =>
    rw [e] at hx; cases hx
    exact ⟨w', .fn k, rfl, Le.refl _, r, by rw [List.getElem?_map, e]; rfl, .fn k⟩
theorem it_list {w : Wo} {a : Addr} {xs : List V} {ds : List PyData} (h : w.F a = some (.lst xs)) (d : DRA T.K w.F xs ds) : ItOk T w (Itl T.K a) (ds.map Z.W.d) :=
  itok walk_list (by rw [List.length_map]; exact d.length) (fun w' st' l r => .of (r.sub _ _ (l.f _ _ h))) (it_at d)
theorem it_tup {w : Wo} {a : Addr} {xs : List V} {ds : List PyData} (h : SqT T.K w.F a xs) (d : DRA T.K w.F xs ds) : ItOk T w (Itt T.K a) (ds.map Z.W.d) :=
  itok walk_tup (by rw [List.length_map]; exact d.length) (fun w' st' l r => r.sub.sqT (l.f.sqT h)) (it_at d)
theorem it_fl {w : Wo} {a : Addr} {ks : List Nat} (h : w.F a = some (.lst (ks.map fun k => V.ref (T.fa k)))) : ItOk T w (Itl T.K a) (ks.map Z.W.fn) :=
  itok walk_list (by rw [List.length_map, List.length_map]) (fun w' st' l r => .of (r.sub _ _ (l.f _ _ h))) it_fn
theorem it_ft {w : Wo} {a : Addr} {ks : List Nat} (h : SqT T.K w.F a (ks.map fun k => V.ref (T.fa k))) : ItOk T w (Itt T.K a) (ks.map Z.W.fn) :=
  itok walk_tup (by rw [List.length_map, List.length_map]) (fun w' st' l r => r.sub.sqT (l.f.sqT h)) it_fn
theorem it_range {w : Wo} {lo hi : Int} : ItOk T w (Itr lo (hi - lo).toNat) (rngD lo hi) :=
  itok walk_range (by unfold rngD; rw [List.length_map, List.length_range]) (fun _ _ _ _ => trivial) fun i w' st' v H' l r hi y => by
    obtain ⟨rfl, rfl⟩ := y
    refine ⟨w', _, rfl, Le.refl _, r, ?_, .ofInt _⟩
    unfold rngD
    rw [List.getElem?_map, List.getElem?_range hi]; rfl
theorem pair_new {w' : Wo} {st' : Store} (r : Rel T.K w' st') {Tp : Addr} {x y : V} {d e : PyData} (n : w'.H Tp = none) (hx : DR T.K w'.F x d) (hy : DR T.K w'.F y e) : ∃ w'' : Wo, w''.H = upd w'.H Tp (.tup [x, y]) ∧ Le w' w'' ∧ Rel T.K w'' st' ∧ WR T w'' (.ref Tp) (.d (.tuple [d, e])) := by
  obtain ⟨r2, l2⟩ := r.laid (o := .tup [x, y]) n
  exact ⟨⟨upd w'.F Tp (.tup [x, y]), w'.ad, upd w'.H Tp (.tup [x, y])⟩, rfl, l2, r2, .d (.tup (.of upd_same) (.cons (DR.mono l2.f _ hx) (.cons (DR.mono l2.f _ hy) .nil)))⟩
theorem enumD_at : ∀ (xs : List PyData) (k i : Nat) (d : PyData), xs[i]? = some d → (enumD k xs)[i]? = some (.d (.tuple [.int ((k + i : Nat) : Int), d]))
  | x :: xs, k, 0, d, h => by simp at h; subst h; rfl
  | x :: xs, k, i + 1, d, h => by
    show (enumD (k + 1) xs)[i]? = _
    rw [enumD_at xs (k + 1) i d (by simpa using h)]
    congr 5; omega
theorem enumD_len : ∀ (xs : List PyData) (k : Nat), (enumD k xs).length = xs.length
  | [], _ => rfl
  | _ :: xs, k => by show (enumD (k + 1) xs).length + 1 = _; rw [enumD_len xs]; rfl
theorem it_enum {w : Wo} {a : Addr} {xs : List V} {ds : List PyData} (h : w.F a = some (.lst xs)) (d : DRA T.K w.F xs ds) : ItOk T w (Ite T.K a) (enumD 0 ds) :=
  itok walk_enum (by rw [enumD_len]; exact d.length) (fun w' st' l r => .of (r.sub _ _ (l.f _ _ h))) fun i w' st' v H' l r hi y => by
    obtain ⟨Tp, x, y, rfl, n, rfl, ex, ey⟩ := y
    cases ex
    obtain ⟨d', e1, e2⟩ := d.get' ey
    obtain ⟨w'', h1, h2, h3, h4⟩ := pair_new r n (.int _) (DR.mono l.f _ e2)
    refine ⟨w'', _, h1, h2, h3, ?_, h4⟩
    rw [enumD_at ds 0 i d' e1]; simp
theorem zipD_at {xs ys : List PyData} {i : Nat} {d e : PyData} (h1 : xs[i]? = some d) (h2 : ys[i]? = some e) : (zipD xs ys)[i]? = some (.d (.tuple [d, e])) := by
  unfold zipD
  rw [List.getElem?_zipWith, h1, h2]
theorem it_zip {w : Wo} {a b : Addr} {xs ys : List V} {ds es : List PyData} (h : w.F a = some (.lst xs)) (d : DRA T.K w.F xs ds) (h' : w.F b = some (.lst ys)) (d' : DRA T.K w.F ys es) : ItOk T w (Itz T.K a b) (zipD ds es) :=
  itok (walk_zip (n := min xs.length ys.length) rfl) (by unfold zipD; rw [List.length_zipWith, d.length, d'.length]) (fun w' st' l r => ⟨.of (r.sub _ _ (l.f _ _ h)), .of (r.sub _ _ (l.f _ _ h'))⟩) fun i w' st' v H' l r hi y => by
    obtain ⟨Tp, x, y, rfl, n, rfl, ex, ey⟩ := y
    obtain ⟨u, e1, e2⟩ := d.get' ex
    obtain ⟨u', e1', e2'⟩ := d'.get' ey
    obtain ⟨w'', h1, h2, h3, h4⟩ := pair_new r n (DR.mono l.f _ e2) (DR.mono l.f _ e2')
    exact ⟨w'', _, h1, h2, h3, zipD_at e1 e1', h4⟩
theorem walk_zipT {K : PySem.W.Frag} {a b : Addr} {xs ys : List V} {n : Nat} (hn : n = min xs.length ys.length) : Walk (RZ.ItzT K a b) n (fun H => SqT K H a xs ∧ SqT K H b ys) (YPair (fun i => xs[i]?) (fun i => ys[i]?)) := by
  subst hn
  refine ⟨fun i _ hi q => ?_, fun _ q => ⟨xs, ys, q.1, q.2, by omega⟩, fun i H v H' _ q y => ?_⟩
  · have h1 : i < xs.length := by omega
    have h2 : i < ys.length := by omega
    exact ⟨xs, ys, xs[i], ys[i], q.1, q.2, by simp [h1], by simp [h2]⟩
  · obtain ⟨Tp, x, y, h1, h2, h3, h4, h5⟩ := y
    exact ⟨Tp, x, y, h1, h2, h3, h4 xs q.1, h5 ys q.2⟩
theorem it_zipT {w : Wo} {a b : Addr} {xs ys : List V} {ds es : List PyData} (h : SqT T.K w.F a xs) (d : DRA T.K w.F xs ds) (h' : SqT T.K w.F b ys) (d' : DRA T.K w.F ys es) : ItOk T w (RZ.ItzT T.K a b) (zipD ds es) :=
  itok (walk_zipT (n := min xs.length ys.length) rfl) (by unfold zipD; rw [List.length_zipWith, d.length, d'.length]) (fun w' st' l r => ⟨r.sub.sqT (l.f.sqT h), r.sub.sqT (l.f.sqT h')⟩) fun i w' st' v H' l r hi y => by
    obtain ⟨Tp, x, y, rfl, n, rfl, ex, ey⟩ := y
    obtain ⟨u, e1, e2⟩ := d.get' ex
    obtain ⟨u', e1', e2'⟩ := d'.get' ey
    obtain ⟨w'', h1, h2, h3, h4⟩ := pair_new r n (DR.mono l.f _ e2) (DR.mono l.f _ e2')
    exact ⟨w'', _, h1, h2, h3, zipD_at e1 e1', h4⟩

theorem PI.imp {t t' : TI} (h : PI X tg e t) (i : ∀ σ H Q, t' σ H Q → t σ H Q) : PI X tg e t' := ⟨fun pins s σ H R I q => h.run pins s σ H R I (i _ _ _ q)⟩
def iAny (K : PySem.W.Frag) (tl : TE) : TI := fun σ H R => tl σ H fun x H1 => ∃ a, x = .ref a ∧ (((∃ xs, SqL K H1 a xs) ∧ R (Itl K a) H1) ∨ ((∃ xs, SqT K H1 a xs) ∧ R (Itt K a) H1))
theorem pi_any {l : Expr} {tl : TE} (hl : PE X l tl) : PI X tg l (iAny X.K tl) := by
  refine ⟨fun pins s σ H R I h => ?_⟩
  refine thn (hl.run pins s σ H _ I h) fun v s1 ⟨x, H1, I1, r1, q1⟩ => ?_
  obtain ⟨a, e, q⟩ := q1
  subst e
  cases r1
  rcases q with ⟨⟨xs, hq⟩, q⟩ | ⟨⟨xs, hq⟩, q⟩
  · obtain ⟨its, rv, p, hz⟩ := I1.list hq
    refine wpAny_pyIter_list p.isList ?_
    refine ⟨s1.heap.objs.size, [s1.heap.objs.size], _, _, H1, rfl, I1.kept (t' := s1.toks) fun b o e => Heap.get?_push_of_some _ e, turn_list a _, ⟨_, Heap.get?_push_size _ rfl, rfl, rfl⟩, fun b hb => ?_, q⟩
    have e : b = s1.heap.objs.size := by simpa using hb
    subst e
    exact I1.fpOk (Nat.le_refl _) (I1.hok.fresh (Nat.le_refl _))
  · obtain ⟨its, rv, p, hz⟩ := I1.tuple hq
    refine wpAny_pyIter_tuple (show s1.heap.IsTuple a its.toArray from p) ?_
    refine ⟨s1.heap.objs.size, [s1.heap.objs.size], _, _, H1, rfl, I1.kept (t' := s1.toks) fun b o e => Heap.get?_push_of_some _ e, turn_tuple a _, ⟨_, Heap.get?_push_size _ rfl, rfl, rfl⟩, fun b hb => ?_, q⟩
    have e : b = s1.heap.objs.size := by simpa using hb
    subst e
    exact I1.fpOk (Nat.le_refl _) (I1.hok.fresh (Nat.le_refl _))
theorem zi_e (g : Good T L c X) (ha : PE X x (tE T W a)) : PI X tg x (tIt T W (.e a)) := by
  have c1 := pi_any (tg := tg) ha
  rw [g.K] at c1
  refine PI.imp c1 fun σ H Q q => ?_
  obtain ⟨w, Γ, st, P, R, A, h, q⟩ := q
  rw [wIt] at h
  refine ⟨w, Γ, st, _, R, A, h, fun w1 s1 v1 x1 l1 r1 hx h1 => ?_⟩
  unfold itemsE at h1
  split at h1
  · cases hx with
    | d hx => cases hx with
      | lst e1 e2 => exact ⟨_, rfl, .inl ⟨⟨_, .of (r1.sub _ _ e1)⟩, q w1 s1 _ _ l1 r1 (it_list e1 e2) h1⟩⟩
  · cases hx with
    | d hx => cases hx with
      | tup e1 e2 => exact ⟨_, rfl, .inr ⟨⟨_, r1.sub.sqT e1⟩, q w1 s1 _ _ l1 r1 (it_tup e1 e2) h1⟩⟩
  · cases hx with
    | fll e1 => exact ⟨_, rfl, .inl ⟨⟨_, .of (r1.sub _ _ e1)⟩, q w1 s1 _ _ l1 r1 (it_fl e1) h1⟩⟩
    | flt e1 => exact ⟨_, rfl, .inr ⟨⟨_, r1.sub.sqT e1⟩, q w1 s1 _ _ l1 r1 (it_ft e1) h1⟩⟩
  · exact h1.elim
theorem zi_rng1 (g : Good T L c X) {f : Str} {p1 : Pos} (hf : bltC c f "range" = true) (ok : okX x = true) (ha : PE X x (tE T W a)) : PI X tg (.Call (.Name f p1) [x] [] pos) (tIt T W (.rng1 a)) := by
  obtain ⟨e, g1, g2, g3, m⟩ := blt_ok g hf
  subst e
  refine PI.imp (pi_range1 g1 m (pa_cons ha pa_nil (star_ok ok _ _)) (star_ok ok _ _)) fun σ H Q q => ?_
  obtain ⟨w, Γ, st, P, R, A, h, q⟩ := q
  rw [wIt] at h
  refine ⟨w, Γ, st, _, R, A, h, fun w1 s1 v1 x1 l1 r1 hx h1 => ?_⟩
  obtain ⟨j, rfl, b1, b2, h1⟩ := onI_iff h1
  refine ⟨j, by rw [hx.int], b1, b2, ?_⟩
  have := it_range (T := T) (w := w1) (lo := 0) (hi := j)
  rw [Int.sub_zero] at this
  exact q w1 s1 _ _ l1 r1 this h1
theorem zi_rng2 (g : Good T L c X) {f : Str} {p1 : Pos} (hf : bltC c f "range" = true) (ok : okX x = true) (ok2 : okX y = true) (ha : PE X x (tE T W a)) (hb : PE X y (tE T W b)) : PI X tg (.Call (.Name f p1) [x, y] [] pos) (tIt T W (.rng2 a b)) := by
  obtain ⟨e, g1, g2, g3, m⟩ := blt_ok g hf
  subst e
  refine PI.imp (pi_range2 g1 m (pa_cons ha (pa_cons hb pa_nil (star_ok ok2 _ _)) (star_ok ok _ _)) (by rw [star_ok ok, star_ok ok2]; rfl) (star_ok ok2 _ _)) fun σ H Q q => ?_
  obtain ⟨w, Γ, st, P, R, A, h, q⟩ := q
  rw [wIt] at h
  refine ⟨w, Γ, st, _, R, A, h, fun w1 s1 v1 x1 l1 r1 hx h1 => ⟨w1, Γ, s1, _, R, A.step l1 r1, h1, fun w2 s2 v2 x2 l2 r2 hy h2 => ?_⟩⟩
  obtain ⟨i, j, rfl, rfl, b1, b2, b3, b4, h2⟩ := on2I_iff h2
  exact ⟨i, j, by rw [hx.int, hy.int], ⟨b1, b2, b3, b4⟩, q w2 s2 _ _ (l1.trans l2) r2 it_range h2⟩
theorem zi_enum (g : Good T L c X) {f : Str} {p1 : Pos} (ht : isTupE tg = true) (hf : bltC c f "enumerate" = true) (ok : okX x = true) (ha : PE X x (tE T W a)) : PI X tg (.Call (.Name f p1) [x] [] pos) (tIt T W (.enum a)) := by
  obtain ⟨e, g1, g2, g3, m⟩ := blt_ok g hf
  subst e
  cases tg with
  | Tuple elts kk tp =>
    have c1 := pi_enum (X := X) (p := p1) (elts := elts) (kk := kk) (tpos := tp) (pos := pos) g1 m (pa_cons ha pa_nil (star_ok ok _ _)) (star_ok ok _ _)
    rw [g.K] at c1
    refine PI.imp c1 fun σ H Q q => ?_
    obtain ⟨w, Γ, st, P, R, A, h, q⟩ := q
    rw [wIt] at h
    refine ⟨w, Γ, st, _, R, A, h, fun w1 s1 v1 x1 l1 r1 hx h1 => ?_⟩
    cases hx with
    | d hx => cases hx with
      | lst e1 e2 => exact ⟨_, _, rfl, .of (r1.sub _ _ e1), q w1 s1 _ _ l1 r1 (it_enum e1 e2) h1⟩
      | _ => exact h1.elim
    | _ => exact h1.elim
  | _ => exact absurd ht Bool.false_ne_true
theorem zi_zip (g : Good T L c X) {f : Str} {p1 : Pos} (ht : isTupE tg = true) (hf : bltC c f "zip" = true) (ok : okX x = true) (ok2 : okX y = true) (ha : PE X x (tE T W a)) (hb : PE X y (tE T W b)) : PI X tg (.Call (.Name f p1) [x, y] [] pos) (tIt T W (.zip a b)) := by
  obtain ⟨e, g1, g2, g3, m⟩ := blt_ok g hf
  subst e
  cases tg with
  | Tuple elts kk tp =>
    have c1 := RZ.pi_zipA (X := X) (p := p1) (elts := elts) (kk := kk) (tpos := tp) (pos := pos) g1 m (pa_cons ha (pa_cons hb pa_nil (star_ok ok2 _ _)) (star_ok ok _ _)) (star_ok ok _ _) (by rw [star_ok ok2]; rfl)
    rw [g.K] at c1
    refine PI.imp c1 fun σ H Q q => ?_
    obtain ⟨w, Γ, st, P, R, A, h, q⟩ := q
    rw [wIt] at h
    refine ⟨w, Γ, st, _, R, A, h, fun w1 s1 v1 x1 l1 r1 hx h1 => ⟨w1, Γ, s1, _, R, A.step l1 r1, h1, fun w2 s2 v2 x2 l2 r2 hy h2 => ?_⟩⟩
    have hx := hx.mono l2
    unfold zipW at h2
    split at h2
    · cases hx with
      | d hx => cases hx with
        | lst e1 e2 => cases hy with
          | d hy => cases hy with
            | lst f1 f2 => exact ⟨_, _, _, _, rfl, .inl ⟨.of (r2.sub _ _ e1), .of (r2.sub _ _ f1), q w2 s2 _ _ (l1.trans l2) r2 (it_zip e1 e2 f1 f2) h2⟩⟩
    · cases hx with
      | d hx => cases hx with
        | tup e1 e2 => cases hy with
          | d hy => cases hy with
            | tup f1 f2 => exact ⟨_, _, _, _, rfl, .inr ⟨r2.sub.sqT e1, r2.sub.sqT f1, q w2 s2 _ _ (l1.trans l2) r2 (it_zipT e1 e2 f1 f2) h2⟩⟩
    · exact h2.elim
  | _ => exact absurd ht Bool.false_ne_true

/-! ### comprehensions -/
theorem PTs.imp {ifs : List Expr} {t t' : TT} (h : PTs X ifs t) (i : ∀ σ H Q, t' σ H Q → t σ H Q) : PTs X ifs t' := ⟨fun pins s σ H Q I q => h.run pins s σ H Q I (i _ _ _ q)⟩
theorem zc_none : PTs X [] (tCd T W .none) := by
  refine PTs.imp pts_nil fun σ H Q q => ?_
  obtain ⟨w, Γ, st, P, R, A, h, q⟩ := q
  rw [wC] at h
  have := q w st _ (Le.refl _) A.r h
  rw [A.h] at this; exact this
theorem zc_some (ha : PT X x (tT T W a)) : PTs X [x] (tCd T W (.some a)) := by
  refine PTs.imp (pts_one ha) fun σ H Q q => ?_
  obtain ⟨w, Γ, st, P, R, A, h, q⟩ := q
  rw [wC] at h
  exact ⟨w, Γ, st, P, R, A, h, q⟩
theorem tgIn_sub {own : List (Str × Nat)} {t : Tg} (h : tgIn own t = true) : tgSub t (own.map (·.2)) := by
  cases t with
  | name i =>
    have h : decide (i ∈ own.map (·.2)) = true := h
    show i ∈ own.map (·.2)
    exact of_decide_eq_true h
  | tup is =>
    intro i hi
    have h : decide (i ∈ own.map (·.2)) = true := List.all_eq_true.mp (show is.all (fun i => decide (i ∈ own.map (·.2))) = true from h) i hi
    exact of_decide_eq_true h
/-- what a comprehension over items asks: behind the last turn the list lies at D -/
theorem lc_run {w1 : Wo} {s1 : Store} {Γ : Env'} {σ : L2.St} {ws : List Z.W} {J : L2.It} {own : List (Str × Nat)} {gt : Tg} {cd : Exo} {el : Ex} {Qd : List PyData → Store → Prop} {QD : Addr → Hp → Prop} {D : Addr}
    (r1 : Rel T.K w1 s1) (ev : EnvR T w1 Γ σ) (it : ItOk T w1 J ws) (hsub : tgSub gt (own.map (·.2)))
    (h : wLoop (fun x s2 K => wTg gt x (wipeG Γ (own.map (·.2))) s2 fun Γ' => wC T.S cd Γ' s2 (fun t s3 => wIf t (wE T.S el Γ' s3 (fun w s4 => onV w fun y => K (some y) s4) fun _ _ => False) (K none s3)) fun _ _ => False) Qd ws [] s1)
    (nD : w1.H D = none) (hQ : ∀ w' st' vs ds, Le w1 w' → Rel T.K w' st' → w'.H D = some (.lst vs) → w'.F D = none → D ∉ w'.ad → DRA T.K w'.F vs ds → Qd ds st' → QD D w'.H) :
    ∃ Wt : Nat → Nat → Hp → Prop, (∃ m, Wt 0 m (upd w1.H D (.lst []))) ∧ ∀ i m H, Wt i m H → (J.stop i H ∧ QD D H) ∨ (J.go i H ∧ ∃ Nx : Hp → Prop, (∀ H', Nx H' → ∃ m', m' < m ∧ Wt (i + 1) m' H') ∧ ∀ x H', J.yld i H x H' → tG T gt x (L2.wipe σ (own.map (·.2))) H' fun σ2 H2 => L2.wipe σ2 (own.map (·.2)) = L2.wipe σ (own.map (·.2)) ∧ tCd T (fun _ _ _ _ => False) cd σ2 H2 fun b H3 =>
      if b = true then tE T (fun _ _ _ _ => False) el σ2 H3 fun y H4 => ∃ acc, H4 D = some (.lst acc) ∧ acc.length < sizeLine ∧ Nx (upd H4 D (.lst (acc ++ [y]))) else Nx H3) := by
  let B := fun (x : Z.W) (s2 : Store) (K : Option PyData → Store → Prop) => wTg gt x (wipeG Γ (own.map (·.2))) s2 fun Γ' => wC T.S cd Γ' s2 (fun t s3 => wIf t (wE T.S el Γ' s3 (fun w s4 => onV w fun y => K (some y) s4) fun _ _ => False) (K none s3)) fun _ _ => False
  let St : List Z.W → Hp → Prop := fun rest H => ∃ w' st' vs acc, w'.H = H ∧ Le w1 w' ∧ Rel T.K w' st' ∧ w'.H D = some (.lst vs) ∧ w'.F D = none ∧ D ∉ w'.ad ∧ DRA T.K w'.F vs acc ∧ wLoop B Qd rest acc st'
  obtain ⟨rb, lb, nF, na⟩ := r1.born (o := .lst []) nD
  refine ⟨fun i m H => m = ws.length - i ∧ i ≤ ws.length ∧ St (ws.drop i) H, ⟨_, rfl, Nat.zero_le _, ⟨w1.F, w1.ad, upd w1.H D (.lst [])⟩, s1, [], [], rfl, lb, rb, upd_same, nF, na, .nil, h⟩, fun i m H hW => ?_⟩
  obtain ⟨rfl, hi, w', st', vs, acc, rfl, lw, rw', hD, hF, hA, dr, hl⟩ := hW
  by_cases he : i = ws.length
  · subst he
    rw [List.drop_length] at hl
    exact .inl ⟨it.stop w' st' lw rw', hQ w' st' vs acc lw rw' hD hF hA dr hl⟩
  · have hlt : i < ws.length := by omega
    refine .inr ⟨it.go i w' st' lw rw' hlt, St (ws.drop (i + 1)), fun H' hN => ⟨_, by omega, rfl, by omega, hN⟩, fun v H' hy => ?_⟩
    obtain ⟨w2, y, rfl, l2, r2, ey, hy⟩ := it.yld i w' st' v H' lw rw' hlt hy
    have lw2 := lw.trans l2
    have hD2 : w2.H D = some (.lst vs) := l2.h D _ hA hD
    have hA2 : D ∉ w2.ad := fun z => by have := l2.n D z hA; rw [hD] at this; cases this
    have hF2 : w2.F D = none := l2.k D (by rw [hD]; simp) hA hF
    have dr2 := DRA.mono l2.f _ dr
    have ed : ws.drop i = y :: ws.drop (i + 1) := by
      have e1 := List.drop_eq_getElem_cons hlt
      rw [e1]; congr 1
      rw [List.getElem?_eq_getElem hlt] at ey; exact Option.some.inj ey
    rw [ed] at hl
    have hl : B y st' fun o s' => match o with
      | some d => acc.length < sizeLine ∧ wLoop B Qd (ws.drop (i + 1)) (acc ++ [d]) s'
      | none => wLoop B Qd (ws.drop (i + 1)) acc s' := hl
    refine ⟨w2, wipeG Γ (own.map (·.2)), st', y, _, rfl, r2, (ev.mono lw2).wipe _, hy, hl, fun Γ' σ' ev' hc hw => ⟨?_, w2, Γ', st', _, fun _ _ => False, ⟨rfl, r2, ev', fun _ _ _ _ _ f => f⟩, hc, fun w3 s3 b l3 r3 h3 => ?_⟩⟩
    · rw [hw _ hsub]
      have idem : ∀ (vs us : List Nat) (σ : L2.St), (∀ i ∈ vs, i ∈ us) → L2.wipe (L2.wipe σ vs) us = L2.wipe σ us := fun vs us σ hs => by
        induction vs with
        | nil => rfl
        | cons v vs ih =>
          show L2.wipe ((L2.wipe σ vs).set v none) us = _
          rw [wipe_set _ v none us (hs v List.mem_cons_self)]
          exact ih fun i hi => hs i (List.mem_cons_of_mem _ hi)
      exact idem _ _ σ fun _ h => h
    · have lw3 := lw2.trans l3
      have hD3 : w3.H D = some (.lst vs) := l3.h D _ hA2 hD2
      have hA3 : D ∉ w3.ad := fun z => by have := l3.n D z hA2; rw [hD2] at this; cases this
      have hF3 : w3.F D = none := l3.k D (by rw [hD2]; simp) hA2 hF2
      have dr3 := DRA.mono l3.f _ dr2
      cases b with
      | false => exact iteF ⟨w3, s3, vs, acc, rfl, lw3, r3, hD3, hF3, hA3, dr3, h3.2 rfl⟩
      | true =>
        refine iteT ⟨w3, Γ', s3, _, fun _ _ => False, ⟨rfl, r3, ev'.mono l3, fun _ _ _ _ _ f => f⟩, h3.1 rfl, fun w4 s4 u xw l4 r4 hx h4 => ?_⟩
        obtain ⟨d, rfl, h4⟩ := onV_iff h4
        have hD4 : w4.H D = some (.lst vs) := l4.h D _ hA3 hD3
        have hA4 : D ∉ w4.ad := fun z => by have := l4.n D z hA3; rw [hD3] at this; cases this
        have hF4 : w4.F D = none := l4.k D (by rw [hD3]; simp) hA3 hF3
        have dr4 := DRA.mono l4.f _ dr3
        obtain ⟨hsz, h4⟩ := h4
        refine ⟨vs, hD4, by rw [dr4.length]; exact hsz, ?_⟩
        have dd : DR T.K w4.F u d := by cases hx with | d hx => exact hx
        -- the list grows
        have sH : ∀ b o, b ≠ D → w4.H b = some o → upd w4.H D (.lst (vs ++ [u])) b = some o := fun b o nb e => by rw [upd_ne nb]; exact e
        refine ⟨⟨w4.F, w4.ad, upd w4.H D (.lst (vs ++ [u]))⟩, s4, vs ++ [u], acc ++ [d], rfl, ?_, ?_, upd_same, hF4, hA4, dr4.app (.cons dd .nil), h4⟩
        · have lw4 := lw3.trans l4
          refine ⟨lw4.f, lw4.a, lw4.n, fun b o nb e => ?_, lw4.k⟩
          exact sH b o (fun z => by subst z; rw [nD] at e; cases e) (lw4.h b o nb e)
        · refine ⟨fun b o e => ?_, r4.len, r4.nd, fun b hb => ?_, fun c b es e1 e2 => ?_⟩
          · exact sH b o (fun z => by subst z; have e : w4.F b = some o := e; rw [hF4] at e; cases e) (r4.sub b o e)
          · show upd w4.H D _ b ≠ none
            rw [upd_ne (show b ≠ D from fun z => hA4 (by rw [← z]; exact hb))]; exact r4.here b hb
          · obtain ⟨q1, us, q2, q3⟩ := r4.cell c b es e1 e2
            exact ⟨q1, us, sH b _ (fun z => hA4 (by rw [← z]; exact List.mem_of_getElem? e1)) q2, q3⟩
end
end Z

namespace Z
open PySem PySem.Spec PyProof.Rows L2

abbrev W0 : WX := fun _ _ _ _ => False
section
variable {T : Tab} {L : Nat} {c : Cc} {X : Cx} {W : WX} {e x y z tg iter elt : Expr} {es xs ifs : List Expr} {p a b k el : Ex} {ps : Exs} {pos : Pos} {own : List (Str × Nat)} {gt : Tg} {it : It} {cd : Exo} {scope : Scope}

theorem lc_imp (hsub : tgSub gt (own.map (·.2))) {σ : L2.St} {H : Hp} {Q : VK} (q : tE T W (.comp own gt it cd el) σ H Q) : tLc (tIt T W it) (tG T gt) (tCd T W0 cd) (tE T W0 el) (own.map (·.2)) σ H Q := by
  obtain ⟨w, Γ, st, P, R, A, h, q⟩ := q
  rw [wE] at h
  refine ⟨w, Γ, st, _, R, A, h, fun w1 s1 J ws l1 r1 iok h1 D nD => ?_⟩
  refine lc_run (QD := fun D H => Q (.ref D) H) r1 (A.e.mono l1) iok hsub h1 nD fun w' st' vs ds l r hD hF hA dr p => ?_
  have old : w.H D = none := by
    cases e : w.H D with
    | none => rfl
    | some o =>
      by_cases z : D ∈ w.ad
      · obtain ⟨m, em⟩ := (l1.trans l).a
        exact absurd (by rw [em]; exact List.mem_append_left _ z) hA
      · have := l1.h D o z e
        rw [nD] at this; cases this
  obtain ⟨r2, l2⟩ := r.freeze (l1.trans l) hD hF hA old
  exact q ⟨upd w'.F D (.lst vs), w'.ad, w'.H⟩ st' _ _ l2 r2 (.d (.lst upd_same (DRA.mono (fun b o e => by show upd w'.F D _ b = some o; rw [upd_ne (fun z => by rw [z, hF] at e; cases e)]; exact e) _ dr))) p
theorem lc_impF (hsub : tgSub gt (own.map (·.2))) {σ : L2.St} {H : Hp} {Q : VK} (q : tF T W (.comp own gt it cd el) σ H Q) : tLc (tIt T W it) (tG T gt) (tCd T W0 cd) (tE T W0 el) (own.map (·.2)) σ H Q := by
  obtain ⟨w, Γ, st, P, R, A, h, q⟩ := q
  rw [wE] at h
  refine ⟨w, Γ, st, _, R, A, h, fun w1 s1 J ws l1 r1 iok h1 D nD => ?_⟩
  refine lc_run (QD := fun D H => Q (.ref D) H) r1 (A.e.mono l1) iok hsub h1 nD fun w' st' vs ds l r hD hF hA dr p => ?_
  have old : w.H D = none := by
    cases e : w.H D with
    | none => rfl
    | some o =>
      by_cases z : D ∈ w.ad
      · obtain ⟨m, em⟩ := (l1.trans l).a
        exact absurd (by rw [em]; exact List.mem_append_left _ z) hA
      · have := l1.h D o z e
        rw [nD] at this; cases this
  exact q w' st' D vs ds (l1.trans l) r hD hF hA old dr p
/-- what a comprehension's parts are, within its block -/
structure LcOk (T : Tab) (W : WX) (X : Cx) (own : List (Str × Nat)) (gt : Tg) (it : It) (cd : Exo) (el : Ex) (elt tg iter : Expr) (ifs : List Expr) (scope : Scope) : Prop where
  hi : PI X tg iter (tIt T W it)
  ok : BlkOk X.N X.env.scope scope own
  hg : ∀ (s : Shared) (H : Hp) (C : Addr) (cl : List (Str × Addr)) (fp : List Addr), PG (X.blk s H scope (compEnvC scope cl C X.env) fp) tg (tG T gt)
  ht : ∀ (s : Shared) (H : Hp) (C : Addr) (cl : List (Str × Addr)) (fp : List Addr), PTs (X.blk s H scope (compEnvC scope cl C X.env) fp) ifs (tCd T W0 cd)
  he : ∀ (s : Shared) (H : Hp) (C : Addr) (cl : List (Str × Addr)) (fp : List Addr), PE (X.blk s H scope (compEnvC scope cl C X.env) fp) elt (tE T W0 el)
  hs : ∀ x, foldedSetIterable iter X.env x = pure x
  sub : tgSub gt (own.map (·.2))
theorem z_comp (g : Good T L c X) (k : LcOk T W X own gt it cd el elt tg iter ifs scope) : PE X (.ListComp elt [⟨tg, iter, ifs, 0⟩] scope pos) (tE T W (.comp own gt it cd el)) :=
  PE.imp (pe_lc (pos := pos) g.calm (by rw [g.N]; exact g.nd) k.hi k.ok k.hg k.ht k.he k.hs) fun σ H Q q => lc_imp k.sub q
theorem zf_comp (g : Good T L c X) (k : LcOk T W X own gt it cd el elt tg iter ifs scope) : PE X (.ListComp elt [⟨tg, iter, ifs, 0⟩] scope pos) (tF T W (.comp own gt it cd el)) :=
  PE.imp (pe_lc (pos := pos) g.calm (by rw [g.N]; exact g.nd) k.hi k.ok k.hg k.ht k.he k.hs) fun σ H Q q => lc_impF k.sub q

/-- what is shown of an expression -/
def S3 (T : Tab) (W : WX) (X : Cx) (p : Ex) (e : Expr) : Prop := PE X e (tE T W p) ∧ PT X e (tT T W p) ∧ PT X e (tB T W p)
theorem s3_plain (g : Good T L c X) (h : PE X e (tE T W p)) (h1 : ∀ x p, e ≠ .UnaryOp .Not x p) (h2 : ∀ o v p, e ≠ .BoolOp o v p) (h3 : ∀ a b d p, e ≠ .IfExp a b d p) (h4 : ∀ a b d p, e ≠ .Compare a b d p) : S3 T W X p e :=
  ⟨h, pt_ofZ g.K h (plain_ok h1 h2 h3 h4), pb_ofZ g.K h (plain_ok h1 h2 h3 h4)⟩
end

theorem and3 {a b c : Bool} (h : (a && b && c) = true) : a = true ∧ b = true ∧ c = true := by
  rw [Bool.and_eq_true, Bool.and_eq_true] at h; exact ⟨h.1.1, h.1.2, h.2⟩
theorem and2 {a b : Bool} (h : (a && b) = true) : a = true ∧ b = true := by rw [Bool.and_eq_true] at h; exact h

section
variable (T : Tab) (L : Nat)
def SE (p : Ex) : Prop := ∀ (c : Cc) (e : Expr) (X : Cx) (W : WX), chkE c p e = true → Good T L c X → Takes X W → S3 T W X p e
def SB (p : Ex) : Prop := ∀ (c : Cc) (o : BoolOp) (y z : Expr) (r : List Expr) (pos : Pos) (X : Cx) (W : WX), chkB c p o y z r = true → Good T L c X → Takes X W →
  PE X (.BoolOp o (y :: z :: r) pos) (tE T W p) ∧ PW X (.BoolOp o (y :: z :: r) pos) (tT T W p) ∧ PW X (.BoolOp o (y :: z :: r) pos) (tB T W p)
def SAs (p : Exs) : Prop := ∀ (c : Cc) (es : List Expr) (X : Cx) (W : WX), chkAs c p es = true → Good T L c X → Takes X W → PA X es (tA T W p)
def SCh (d : Ch) : Prop := ∀ (c : Cc) (os : List CmpOp) (es : List Expr) (X : Cx) (W : WX), chkCh c d os es = true → Good T L c X → Takes X W → ChV T W X d os es ∧ lastMarks os es = false ∧
  ∀ o y, os = [o] → es = [y] → ∃ b, d = .last o b ∧ chkE c b y = true ∧ PE X y (tE T W b)
def SIt (p : It) : Prop := ∀ (c : Cc) (tg e : Expr) (X : Cx) (W : WX), chkIt c p tg e = true → Good T L c X → Takes X W → PI X tg e (tIt T W p) ∧ okX e = true
def SO (p : Exo) : Prop := ∀ (c : Cc) (e : Option Expr) (X : Cx) (W : WX), chkO c p e = true → Good T L c X → Takes X W → PO X e (tO T W p)
def SCd (p : Exo) : Prop := ∀ (c : Cc) (e : List Expr) (X : Cx) (W : WX), chkCd c p e = true → Good T L c X → Takes X W → PTs X e (tCd T W p)
end

section
variable {T : Tab} {L : Nat}
theorem lcok {own : List (Str × Nat)} {gt : Tg} {it : It} {cd : Exo} {el : Ex} {c : Cc} {X : Cx} {W : WX} {elt tg iter : Expr} {ifs : List Expr} {scope : Scope} (h : (blkC c.N c.sc scope own && tgIn own gt && tgC (c.inn scope) gt tg && chkIt c it tg iter && chkCd (c.inn scope) cd ifs && chkE (c.inn scope) el elt) = true)
    (g : Good T L c X) (tk : Takes X W) (hI : SIt T L it) (hC : SCd T L cd) (hE : SE T L el) : LcOk T W X own gt it cd el elt tg iter ifs scope := by
  obtain ⟨h, h6⟩ := and2 h
  obtain ⟨h, h5⟩ := and2 h
  obtain ⟨h, h4⟩ := and2 h
  obtain ⟨h1, h2, h3⟩ := and3 h
  obtain ⟨i1, i2⟩ := hI c tg iter X W h4 g tk
  exact ⟨i1, by rw [g.N, g.sc]; exact blkOk_by h1, fun s H C cl fp => zg (g.blk s H scope C cl fp) h3, fun s H C cl fp => hC _ ifs _ W0 h5 (g.blk s H scope C cl fp) takes0,
    fun s H C cl fp => (hE _ elt _ W0 h6 (g.blk s H scope C cl fp) takes0).1, fun x => fold_ok i2 _ x, tgIn_sub h2⟩
theorem zf_fresh {p : Ex} (hp : freshX p = true) {c : Cc} {e : Expr} {X : Cx} {W : WX} (h : chkE c p e = true) (g : Good T L c X) (tk : Takes X W)
    (hA : ∀ ps, p = .lst ps → SAs T L ps) (hB : ∀ b ps, p = .blt b ps → SAs T L ps) (hO : ∀ o a b, p = .bin o a b → SE T L a ∧ SE T L b) (hC : ∀ own gt it cd el, p = .comp own gt it cd el → SIt T L it ∧ SCd T L cd ∧ SE T L el) : PE X e (tF T W p) := by
  cases p with
  | lst ps =>
    cases e with
    | List xs pos => rw [chkE] at h; exact zf_lst (hA ps rfl c xs X W h g tk)
    | _ => simp [chkE] at h
  | bin o a b =>
    cases e with
    | BinOp x q y pos =>
      rw [chkE] at h
      obtain ⟨h1, h2, h3⟩ := and3 h
      have e1 : o = q := of_decide_eq_true h1
      subst e1
      cases o with
      | Add => exact zf_add g ((hO _ a b rfl).1 c x X W h2 g tk).1 ((hO _ a b rfl).2 c y X W h3 g tk).1
      | _ => exact absurd hp Bool.false_ne_true
    | _ => simp [chkE] at h
  | comp own gt it cd el =>
    cases e with
    | ListComp elt gens scope pos =>
      match gens, h with
      | [⟨tg, iter, ifs, 0⟩], h =>
        rw [chkE] at h
        obtain ⟨i1, i2, i3⟩ := hC own gt it cd el rfl
        exact zf_comp g (lcok h g tk i1 i2 i3)
    | _ => simp [chkE] at h
  | blt b ps =>
    cases e with
    | Call f args kw pos =>
      match f, args, kw, h with
      | .Name n p1, y :: ys, [], h =>
        rw [chkE] at h
        obtain ⟨h1, h2⟩ := and2 h
        cases b with
        | list => exact zf_list g h1 (chkAs_ok h2) (hB _ ps rfl c _ X W h2 g tk)
        | sorted => exact zf_sorted g h1 (chkAs_ok h2) (hB _ ps rfl c _ X W h2 g tk)
        | _ => exact absurd hp Bool.false_ne_true
    | _ => simp [chkE] at h
  | _ => exact absurd hp Bool.false_ne_true
end
end Z
namespace Z
open PySem PySem.Spec PyProof.Rows L2
section
variable {T : Tab} {L : Nat}
theorem sE_var (i : Nat) : SE T L (.var i) := fun c e X W h g tk => by
  cases e with
  | Name n pos => rw [chkE] at h; exact s3_plain g (pe_varZ g h) (fun _ _ q => by cases q) (fun _ _ _ q => by cases q) (fun _ _ _ _ q => by cases q) (fun _ _ _ _ q => by cases q)
  | _ => simp [chkE] at h
theorem pe_bad {X : Cx} {W : WX} {e : Expr} : PE X e (tE T W .bad) := ⟨fun pins s σ H Q I h => by
  obtain ⟨w, Γ, st, P, R, A, h, _⟩ := h
  rw [wE] at h
  exact h.elim⟩
theorem sE_bad : SE T L .bad := fun c e X W h g tk => by
  cases e with
  | Call f as kw pos => exact s3_plain g pe_bad (fun _ _ q => by cases q) (fun _ _ _ q => by cases q) (fun _ _ _ _ q => by cases q) (fun _ _ _ _ q => by cases q)
  | _ => simp [chkE] at h
theorem sE_con (d : PyData) : SE T L (.con d) := fun c e X W h g tk => by
  cases e with
  | Constant k j pos => rw [chkE] at h; exact s3_plain g (pe_conZ h) (fun _ _ q => by cases q) (fun _ _ _ q => by cases q) (fun _ _ _ _ q => by cases q) (fun _ _ _ _ q => by cases q)
  | _ => simp [chkE] at h
theorem sE_glob (x : Str) (d : PyData) : SE T L (.glob x d) := fun c e X W h g tk => by
  cases e with
  | Name n pos =>
    rw [chkE] at h
    obtain ⟨h1, h2, h3⟩ := and3 h
    have := of_decide_eq_true h1
    subst this
    exact s3_plain g (z_glob g h2 h3) (fun _ _ q => by cases q) (fun _ _ _ q => by cases q) (fun _ _ _ _ q => by cases q) (fun _ _ _ _ q => by cases q)
  | _ => simp [chkE] at h
theorem sE_fnv (k : Nat) : SE T L (.fnv k) := fun c e X W h g tk => by
  cases e with
  | Name n pos =>
    rw [chkE] at h
    obtain ⟨h1, h2⟩ := and2 h
    exact s3_plain g (z_fnv g h1 (of_decide_eq_true h2)) (fun _ _ q => by cases q) (fun _ _ _ q => by cases q) (fun _ _ _ _ q => by cases q) (fun _ _ _ _ q => by cases q)
  | _ => simp [chkE] at h
theorem sE_bin (o : Operator) (a b : Ex) (ha : SE T L a) (hb : SE T L b) : SE T L (.bin o a b) := fun c e X W h g tk => by
  cases e with
  | BinOp x q y pos =>
    rw [chkE] at h
    obtain ⟨h1, h2, h3⟩ := and3 h
    have := of_decide_eq_true h1
    subst this
    exact s3_plain g (z_bin g (ha c x X W h2 g tk).1 (hb c y X W h3 g tk).1) (fun _ _ q => by cases q) (fun _ _ _ q => by cases q) (fun _ _ _ _ q => by cases q) (fun _ _ _ _ q => by cases q)
  | _ => simp [chkE] at h
theorem sE_neg (a : Ex) (ha : SE T L a) : SE T L (.neg a) := fun c e X W h g tk => by
  cases e with
  | UnaryOp o x pos =>
    cases o with
    | USub =>
      rw [chkE] at h
      exact s3_plain g (z_neg (ha c x X W h g tk).1) (fun _ _ q => by cases q) (fun _ _ _ q => by cases q) (fun _ _ _ _ q => by cases q) (fun _ _ _ _ q => by cases q)
    | _ => simp [chkE] at h
  | _ => simp [chkE] at h
theorem sE_not (a : Ex) (ha : SE T L a) : SE T L (.not a) := fun c e X W h g tk => by
  cases e with
  | UnaryOp o x pos =>
    cases o with
    | Not =>
      rw [chkE] at h
      obtain ⟨h1, h2, h3⟩ := ha c x X W h g tk
      exact ⟨z_not g h1, zt_not h2, zb_not h2⟩
    | _ => simp [chkE] at h
  | _ => simp [chkE] at h
theorem sCh_last (o : CmpOp) (b : Ex) (hb : SE T L b) : SCh T L (.last o b) := fun c os es X W h g tk => by
  match os, es, h with
  | [p], [y], h =>
    rw [chkCh] at h
    obtain ⟨h1, h2⟩ := and2 h
    have := of_decide_eq_true h1
    subst this
    have k := (hb c y X W h2 g tk).1
    refine ⟨ch_last g k, mark_ok (chk_ok h2) _, fun o' y' e1 e2 => ?_⟩
    cases e1; cases e2
    exact ⟨b, rfl, h2, k⟩
theorem sCh_link (o : CmpOp) (b : Ex) (d : Ch) (hb : SE T L b) (hd : SCh T L d) : SCh T L (.link o b d) := fun c os es X W h g tk => by
  match os, es, h with
  | p :: q :: ps, y :: z :: zs, h =>
    rw [chkCh] at h
    obtain ⟨h1, h2, h3⟩ := and3 h
    have := of_decide_eq_true h1
    subst this
    obtain ⟨k1, k2, _⟩ := hd c _ _ X W h3 g tk
    refine ⟨ch_link g (hb c y X W h2 g tk).1 k1, by cases ps <;> exact k2, fun o' y' e1 e2 => ?_⟩
    cases e1
theorem sE_cmp (a : Ex) (d : Ch) (ha : SE T L a) (hd : SCh T L d) : SE T L (.cmp a d) := fun c e X W h g tk => by
  cases e with
  | Compare x ops es pos =>
    rw [chkE] at h
    obtain ⟨h1, h2⟩ := and2 h
    have k := (ha c x X W h1 g tk).1
    obtain ⟨k1, k2, k3⟩ := hd c ops es X W h2 g tk
    match ops, es, h2, k1, k2, k3 with
    | [], es, h2, _, _, _ => cases d <;> simp [chkCh] at h2
    | [o], [], h2, _, _, _ => cases d <;> simp [chkCh] at h2
    | [o], _ :: _ :: _, h2, _, _, _ => cases d <;> simp [chkCh] at h2
    | [o], [y], h2, k1, k2, k3 =>
      obtain ⟨b, rfl, h4, hb⟩ := k3 o y rfl rfl
      have t := zt_cmp1 (pos := pos) g (o := o) (chk_ok h4) k hb
      exact ⟨z_cmp1 g (chk_ok h4) k hb, PT.imp t fun _ _ _ q => tB_cmp q, t⟩
    | o :: o2 :: os, [], h2, _, _, _ => cases d <;> simp [chkCh] at h2
    | o :: o2 :: os, [y], h2, _, _, _ => cases d <;> simp [chkCh] at h2
    | o :: o2 :: os, y :: z :: zs, h2, k1, k2, k3 =>
      have t := zt_chain (pos := pos) k k1 k2
      exact ⟨z_chain k k1 k2, PT.imp t fun _ _ _ q => tB_cmp q, t⟩
  | _ => simp [chkE] at h
theorem sE_and (a b : Ex) (ha : SE T L a) (hb : SE T L b) (hB : SB T L b) : SE T L (.and a b) := fun c e X W h g tk => by
  cases e with
  | BoolOp o vs pos =>
    match o, vs, h with
    | .And, [x, y], h =>
      rw [chkE] at h
      obtain ⟨h1, h2⟩ := and2 h
      obtain ⟨a1, a2, a3⟩ := ha c x X W h1 g tk
      obtain ⟨b1, b2, b3⟩ := hb c y X W h2 g tk
      exact ⟨z_and a1 (pe_one b1), (zw_and a3 (pw_and1 b2)).pt, (zv_and a3 (pw_and1 b3)).pt⟩
    | .And, x :: y :: z :: r, h =>
      rw [chkE] at h
      obtain ⟨h1, h2⟩ := and2 h
      obtain ⟨a1, a2, a3⟩ := ha c x X W h1 g tk
      obtain ⟨b1, b2, b3⟩ := hB c .And y z r pos X W h2 g tk
      exact ⟨z_and a1 b1, (zw_and a3 b2).pt, (zv_and a3 b3).pt⟩
  | _ => simp [chkE] at h
theorem sE_or (a b : Ex) (ha : SE T L a) (hb : SE T L b) (hB : SB T L b) : SE T L (.or a b) := fun c e X W h g tk => by
  cases e with
  | BoolOp o vs pos =>
    match o, vs, h with
    | .Or, [x, y], h =>
      rw [chkE] at h
      obtain ⟨h1, h2⟩ := and2 h
      obtain ⟨a1, a2, a3⟩ := ha c x X W h1 g tk
      obtain ⟨b1, b2, b3⟩ := hb c y X W h2 g tk
      exact ⟨z_or a1 (pe_one b1), (zw_or a3 (pw_or1 b2)).pt, (zv_or a3 (pw_or1 b3)).pt⟩
    | .Or, x :: y :: z :: r, h =>
      rw [chkE] at h
      obtain ⟨h1, h2⟩ := and2 h
      obtain ⟨a1, a2, a3⟩ := ha c x X W h1 g tk
      obtain ⟨b1, b2, b3⟩ := hB c .Or y z r pos X W h2 g tk
      exact ⟨z_or a1 b1, (zw_or a3 b2).pt, (zv_or a3 b3).pt⟩
  | _ => simp [chkE] at h
theorem sB_and (a b : Ex) (ha : SE T L a) (hb : SE T L b) (hB : SB T L b) : SB T L (.and a b) := fun c o y z r pos X W h g tk => by
  match o, r, h with
  | .And, [], h =>
    rw [chkB] at h
    obtain ⟨h1, h2⟩ := and2 h
    obtain ⟨a1, a2, a3⟩ := ha c y X W h1 g tk
    obtain ⟨b1, b2, b3⟩ := hb c z X W h2 g tk
    exact ⟨z_and a1 (pe_one b1), zw_and a3 (pw_and1 b2), zv_and a3 (pw_and1 b3)⟩
  | .And, v :: r, h =>
    rw [chkB] at h
    obtain ⟨h1, h2⟩ := and2 h
    obtain ⟨a1, a2, a3⟩ := ha c y X W h1 g tk
    obtain ⟨b1, b2, b3⟩ := hB c .And z v r pos X W h2 g tk
    exact ⟨z_and a1 b1, zw_and a3 b2, zv_and a3 b3⟩
theorem sB_or (a b : Ex) (ha : SE T L a) (hb : SE T L b) (hB : SB T L b) : SB T L (.or a b) := fun c o y z r pos X W h g tk => by
  match o, r, h with
  | .Or, [], h =>
    rw [chkB] at h
    obtain ⟨h1, h2⟩ := and2 h
    obtain ⟨a1, a2, a3⟩ := ha c y X W h1 g tk
    obtain ⟨b1, b2, b3⟩ := hb c z X W h2 g tk
    exact ⟨z_or a1 (pe_one b1), zw_or a3 (pw_or1 b2), zv_or a3 (pw_or1 b3)⟩
  | .Or, v :: r, h =>
    rw [chkB] at h
    obtain ⟨h1, h2⟩ := and2 h
    obtain ⟨a1, a2, a3⟩ := ha c y X W h1 g tk
    obtain ⟨b1, b2, b3⟩ := hB c .Or z v r pos X W h2 g tk
    exact ⟨z_or a1 b1, zw_or a3 b2, zv_or a3 b3⟩
theorem sB_no {p : Ex} (h1 : ∀ a b, p ≠ .and a b) (h2 : ∀ a b, p ≠ .or a b) : SB T L p := fun c o y z r pos X W h g tk => by
  exfalso
  cases p <;> first
    | exact h1 _ _ rfl
    | exact h2 _ _ rfl
    | (simp [chkB] at h)
theorem sE_ite (k a b : Ex) (hk : SE T L k) (ha : SE T L a) (hb : SE T L b) : SE T L (.ite k a b) := fun c e X W h g tk => by
  cases e with
  | IfExp t x y pos =>
    rw [chkE] at h
    obtain ⟨h1, h2, h3⟩ := and3 h
    obtain ⟨a1, a2, a3⟩ := ha c x X W h2 g tk
    obtain ⟨b1, b2, b3⟩ := hb c y X W h3 g tk
    have k2 := (hk c t X W h1 g tk).2.1
    exact ⟨z_ite k2 a1 b1, zt_ite k2 a2 b2, zb_ite k2 a3 b3⟩
  | _ => simp [chkE] at h
theorem sE_tup (ps : Exs) (hp : SAs T L ps) : SE T L (.tup ps) := fun c e X W h g tk => by
  cases e with
  | Tuple xs j pos =>
    rw [chkE] at h
    exact s3_plain g (z_tup (hp c xs X W h g tk)) (fun _ _ q => by cases q) (fun _ _ _ q => by cases q) (fun _ _ _ _ q => by cases q) (fun _ _ _ _ q => by cases q)
  | _ => simp [chkE] at h
theorem sE_lst (ps : Exs) (hp : SAs T L ps) : SE T L (.lst ps) := fun c e X W h g tk => by
  cases e with
  | List xs pos =>
    rw [chkE] at h
    exact s3_plain g (z_lst (hp c xs X W h g tk)) (fun _ _ q => by cases q) (fun _ _ _ q => by cases q) (fun _ _ _ _ q => by cases q) (fun _ _ _ _ q => by cases q)
  | _ => simp [chkE] at h
theorem sE_idx (a b : Ex) (ha : SE T L a) (hb : SE T L b) : SE T L (.idx a b) := fun c e X W h g tk => by
  cases e with
  | Subscript x y pos =>
    rw [chkE] at h
    obtain ⟨h1, h2⟩ := and2 h
    exact s3_plain g (z_idx g (chk_ok h2) (ha c x X W h1 g tk).1 (hb c y X W h2 g tk).1) (fun _ _ q => by cases q) (fun _ _ _ q => by cases q) (fun _ _ _ _ q => by cases q) (fun _ _ _ _ q => by cases q)
  | _ => simp [chkE] at h
theorem sE_slc (a : Ex) (lo hi : Exo) (ha : SE T L a) (hl : SO T L lo) (hh : SO T L hi) : SE T L (.slc a lo hi) := fun c e X W h g tk => by
  cases e with
  | Subscript x y pos =>
    cases y with
    | Slice l u s p2 =>
      cases s with
      | none =>
        rw [chkE] at h
        obtain ⟨h1, h2, h3⟩ := and3 h
        exact s3_plain g (z_slc g (ha c x X W h1 g tk).1 (hl c l X W h2 g tk) (hh c u X W h3 g tk)) (fun _ _ q => by cases q) (fun _ _ _ q => by cases q) (fun _ _ _ _ q => by cases q) (fun _ _ _ _ q => by cases q)
      | some _ => simp [chkE] at h
    | _ => simp [chkE] at h
  | _ => simp [chkE] at h
theorem sE_call (k : Nat) (ps : Exs) (hp : SAs T L ps) : SE T L (.call k ps) := fun c e X W h g tk => by
  cases e with
  | Call f args kw pos =>
    match f, args, kw, h with
    | .Name n p1, y :: ys, [], h =>
      rw [chkE] at h
      obtain ⟨h1, h2, h3⟩ := and3 h
      exact s3_plain g (z_call g tk h1 (of_decide_eq_true h2) (chkAs_ok h3) (hp c _ X W h3 g tk)) (fun _ _ q => by cases q) (fun _ _ _ q => by cases q) (fun _ _ _ _ q => by cases q) (fun _ _ _ _ q => by cases q)
  | _ => simp [chkE] at h
theorem sE_blt (b : Bt) (ps : Exs) (hp : SAs T L ps) : SE T L (.blt b ps) := fun c e X W h g tk => by
  cases e with
  | Call f args kw pos =>
    match f, args, kw, h with
    | .Name n p1, y :: ys, [], h =>
      rw [chkE] at h
      obtain ⟨h1, h3⟩ := and2 h
      exact s3_plain g (z_blt g h1 (chkAs_ok h3) (hp c _ X W h3 g tk)) (fun _ _ q => by cases q) (fun _ _ _ q => by cases q) (fun _ _ _ _ q => by cases q) (fun _ _ _ _ q => by cases q)
  | _ => simp [chkE] at h
theorem sE_isi (a : Ex) (t : Ty) (ha : SE T L a) : SE T L (.isi a t) := fun c e X W h g tk => by
  cases e with
  | Call f args kw pos =>
    match f, args, kw, h with
    | .Name n p1, [y, .Name z p2], [], h =>
      rw [chkE] at h
      obtain ⟨h1, h2, h3⟩ := and3 h
      exact s3_plain g (z_isi g h1 h2 (chk_ok h3) (ha c y X W h3 g tk).1) (fun _ _ q => by cases q) (fun _ _ _ q => by cases q) (fun _ _ _ _ q => by cases q) (fun _ _ _ _ q => by cases q)
  | _ => simp [chkE] at h
theorem sE_comp (own : List (Str × Nat)) (gt : Tg) (it : It) (cd : Exo) (el : Ex) (hI : SIt T L it) (hC : SCd T L cd) (hE : SE T L el) : SE T L (.comp own gt it cd el) := fun c e X W h g tk => by
  cases e with
  | ListComp elt gens scope pos =>
    match gens, h with
    | [⟨tg, iter, ifs, 0⟩], h =>
      rw [chkE] at h
      exact s3_plain g (z_comp g (lcok h g tk hI hC hE)) (fun _ _ q => by cases q) (fun _ _ _ q => by cases q) (fun _ _ _ _ q => by cases q) (fun _ _ _ _ q => by cases q)
  | _ => simp [chkE] at h
theorem fresh_plain {p : Ex} {c : Cc} {e : Expr} (hp : freshX p = true) (h : chkE c p e = true) : (∀ x q, e ≠ .UnaryOp .Not x q) ∧ (∀ o v q, e ≠ .BoolOp o v q) ∧ (∀ a b d q, e ≠ .IfExp a b d q) ∧ (∀ a b d q, e ≠ .Compare a b d q) := by
  cases p <;> first | exact absurd hp Bool.false_ne_true | skip
  all_goals
    refine ⟨fun _ _ q => ?_, fun _ _ _ q => ?_, fun _ _ _ _ q => ?_, fun _ _ _ _ q => ?_⟩ <;> subst q <;> simp [chkE] at h
theorem sE_new (p : Ex) (hA : ∀ ps, p = .lst ps → SAs T L ps) (hB : ∀ b ps, p = .blt b ps → SAs T L ps) (hO : ∀ o a b, p = .bin o a b → SE T L a ∧ SE T L b) (hC : ∀ own gt it cd el, p = .comp own gt it cd el → SIt T L it ∧ SCd T L cd ∧ SE T L el) : SE T L (.new p) := fun c e X W h g tk => by
  obtain ⟨h1, h2⟩ := chk_new h
  obtain ⟨q1, q2, q3, q4⟩ := fresh_plain h1 h2
  exact s3_plain g (z_new (zf_fresh h1 h2 g tk hA hB hO hC)) q1 q2 q3 q4
theorem sE_pop (a : Ex) (ha : SE T L a) : SE T L (.pop a) := fun c e X W h g tk => by
  cases e with
  | Call f args kw pos =>
    match f, args, kw, h with
    | .Attribute o n p1, [], [], h =>
      rw [chkE] at h
      obtain ⟨h, h4⟩ := and2 h
      obtain ⟨h1, h2, h3⟩ := and3 h
      exact s3_plain g (z_pop (of_decide_eq_true h1) h2 h3 (ha c o X W h4 g tk).1) (fun _ _ q => by cases q) (fun _ _ _ q => by cases q) (fun _ _ _ _ q => by cases q) (fun _ _ _ _ q => by cases q)
  | _ => simp [chkE] at h
theorem sE_rev (a : Ex) : SE T L (.rev a) := fun c e X W h g tk => by cases e <;> simp [chkE] at h

theorem sAs_nil : SAs T L .nil := fun c es X W h g tk => by
  cases es with
  | nil => exact za_nil
  | cons _ _ => simp [chkAs] at h
theorem sAs_cons (e : Ex) (es : Exs) (he : SE T L e) (hs : SAs T L es) : SAs T L (.cons e es) := fun c xs X W h g tk => by
  cases xs with
  | nil => simp [chkAs] at h
  | cons x xs =>
    rw [chkAs] at h
    obtain ⟨h1, h2⟩ := and2 h
    exact za_cons (chk_ok h1) (he c x X W h1 g tk).1 (hs c xs X W h2 g tk)
theorem sO_none : SO T L .none := fun c e X W h g tk => by
  cases e with
  | none => exact zo_none
  | some _ => simp [chkO] at h
theorem sO_some (a : Ex) (ha : SE T L a) : SO T L (.some a) := fun c e X W h g tk => by
  cases e with
  | none => simp [chkO] at h
  | some x => rw [chkO] at h; exact zo_some (ha c x X W h g tk).1
theorem sCd_none : SCd T L .none := fun c e X W h g tk => by
  cases e with
  | nil => exact zc_none
  | cons _ _ => simp [chkCd] at h
theorem sCd_some (a : Ex) (ha : SE T L a) : SCd T L (.some a) := fun c e X W h g tk => by
  match e, h with
  | [x], h => rw [chkCd] at h; exact zc_some (ha c x X W h g tk).2.1
theorem sIt_e (a : Ex) (ha : SE T L a) : SIt T L (.e a) := fun c tg e X W h g tk => by
  rw [chkIt] at h
  exact ⟨zi_e g (ha c e X W h g tk).1, chk_ok h⟩
theorem sIt_rng1 (a : Ex) (ha : SE T L a) : SIt T L (.rng1 a) := fun c tg e X W h g tk => by
  cases e with
  | Call f args kw pos =>
    match f, args, kw, h with
    | .Name n p1, [y], [], h =>
      rw [chkIt] at h
      obtain ⟨h1, h2⟩ := and2 h
      exact ⟨zi_rng1 g h1 (chk_ok h2) (ha c y X W h2 g tk).1, rfl⟩
  | _ => simp [chkIt] at h
theorem sIt_rng2 (a b : Ex) (ha : SE T L a) (hb : SE T L b) : SIt T L (.rng2 a b) := fun c tg e X W h g tk => by
  cases e with
  | Call f args kw pos =>
    match f, args, kw, h with
    | .Name n p1, [y, z], [], h =>
      rw [chkIt] at h
      obtain ⟨h1, h2, h3⟩ := and3 h
      exact ⟨zi_rng2 g h1 (chk_ok h2) (chk_ok h3) (ha c y X W h2 g tk).1 (hb c z X W h3 g tk).1, rfl⟩
  | _ => simp [chkIt] at h
theorem sIt_zip (a b : Ex) (ha : SE T L a) (hb : SE T L b) : SIt T L (.zip a b) := fun c tg e X W h g tk => by
  cases e with
  | Call f args kw pos =>
    match f, args, kw, h with
    | .Name n p1, [y, z], [], h =>
      rw [chkIt] at h
      obtain ⟨h, h3⟩ := and2 h
      obtain ⟨h0, h1, h2⟩ := and3 h
      exact ⟨zi_zip g h0 h1 (chk_ok h2) (chk_ok h3) (ha c y X W h2 g tk).1 (hb c z X W h3 g tk).1, rfl⟩
  | _ => simp [chkIt] at h
theorem sIt_enum (a : Ex) (ha : SE T L a) : SIt T L (.enum a) := fun c tg e X W h g tk => by
  cases e with
  | Call f args kw pos =>
    match f, args, kw, h with
    | .Name n p1, [y], [], h =>
      rw [chkIt] at h
      obtain ⟨h0, h1, h2⟩ := and3 h
      exact ⟨zi_enum g h0 h1 (chk_ok h2) (ha c y X W h2 g tk).1, rfl⟩
  | _ => simp [chkIt] at h

mutual
theorem sE : ∀ p : Ex, SE T L p
  | .var i => sE_var i
  | .con d => sE_con d
  | .glob x d => sE_glob x d
  | .fnv k => sE_fnv k
  | .bin o a b => sE_bin o a b (sE a) (sE b)
  | .neg a => sE_neg a (sE a)
  | .not a => sE_not a (sE a)
  | .cmp a d => sE_cmp a d (sE a) (sCh d)
  | .and a b => sE_and a b (sE a) (sE b) (sB b)
  | .or a b => sE_or a b (sE a) (sE b) (sB b)
  | .ite k a b => sE_ite k a b (sE k) (sE a) (sE b)
  | .tup ps => sE_tup ps (sAs ps)
  | .lst ps => sE_lst ps (sAs ps)
  | .idx a b => sE_idx a b (sE a) (sE b)
  | .slc a lo hi => sE_slc a lo hi (sE a) (sO lo) (sO hi)
  | .rev a => sE_rev a
  | .call k ps => sE_call k ps (sAs ps)
  | .blt b ps => sE_blt b ps (sAs ps)
  | .isi a t => sE_isi a t (sE a)
  | .comp own gt it cd el => sE_comp own gt it cd el (sIt it) (sCd cd) (sE el)
  | .new (.lst ps) => sE_new (.lst ps) (fun _ e => by cases e; exact sAs ps) (fun _ _ e => by cases e) (fun _ _ _ e => by cases e) (fun _ _ _ _ _ e => by cases e)
  | .new (.blt b ps) => sE_new (.blt b ps) (fun _ e => by cases e) (fun _ _ e => by cases e; exact sAs ps) (fun _ _ _ e => by cases e) (fun _ _ _ _ _ e => by cases e)
  | .new (.bin o a b) => sE_new (.bin o a b) (fun _ e => by cases e) (fun _ _ e => by cases e) (fun _ _ _ e => by cases e; exact ⟨sE a, sE b⟩) (fun _ _ _ _ _ e => by cases e)
  | .new (.comp own gt it cd el) => sE_new (.comp own gt it cd el) (fun _ e => by cases e) (fun _ _ e => by cases e) (fun _ _ _ e => by cases e) (fun _ _ _ _ _ e => by cases e; exact ⟨sIt it, sCd cd, sE el⟩)
  | .new (.var i) => fun c e X W h g tk => absurd (chk_new h).1 Bool.false_ne_true
  | .new (.con i) => fun c e X W h g tk => absurd (chk_new h).1 Bool.false_ne_true
  | .new (.glob _ _) => fun c e X W h g tk => absurd (chk_new h).1 Bool.false_ne_true
  | .new (.fnv _) => fun c e X W h g tk => absurd (chk_new h).1 Bool.false_ne_true
  | .new (.neg _) => fun c e X W h g tk => absurd (chk_new h).1 Bool.false_ne_true
  | .new (.not _) => fun c e X W h g tk => absurd (chk_new h).1 Bool.false_ne_true
  | .new (.cmp _ _) => fun c e X W h g tk => absurd (chk_new h).1 Bool.false_ne_true
  | .new (.and _ _) => fun c e X W h g tk => absurd (chk_new h).1 Bool.false_ne_true
  | .new (.or _ _) => fun c e X W h g tk => absurd (chk_new h).1 Bool.false_ne_true
  | .new (.ite _ _ _) => fun c e X W h g tk => absurd (chk_new h).1 Bool.false_ne_true
  | .new (.tup _) => fun c e X W h g tk => absurd (chk_new h).1 Bool.false_ne_true
  | .new (.idx _ _) => fun c e X W h g tk => absurd (chk_new h).1 Bool.false_ne_true
  | .new (.slc _ _ _) => fun c e X W h g tk => absurd (chk_new h).1 Bool.false_ne_true
  | .new (.rev _) => fun c e X W h g tk => absurd (chk_new h).1 Bool.false_ne_true
  | .new (.call _ _) => fun c e X W h g tk => absurd (chk_new h).1 Bool.false_ne_true
  | .new (.isi _ _) => fun c e X W h g tk => absurd (chk_new h).1 Bool.false_ne_true
  | .new (.new _) => fun c e X W h g tk => absurd (chk_new h).1 Bool.false_ne_true
  | .new (.pop _) => fun c e X W h g tk => absurd (chk_new h).1 Bool.false_ne_true
  | .new .bad => fun c e X W h g tk => absurd (chk_new h).1 Bool.false_ne_true
  | .pop a => sE_pop a (sE a)
  | .bad => sE_bad
termination_by structural p => p
theorem sB : ∀ p : Ex, SB T L p
  | .and a b => sB_and a b (sE a) (sE b) (sB b)
  | .or a b => sB_or a b (sE a) (sE b) (sB b)
  | .var _ => sB_no (fun _ _ e => by cases e) (fun _ _ e => by cases e)
  | .con _ => sB_no (fun _ _ e => by cases e) (fun _ _ e => by cases e)
  | .glob _ _ => sB_no (fun _ _ e => by cases e) (fun _ _ e => by cases e)
  | .fnv _ => sB_no (fun _ _ e => by cases e) (fun _ _ e => by cases e)
  | .bin _ _ _ => sB_no (fun _ _ e => by cases e) (fun _ _ e => by cases e)
  | .neg _ => sB_no (fun _ _ e => by cases e) (fun _ _ e => by cases e)
  | .not _ => sB_no (fun _ _ e => by cases e) (fun _ _ e => by cases e)
  | .cmp _ _ => sB_no (fun _ _ e => by cases e) (fun _ _ e => by cases e)
  | .ite _ _ _ => sB_no (fun _ _ e => by cases e) (fun _ _ e => by cases e)
  | .tup _ => sB_no (fun _ _ e => by cases e) (fun _ _ e => by cases e)
  | .lst _ => sB_no (fun _ _ e => by cases e) (fun _ _ e => by cases e)
  | .idx _ _ => sB_no (fun _ _ e => by cases e) (fun _ _ e => by cases e)
  | .slc _ _ _ => sB_no (fun _ _ e => by cases e) (fun _ _ e => by cases e)
  | .rev _ => sB_no (fun _ _ e => by cases e) (fun _ _ e => by cases e)
  | .call _ _ => sB_no (fun _ _ e => by cases e) (fun _ _ e => by cases e)
  | .blt _ _ => sB_no (fun _ _ e => by cases e) (fun _ _ e => by cases e)
  | .isi _ _ => sB_no (fun _ _ e => by cases e) (fun _ _ e => by cases e)
  | .comp _ _ _ _ _ => sB_no (fun _ _ e => by cases e) (fun _ _ e => by cases e)
  | .new _ => sB_no (fun _ _ e => by cases e) (fun _ _ e => by cases e)
  | .pop _ => sB_no (fun _ _ e => by cases e) (fun _ _ e => by cases e)
  | .bad => sB_no (fun _ _ e => by cases e) (fun _ _ e => by cases e)
termination_by structural p => p
theorem sAs : ∀ p : Exs, SAs T L p
  | .nil => sAs_nil
  | .cons e es => sAs_cons e es (sE e) (sAs es)
termination_by structural p => p
theorem sCh : ∀ p : Ch, SCh T L p
  | .last o b => sCh_last o b (sE b)
  | .link o b d => sCh_link o b d (sE b) (sCh d)
termination_by structural p => p
theorem sIt : ∀ p : It, SIt T L p
  | .e a => sIt_e a (sE a)
  | .rng1 a => sIt_rng1 a (sE a)
  | .rng2 a b => sIt_rng2 a b (sE a) (sE b)
  | .zip a b => sIt_zip a b (sE a) (sE b)
  | .enum a => sIt_enum a (sE a)
termination_by structural p => p
theorem sO : ∀ p : Exo, SO T L p
  | .none => sO_none
  | .some a => sO_some a (sE a)
termination_by structural p => p
theorem sCd : ∀ p : Exo, SCd T L p
  | .none => sCd_none
  | .some a => sCd_some a (sE a)
termination_by structural p => p
end
end
end Z
namespace Z
open PySem PySem.Spec PyProof.Rows L2

/-! ## statements: the check -/
def isStar : Expr → Bool | .Starred _ _ => true | _ => false
def isLc : Expr → Bool | .ListComp _ _ _ _ => true | _ => false
def lcSame (c : Cc) (n : Str) (p1 : Pos) : Expr → Bool
  | .ListComp _ _ scope vp => (p1.line == vp.line) && !(scope.names.any fun (m, k) => m == n && (k == .local || k == .cell))
  | _ => false
def plNm (c : Cc) (i : Nat) (x : Str) : Bool := decide (c.N[i]? = some x) && decide (c.sc.names.lookup x = some .local)
def isFn (c : Cc) : Bool := match c.sc.kind with | .function => true | _ => false
def swp (c : Cc) (vs : List Expr) : Bool := isFn c && !(vs.all (foldedForSure 8)) && !(vs.all (constantsAlone 8))
def parC (c : Cc) (is : List Nat) (ts vs : List Expr) : Bool :=
  match is, ts, vs with
  | [i, j], [.Name x px, .Name y py], [a, b] => plNm c i x && plNm c j y && decide (x ≠ y) && (py.line == px.line) && swp c [a, b]
  | [i, j, k], [.Name x px, .Name y py, .Name z pz], [a, b, d] => plNm c i x && plNm c j y && plNm c k z && decide (x ≠ y) && decide (x ≠ z) && decide (y ≠ z) && (py.line == px.line) && (pz.line == px.line) && swp c [a, b, d]
  | _, _, _ => false
/-- the tuple is made and taken apart -/
def madeC (c : Cc) (is : List Nat) (ts vs : List Expr) : Bool := nmsC c is ts && decide (vs.length = ts.length) && (vs.all (foldedForSure 8) || decide (4 ≤ ts.length)) && isFn c && decide (is.length ≤ 1000)
def raiseN (c : Cc) (k : Nat) : Expr → Bool | .Name n _ => glC c n && decide ((k, n) ∈ c.xs) | _ => false
def isCall : Expr → Bool | .Call (.Name _ _) _ _ _ => true | _ => false
def textC : Const → Bool | .str _ => true | _ => false
def textE : Expr → Bool | .Constant x _ _ => textC x | _ => false
def raiseA : List Expr → Bool | [e] => textE e | _ => false
def raiseE (c : Cc) (k : Nat) : Expr → Bool | .Call f as [] _ => raiseN c k f && raiseA as | _ => false
def raiseC (c : Cc) (k : Nat) : Stmt → Bool | .Raise (some e) none _ => raiseE c k e | _ => false
theorem chk_raise {c : Cc} {k : Nat} {st : Stmt} (h : raiseC c k st = true) : ∃ n p1 m jj p2 p3 pos, st = .Raise (some (.Call (.Name n p1) [.Constant (.str m) jj p2] [] p3)) none pos ∧ glC c n = true ∧ (k, n) ∈ c.xs := by
  unfold raiseC at h
  split at h
  · rename_i e pos
    unfold raiseE at h
    split at h
    · rename_i f as p3
      obtain ⟨h1, h2⟩ := and2 h
      unfold raiseN at h1
      split at h1
      · rename_i n p1
        obtain ⟨h3, h4⟩ := and2 h1
        unfold raiseA at h2
        split at h2
        · rename_i e
          unfold textE at h2
          split at h2
          · rename_i x jj p2
            unfold textC at h2
            split at h2
            · exact ⟨n, p1, _, jj, p2, p3, pos, rfl, h3, of_decide_eq_true h4⟩
            · cases h2
          · cases h2
        · cases h2
      · cases h1
    · cases h
  · cases h
mutual
def chkS (c : Cc) : Sm → Stmt → Bool
  | .set i e, .Assign [.Name n p1] v _ => locC c i n && chkE c e v && (!(isLc v) || (decide (c.sc.names.lookup n = some .local) && lcSame c n p1 v && isFn c))
  | .par is es, .Assign [.Tuple ts _ _] (.Tuple vs _ _) _ => (parC c is ts vs || madeC c is ts vs) && chkAs c es vs
  | .unp is e, .Assign [.Tuple ts _ _] v _ => nmsC c is ts && chkE c e v && !(isTupE v)
  | .put o i e, .Assign [.Subscript x y _] v _ => chkE c o x && chkE c i y && chkE c e v && !(isLc v)
  | .app o e, .Expr (.Call (.Attribute x n p1) [y] [] p2) _ => decide (n = ("append" : Str)) && (p1.endLine == p2.line) && isNm x && chkE c o x && chkE c e y
  | .ret e, .Return (some v) _ => chkE c e v
  | .ex e, .Expr v _ => chkE c e v && isCall v
  | .ite k a b, .If t x y _ => chkE c k t && chkSs c a x && chkSs c b y
  | .whl k b, .While t x [] _ => chkE c k t && chkSs c b x
  | .for_ g it b, .For tg iter x [] _ => tgC c g tg && chkIt c it tg iter && chkSs c b x
  | .pass, .Pass _ => true
  | .brk, .Break _ => true
  | .cont, .Continue _ => true
  | .raise k, x => raiseC c k x
  | _, _ => false
termination_by structural p => p
def chkSs (c : Cc) : Sms → List Stmt → Bool
  | .nil, [] => true
  | .cons (.frz _) r, xs => chkSs c r xs
  | .cons s r, x :: xs => chkS c s x && chkSs c r xs
  | _, _ => false
termination_by structural p => p
end

/-! ## readings of statements -/
section
variable (T : Tab)
structure EC (w : Wo) (D : Ends) (E : En) : Prop where
  nx : ∀ w' Γ' st' σ', Le w w' → Rel T.K w' st' → EnvR T w' Γ' σ' → E.nx Γ' st' → D.nx σ' w'.H
  rt : ∀ w' st' v x, Le w w' → Rel T.K w' st' → WR T w' v x → E.rt x st' → D.rt v w'.H
  bk : ∀ w' Γ' st' σ', Le w w' → Rel T.K w' st' → EnvR T w' Γ' σ' → E.bk Γ' st' → D.bk σ' w'.H
  ct : ∀ w' Γ' st' σ', Le w w' → Rel T.K w' st' → EnvR T w' Γ' σ' → E.ct Γ' st' → D.ct σ' w'.H
def RS (W : WX) (w : Wo) (R : XPS) : Prop := ∀ w' Γ' st' σ' k, Le w w' → Rel T.K w' st' → EnvR T w' Γ' σ' → R k Γ' st' → W (.ref (T.ec k)) none σ' w'.H
structure As (W : WX) (w : Wo) (Γ : Env') (st : Store) (R : XPS) (E : En) (D : Ends) (σ : L2.St) (H : Hp) : Prop where
  h : w.H = H
  r : Rel T.K w st
  e : EnvR T w Γ σ
  x : RS T W w R
  d : EC T w D E
def tS (W : WX) (p : Sm) : TS := fun D σ H => ∃ w Γ st E R, As T W w Γ st R E D σ H ∧ wS T.S p Γ st E R
def tSs (W : WX) (p : Sms) : TS := fun D σ H => ∃ w Γ st E R, As T W w Γ st R E D σ H ∧ wSs T.S p Γ st E R
end
section
variable {T : Tab} {W : WX} {w w' : Wo} {Γ Γ' : Env'} {st st' : Store} {R : XPS} {E : En} {D : Ends} {σ σ' : L2.St} {H : Hp}
theorem EC.mono (l : Le w w') (h : EC T w D E) : EC T w' D E := ⟨fun u g s t a => h.nx u g s t (l.trans a), fun u s v x a => h.rt u s v x (l.trans a), fun u g s t a => h.bk u g s t (l.trans a), fun u g s t a => h.ct u g s t (l.trans a)⟩
theorem RS.mono (l : Le w w') (h : RS T W w R) : RS T W w' R := fun u g s t k a => h u g s t k (l.trans a)
theorem As.step (a : As T W w Γ st R E D σ H) (l : Le w w') (r : Rel T.K w' st') (e : EnvR T w' Γ' σ') : As T W w' Γ' st' R E D σ' w'.H := ⟨rfl, r, e, a.x.mono l, a.d.mono l⟩
theorem As.at (a : As T W w Γ st R E D σ H) : At T W w Γ st (fun x s => R x Γ s) σ H := ⟨a.h, a.r, a.e, fun w' st' k l r h => a.x w' Γ st' σ k l r (a.e.mono l) h⟩
end

structure GoodS (T : Tab) (L : Nat) (c : Cc) (X : Cx) (W : WX) : Prop where
  g : Good T L c X
  tk : Takes X W
  po : PassesOwn (model X.prog X.w) X.A X.env X.xe
  exc : ∀ k x, (k, x) ∈ c.xs → X.mg x = some (.ref (T.ec k)) ∧ PySem.W.keepIn X.K (.ref (T.ec k)) = true ∧ PySem.W.excIn X.K (T.ec k) [.type "ValueError", .type "Exception", .type "BaseException", .type "object"] "ValueError.__new__" = true ∧
    PySem.W.subIn X.K (.ref (T.ec k)) (.type "BaseException") = some true ∧ PySem.W.typeIn X.K (.ref (T.ec k)) = some (.type "type")

section
variable {T : Tab} {L : Nat} {c : Cc} {X : Cx} {W : WX} {e x y z v tg iter elt : Expr} {es xs ifs ts vs : List Expr} {p a b k el : Ex} {ps : Exs} {pos : Pos} {body : List Stmt} {sm : Sm} {sms sa sb : Sms}
theorem PS.imp {st : Stmt} {t t' : TS} (h : PS X st t) (i : ∀ D σ H, t' D σ H → t D σ H) : PS X st t' := ⟨fun pins s σ H D I q => h.run pins s σ H D I (i _ _ _ q)⟩
theorem PSs.imp {st : List Stmt} {t t' : TS} (h : PSs X st t) (i : ∀ D σ H, t' D σ H → t D σ H) : PSs X st t' := ⟨fun pins s σ H D I q => h.run pins s σ H D I (i _ _ _ q)⟩

theorem set_imp {i : Nat} {D : Ends} {σ : L2.St} {H : Hp} (q : tS T W (.set i p) D σ H) : tE T W p σ H fun x H1 => gName i x σ H1 D.nx := by
  obtain ⟨w, Γ, st, E, R, A, h⟩ := q
  rw [wS] at h
  exact ⟨w, Γ, st, _, _, A.at, h, fun w1 s1 v1 x1 l1 r1 hx h1 => A.d.nx w1 _ s1 _ l1 r1 ((A.e.mono l1).set i hx) h1⟩
theorem swaps_ok (h : isLc e = false) (ok : okX e = true) (t : Option Expr) (l : Nat) (env : Env) (ht : t ≠ none) : swapsWith e t l env = pure false := by
  cases e <;> first | rfl | exact absurd ok Bool.false_ne_true | exact absurd h (fun q => Bool.noConfusion q)
theorem zs_set (g : GoodS T L c X W) {i : Nat} {n : Str} {p1 : Pos} (hn : locC c i n = true) (hl : isLc v = false) (ok : okX v = true) (ha : PE X v (tE T W p)) : PS X (.Assign [.Name n p1] v pos) (tS T W (.set i p)) := by
  obtain ⟨h1, h2, h3⟩ := loc_of g.g hn
  exact PS.imp (ps_set (by rw [g.g.N]; exact g.g.nd) h1 h2 ha (swaps_ok hl ok _ _ _ (by simp)) h3) fun D σ H q => set_imp q
theorem zs_setLc (g : GoodS T L c X W) {i : Nat} {n : Str} {p1 vp : Pos} {own : List (Str × Nat)} {gt : Tg} {it : It} {cd : Exo} {scope : Scope} (hn : locC c i n = true) (hloc : c.sc.names.lookup n = some .local) (hf : isFn c = true)
    (hs : lcSame c n p1 (.ListComp elt [⟨tg, iter, ifs, 0⟩] scope vp) = true) (k : LcOk T W X own gt it cd el elt tg iter ifs scope) :
    PS X (.Assign [.Name n p1] (.ListComp elt [⟨tg, iter, ifs, 0⟩] scope vp) pos) (tS T W (.set i (.comp own gt it cd el))) ∧ PS X (.Assign [.Name n p1] (.ListComp elt [⟨tg, iter, ifs, 0⟩] scope vp) pos) (tS T W (.set i (.new (.comp own gt it cd el)))) := by
  obtain ⟨h1, h2, h3⟩ := loc_of g.g hn
  obtain ⟨q1, q2⟩ := and2 (show ((p1.line == vp.line) && !(scope.names.any fun (m, k) => m == n && (k == .local || k == .cell))) = true from hs)
  have hk : X.env.scope.kind = .function := by
    rw [g.g.sc]; unfold isFn at hf; revert hf; cases c.sc.kind <;> intro h <;> first | rfl | cases h
  have hl : X.env.scope.names.lookup n = some .local := by rw [g.g.sc]; exact hloc
  have sw := sw_true (elt := elt) (gs := [⟨tg, iter, ifs, 0⟩]) (l := pos.line) hk hl q1 (by simpa using q2)
  have key := ps_setLc (spos := pos) (py := p1) g.g.calm (by rw [g.g.N]; exact g.g.nd) h1 hl sw k.hi k.ok k.hg k.ht k.he k.hs
  refine ⟨PS.imp key fun D σ H q => lc_imp k.sub (set_imp q), PS.imp key fun D σ H q => lc_impF k.sub (tF_new _ (set_imp q))⟩

/-! ### several names at once -/
theorem env_setW : ∀ {is : List Nat} {vs : List V} {ws : List Z.W} {Γ : Env'} {σ : L2.St} {w : Wo}, EnvR T w Γ σ → WRs T w vs ws → EnvR T w (setW is ws Γ) ((is.zip vs).foldl (fun σ p => σ.set p.1 (some p.2)) σ)
  | [], [], [], _, _, _, h, _ => h
  | [], _ :: _, _ :: _, _, _, _, h, _ => h
  | _ :: _, [], [], _, _, _, h, _ => h
  | i :: is, v :: vs, x :: xs, Γ, σ, w, h, r => by
    have := env_setW (is := is) (h.set i r.1) r.2
    exact this
  | _, [], _ :: _, _, _, _, _, r => r.elim
  | _, _ :: _, [], _, _, _, _, r => r.elim
theorem plNm_of (g : Good T L c X) {i : Nat} {n : Str} (h : plNm c i n = true) : X.N[i]? = some n ∧ X.env.scope.names.lookup n = some .local := by
  obtain ⟨h1, h2⟩ := and2 h
  exact ⟨by rw [g.N]; exact of_decide_eq_true h1, by rw [g.sc]; exact of_decide_eq_true h2⟩
theorem bk_of (g : Good T L c X) (h : isFn c = true) : X.env.blockKind = .function := by
  have hk : X.env.scope.kind = .function := by
    rw [g.sc]; unfold isFn at h; revert h; cases c.sc.kind <;> intro h <;> first | rfl | cases h
  unfold Env.blockKind; rw [hk]; rfl
theorem fl_of {p : Expr → Bool} {es : List Expr} (h : (!(es.all p)) = true) : es.all p = false := by
  revert h; cases es.all p <;> intro h <;> first | rfl | cases h
theorem dup2 {x y : Str} (h : x ≠ y) : ([x, y] : List Str).eraseDups.length = 2 := by
  simp [List.eraseDups, List.eraseDupsBy, List.eraseDupsBy.loop, Ne.symm h, beq_eq_false_iff_ne.mpr (Ne.symm h)]
theorem dup3 {x y z : Str} (h : x ≠ y) (h2 : x ≠ z) (h3 : y ≠ z) : ([x, y, z] : List Str).eraseDups.length = 3 := by
  simp [List.eraseDups, List.eraseDupsBy, List.eraseDupsBy.loop, Ne.symm h, Ne.symm h2, Ne.symm h3, beq_eq_false_iff_ne.mpr (Ne.symm h), beq_eq_false_iff_ne.mpr (Ne.symm h2), beq_eq_false_iff_ne.mpr (Ne.symm h3)]
theorem swap2 (g : Good T L c X) {x y : Str} {px py pt pt2 : Pos} {kt k2 : Nat} {a b : Expr} (hx : X.env.scope.names.lookup x = some .local) (hy : X.env.scope.names.lookup y = some .local) (hne : x ≠ y) (hl : (py.line == px.line) = true) (ok : [a, b].all okX = true) (hs : swp c [a, b] = true) :
    swappedStores [.Tuple [.Name x px, .Name y py] kt pt] (.Tuple [a, b] k2 pt2) X.env = pure (some [x, y]) := by
  obtain ⟨s1, s2, s3⟩ := and3 hs
  have hb := bk_of g s1
  have kx : X.env.kindOf x = some .local := hx
  have ky : X.env.kindOf y = some .local := hy
  have e2 := dup2 hne
  have f1 := fl_of s2
  have f2 := fl_of s3
  unfold swappedStores
  simp only [List.length_cons, List.length_nil, hb, f1, f2, Option.map_some, List.head?_cons, Option.getD_some, List.filterMap_cons, List.filterMap_nil, Expr.pos, kx, ky, hl, beq_self_eq_true, Bool.and_self, if_true]
  rw [if_neg (by decide), if_neg (by
    rw [List.any_eq_true]
    rintro ⟨v, hv, h⟩
    have := List.all_eq_true.mp ok v hv
    cases v <;> first | exact absurd h Bool.false_ne_true | exact absurd this Bool.false_ne_true), if_neg (by rw [e2]; decide), if_neg Bool.false_ne_true, if_neg Bool.false_ne_true]
theorem swap3 (g : Good T L c X) {x y z : Str} {px py pz pt pt2 : Pos} {kt k2 : Nat} {a b d : Expr} (hx : X.env.scope.names.lookup x = some .local) (hy : X.env.scope.names.lookup y = some .local) (hz : X.env.scope.names.lookup z = some .local) (hne : x ≠ y) (hne2 : x ≠ z) (hne3 : y ≠ z) (hl : (py.line == px.line) = true) (hl2 : (pz.line == px.line) = true) (ok : [a, b, d].all okX = true) (hs : swp c [a, b, d] = true) :
    swappedStores [.Tuple [.Name x px, .Name y py, .Name z pz] kt pt] (.Tuple [a, b, d] k2 pt2) X.env = pure (some [x, y, z]) := by
  obtain ⟨s1, s2, s3⟩ := and3 hs
  have hb := bk_of g s1
  have kx : X.env.kindOf x = some .local := hx
  have ky : X.env.kindOf y = some .local := hy
  have kz : X.env.kindOf z = some .local := hz
  have e2 := dup3 hne hne2 hne3
  have f1 := fl_of s2
  have f2 := fl_of s3
  unfold swappedStores
  simp only [List.length_cons, List.length_nil, hb, f1, f2, Option.map_some, List.head?_cons, Option.getD_some, List.filterMap_cons, List.filterMap_nil, Expr.pos, kx, ky, kz, hl, hl2, beq_self_eq_true, Bool.and_self, if_true]
  rw [if_neg (by decide), if_neg (by
    rw [List.any_eq_true]
    rintro ⟨v, hv, h⟩
    have := List.all_eq_true.mp ok v hv
    cases v <;> first | exact absurd h Bool.false_ne_true | exact absurd this Bool.false_ne_true), if_neg (by rw [e2]; decide), if_neg Bool.false_ne_true, if_neg Bool.false_ne_true]
theorem foldMatch {n : Nat} {es : List Expr} {α : Type} {A B : Sem α} (h1 : (es.all (foldedForSure n)) = true) : (if es.all (foldedForSure n) = true then A else B) = A := by rw [if_pos h1]
theorem noSwap (g : Good T L c X) {ts vs : List Expr} {kt k2 : Nat} {pt pt2 : Pos} (ok : vs.all okX = true) (hlen : vs.length = ts.length) (h : (vs.all (foldedForSure 8)) = true ∨ 4 ≤ ts.length) (hf : isFn c = true) :
    swappedStores [.Tuple ts kt pt] (.Tuple vs k2 pt2) X.env = pure none := by
  have hb := bk_of g hf
  unfold swappedStores
  by_cases c1 : (!(ts.length == 2 || ts.length == 3) || vs.length != ts.length || X.env.blockKind != .function) = true
  · simp only []
    rw [if_pos c1]
  · simp only []
    rw [if_neg c1]
    have hfold : (vs.all (foldedForSure 8)) = true := by
      rcases h with h | h
      · exact h
      · exfalso; apply c1
        have e1 : (ts.length == 2) = false := by simp; omega
        have e2 : (ts.length == 3) = false := by simp; omega
        rw [e1, e2]; rfl
    rw [if_neg (by
      rw [List.any_eq_true]
      rintro ⟨v, hv, h⟩
      have := List.all_eq_true.mp ok v hv
      cases v <;> first | exact absurd h Bool.false_ne_true | exact absurd this Bool.false_ne_true)]
    split
    · rfl
    · first | rfl | rw [if_pos hfold]
end
end Z
namespace Z
open PySem PySem.Spec PyProof.Rows L2
section
variable {T : Tab} {L : Nat} {c : Cc} {X : Cx} {W : WX} {e x y z v tg iter elt : Expr} {es xs ifs ts vs : List Expr} {p a b k el : Ex} {ps : Exs} {pos : Pos} {body : List Stmt} {sm : Sm} {sms sa sb : Sms}
theorem vals_wrs1 {w : Wo} {vs : List V} {x y : Z.W} (h : WRs T w vs [x, y]) : ∃ v u, vs = [v, u] ∧ WR T w v x ∧ WR T w u y := wrs2 h
theorem zs_par2 (g : GoodS T L c X W) {i j : Nat} {n m : Str} {px py pt pt2 : Pos} {kt k2 : Nat} (hx : plNm c i n = true) (hy : plNm c j m = true) (hne : n ≠ m) (hl : (py.line == px.line) = true) (ok : [x, y].all okX = true) (hs : swp c [x, y] = true) (ha : PA X [x, y] (tA T W ps)) :
    PS X (.Assign [.Tuple [.Name n px, .Name m py] kt pt] (.Tuple [x, y] k2 pt2) pos) (tS T W (.par [i, j] ps)) := by
  obtain ⟨n1, n2⟩ := plNm_of g.g hx
  obtain ⟨m1, m2⟩ := plNm_of g.g hy
  have hij : i ≠ j := fun e => hne (by subst e; rw [n1] at m1; exact Option.some.inj m1)
  refine PS.imp (ps_par g.g.calm (by rw [g.g.N]; exact g.g.nd) n1 m1 hij n2 m2 ha (swap2 g.g n2 m2 hne hl ok hs)) fun D σ H q => ?_
  obtain ⟨w, Γ, st, E, R, A, h⟩ := q
  rw [wS] at h
  refine ⟨w, Γ, st, _, _, A.at, h, fun w1 s1 vs ws l1 r1 hx h1 => ?_⟩
  obtain ⟨hlen, h1⟩ := h1
  match ws, hlen, hx, h1 with
  | [a, b], _, hx, h1 =>
    obtain ⟨v, u, rfl, hv, hu⟩ := wrs2 hx
    exact ⟨v, u, rfl, A.d.nx w1 _ s1 _ l1 r1 (((A.e.mono l1).set i hv).set j hu) h1⟩
theorem wrs3 {w : Wo} {vs : List V} {x y z : Z.W} (h : WRs T w vs [x, y, z]) : ∃ v u t, vs = [v, u, t] ∧ WR T w v x ∧ WR T w u y ∧ WR T w t z := by
  cases vs with
  | nil => exact h.elim
  | cons v r =>
    obtain ⟨u, t, rfl, h2, h3⟩ := wrs2 h.2
    exact ⟨v, u, t, rfl, h.1, h2, h3⟩
theorem zs_par3 (g : GoodS T L c X W) {i j l : Nat} {n m o : Str} {px py pz pt pt2 : Pos} {kt k2 : Nat} (hx : plNm c i n = true) (hy : plNm c j m = true) (hz : plNm c l o = true) (hne : n ≠ m) (hne2 : n ≠ o) (hne3 : m ≠ o) (hl : (py.line == px.line) = true) (hl2 : (pz.line == px.line) = true) (ok : [x, y, z].all okX = true) (hs : swp c [x, y, z] = true) (ha : PA X [x, y, z] (tA T W ps)) :
    PS X (.Assign [.Tuple [.Name n px, .Name m py, .Name o pz] kt pt] (.Tuple [x, y, z] k2 pt2) pos) (tS T W (.par [i, j, l] ps)) := by
  obtain ⟨n1, n2⟩ := plNm_of g.g hx
  obtain ⟨m1, m2⟩ := plNm_of g.g hy
  obtain ⟨o1, o2⟩ := plNm_of g.g hz
  have hij : i ≠ j := fun e => hne (by subst e; rw [n1] at m1; exact Option.some.inj m1)
  have hil : i ≠ l := fun e => hne2 (by subst e; rw [n1] at o1; exact Option.some.inj o1)
  have hjl : j ≠ l := fun e => hne3 (by subst e; rw [m1] at o1; exact Option.some.inj o1)
  refine PS.imp (ps_par3 g.g.calm (by rw [g.g.N]; exact g.g.nd) n1 m1 o1 hij hil hjl n2 m2 o2 ha (swap3 g.g n2 m2 o2 hne hne2 hne3 hl hl2 ok hs)) fun D σ H q => ?_
  obtain ⟨w, Γ, st, E, R, A, h⟩ := q
  rw [wS] at h
  refine ⟨w, Γ, st, _, _, A.at, h, fun w1 s1 vs ws l1 r1 hx h1 => ?_⟩
  obtain ⟨hlen, h1⟩ := h1
  match ws, hlen, hx, h1 with
  | [a, b, d], _, hx, h1 =>
    obtain ⟨v, u, t, rfl, hv, hu, ht⟩ := wrs3 hx
    exact ⟨v, u, t, rfl, A.d.nx w1 _ s1 _ l1 r1 ((((A.e.mono l1).set i hv).set j hu).set l ht) h1⟩
theorem zs_made (g : GoodS T L c X W) {is : List Nat} {pt pt2 : Pos} {kt k2 : Nat} (hm : madeC c is ts vs = true) (ok : vs.all okX = true) (ha : PA X vs (tA T W ps)) : PS X (.Assign [.Tuple ts kt pt] (.Tuple vs k2 pt2) pos) (tS T W (.par is ps)) := by
  unfold madeC at hm
  obtain ⟨hm, hsz⟩ := and2 hm
  obtain ⟨hm, hf⟩ := and2 hm
  obtain ⟨h1, h2, h3⟩ := and3 hm
  have hsz : is.length ≤ 1000 := of_decide_eq_true hsz
  have h3' : (vs.all (foldedForSure 8)) = true ∨ 4 ≤ ts.length := by
    rw [Bool.or_eq_true] at h3
    exact h3.imp id fun h => of_decide_eq_true h
  obtain ⟨k1, kk2, k3⟩ := zg_all g.g h1
  refine PS.imp (ps_asg (pe_tup ha) (pg_tup g.g.calm k1 kk2 k3) rfl (noSwap g.g ok (of_decide_eq_true h2) h3' hf) rfl) fun D σ H q => ?_
  obtain ⟨w, Γ, st, E, R, A, h⟩ := q
  rw [wS] at h
  refine ⟨w, Γ, st, _, _, A.at, h, fun w1 s1 us ws l1 r1 hx h1 => ?_⟩
  obtain ⟨e1, h1⟩ := h1
  refine ⟨by rw [hx.length, e1, sizeLine_eq]; omega, fun p n => ?_⟩
  obtain ⟨r2, l2, nF, na⟩ := r1.born (o := .tup us) n
  refine ⟨p, us, rfl, .of upd_same, by rw [hx.length]; exact e1, by rw [hx.length]; exact e1, ?_⟩
  exact A.d.nx ⟨w1.F, w1.ad, upd w1.H p (.tup us)⟩ _ s1 _ (l1.trans l2) r2 (env_setW (A.e.mono (l1.trans l2)) (hx.mono l2)) h1

theorem zs_unp (g : GoodS T L c X W) {is : List Nat} {pt : Pos} {kt : Nat} (hn : nmsC c is ts = true) (hv : isTupE v = false) (ok : okX v = true) (ha : PE X v (tE T W p)) : PS X (.Assign [.Tuple ts kt pt] v pos) (tS T W (.unp is p)) := by
  refine PS.imp (ps_asg ha (zg_tup (T := T) (pos := pt) (j := kt) g.g hn) (by cases v <;> first | rfl | exact absurd ok Bool.false_ne_true) (by cases v <;> first | rfl | exact absurd hv (fun q => Bool.noConfusion q)) rfl) fun D σ H q => ?_
  obtain ⟨w, Γ, st, E, R, A, h⟩ := q
  rw [wS] at h
  exact ⟨w, Γ, st, _, _, A.at, h, fun w1 s1 v1 x1 l1 r1 hx h1 => ⟨w1, Γ, s1, x1, _, rfl, r1, A.e.mono l1, hx, h1, fun Γ' σ' e' h2 _ => A.d.nx w1 Γ' s1 σ' l1 r1 e' h2⟩⟩
theorem zs_put (g : GoodS T L c X W) {p1 : Pos} (hl : isLc v = false) (ok : okX v = true) (oky : okX y = true) (ho : PE X x (tE T W a)) (hi : PE X y (tE T W b)) (hv : PE X v (tE T W p)) : PS X (.Assign [.Subscript x y p1] v pos) (tS T W (.put a b p)) := by
  refine PS.imp (ps_asg hv (pg_sub (pos := p1) ho hi set_list (by intro v; cases y <;> first | rfl | exact absurd oky Bool.false_ne_true)) (by cases v <;> first | rfl | exact absurd ok Bool.false_ne_true) (by cases v <;> rfl) rfl) fun D σ H q => ?_
  obtain ⟨w, Γ, st, E, R, A, h⟩ := q
  rw [wS] at h
  refine ⟨w, Γ, st, _, _, A.at, h, fun w1 s1 v1 x1 l1 r1 hz h1 => ⟨w1, Γ, s1, _, _, A.at.step l1 r1, h1, fun w2 s2 v2 x2 l2 r2 hx h2 => ⟨w2, Γ, s2, _, _, (A.at.step l1 r1).step l2 r2, h2, fun w3 s3 v3 x3 l3 r3 hy h3 => ?_⟩⟩⟩
  obtain ⟨cc, ds, rfl, e1, h3⟩ := onC_iff h3
  obtain ⟨d, rfl, h3⟩ := onV_iff h3
  obtain ⟨i, rfl, h3⟩ := onI_iff h3
  obtain ⟨j, e2, h3⟩ := onS_iff h3
  have hx := hx.mono l3
  have hz := (hz.mono l2).mono l3
  have l13 := (l1.trans l2).trans l3
  cases hx with
  | p e3 =>
    rename_i ad
    obtain ⟨nF, us, e4, d1⟩ := r3.cell _ _ _ e3 e1
    cases hz with
    | d hz =>
      refine ⟨ad, us, i, j, rfl, hy.int, e4, by rw [d1.length]; exact e2, ?_⟩
      obtain ⟨r4, l4⟩ := r3.stored e3 e1 (d1.set hz j)
      exact A.d.nx ⟨w3.F, w3.ad, upd w3.H ad (.lst (us.set j v1))⟩ Γ _ σ (l13.trans l4) r4 (A.e.mono (l13.trans l4)) h3
theorem zs_app (g : GoodS T L c X W) {p1 p2 : Pos} {n : Str} (hn : n = ("append" : Str)) (hl : (p1.endLine == p2.line) = true) (hx : isNm x = true) (ok : okX y = true) (ho : PE X x (tE T W a)) (hv : PE X y (tE T W p)) : PS X (.Expr (.Call (.Attribute x n p1) [y] [] p2) pos) (tS T W (.app a p)) := by
  subst hn
  cases x with
  | Name id p0 =>
    refine PS.imp (ps_expr (pe_bm PySem.F.plainAttrs_list PySem.F.slot_list_append PySem.F.type_list_append mt_append ho (pa_cons hv pa_nil (star_ok ok _ _)) rfl (by rw [star_ok ok]; rfl) hl (star_ok ok _ _) rfl) rfl) fun D σ H q => ?_
    obtain ⟨w, Γ, st, E, R, A, h⟩ := q
    rw [wS] at h
    refine ⟨w, Γ, st, _, _, A.at, h, fun w1 s1 v1 x1 l1 r1 hx h1 => ?_⟩
    obtain ⟨_, _, ex, es, h1⟩ := onC_iff h1
    have ty : tyV X.K "list" v1 w1.H := by
      subst ex
      cases hx with
      | p e3 =>
        obtain ⟨_, us, e4, _⟩ := r1.cell _ _ _ e3 es
        exact .inl ⟨rfl, _, .of e4⟩
    refine ⟨ty, w1, Γ, s1, _, _, A.at.step l1 r1, h1, fun w2 s2 v2 x2 l2 r2 hz h2 => ?_⟩
    obtain ⟨cc, ds, rfl, e1, h2⟩ := onC_iff h2
    obtain ⟨d, rfl, hsz, h2⟩ := onV_iff h2
    have hx := hx.mono l2
    have l12 := l1.trans l2
    cases hx with
    | p e3 =>
      rename_i ad
      obtain ⟨nF, us, e4, d1⟩ := r2.cell _ _ _ e3 e1
      cases hz with
      | d hz =>
        refine ⟨ad, us, v2, rfl, rfl, e4, by rw [d1.length]; exact hsz, ?_⟩
        obtain ⟨r4, l4⟩ := r2.stored e3 e1 (d1.app (.cons hz .nil))
        exact A.d.nx ⟨w2.F, w2.ad, upd w2.H ad (.lst (us ++ [v2]))⟩ Γ _ σ (l12.trans l4) r4 (A.e.mono (l12.trans l4)) h2
  | _ => exact absurd hx Bool.false_ne_true
theorem zs_ret (ha : PE X x (tE T W p)) : PS X (.Return (some x) pos) (tS T W (.ret p)) := by
  refine PS.imp (ps_ret ha) fun D σ H q => ?_
  obtain ⟨w, Γ, st, E, R, A, h⟩ := q
  rw [wS] at h
  exact ⟨w, Γ, st, _, _, A.at, h, fun w1 s1 v1 x1 l1 r1 hx h1 => A.d.rt w1 s1 _ _ l1 r1 hx h1⟩
theorem zs_ex (hc : isCall x = true) (ha : PE X x (tE T W p)) : PS X (.Expr x pos) (tS T W (.ex p)) := by
  refine PS.imp (ps_expr ha ?_) fun D σ H q => ?_
  · cases x <;> first | rfl | exact absurd hc Bool.false_ne_true
  obtain ⟨w, Γ, st, E, R, A, h⟩ := q
  rw [wS] at h
  exact ⟨w, Γ, st, _, _, A.at, h, fun w1 s1 v1 x1 l1 r1 hx h1 => A.d.nx w1 Γ s1 σ l1 r1 (A.e.mono l1) h1⟩
theorem zs_ite {s1 s2 : List Stmt} (hk : PT X z (tT T W k)) (ha : PSs X s1 (tSs T W sa)) (hb : PSs X s2 (tSs T W sb)) : PS X (.If z s1 s2 pos) (tS T W (.ite k sa sb)) := by
  refine PS.imp (ps_if hk ha hb) fun D σ H q => ?_
  obtain ⟨w, Γ, st, E, R, A, h⟩ := q
  rw [wS] at h
  refine ⟨w, Γ, st, _, _, A.at, h, fun w1 s1 t l1 r1 h1 => ?_⟩
  cases t with
  | true => exact iteT ⟨w1, Γ, s1, E, R, A.step l1 r1 (A.e.mono l1), h1.1 rfl⟩
  | false => exact iteF ⟨w1, Γ, s1, E, R, A.step l1 r1 (A.e.mono l1), h1.2 rfl⟩
theorem zs_whl (g : GoodS T L c X W) (hk : PT X z (tT T W k)) (hb : PSs X body (tSs T W sb)) : PS X (.While z body [] pos) (tS T W (.whl k sb)) := by
  refine PS.imp (ps_while g.po hk hb) fun D σ H q => ?_
  obtain ⟨w, Γ, st, E, R, A, h⟩ := q
  rw [wS] at h
  obtain ⟨I, ⟨m0, h0⟩, hI⟩ := h
  refine ⟨fun m σ' H' => ∃ w' Γ' st', w'.H = H' ∧ Le w w' ∧ Rel T.K w' st' ∧ EnvR T w' Γ' σ' ∧ I m Γ' st', ⟨m0, w, Γ, st, A.h, Le.refl _, A.r, A.e, h0⟩, fun m σ' H' hW => ?_⟩
  obtain ⟨w1, Γ1, st1, rfl, l1, r1, e1, i1⟩ := hW
  have A1 := A.step l1 r1 e1
  refine ⟨w1, Γ1, st1, _, _, A1.at, hI m Γ1 st1 i1, fun w2 st2 t l2 r2 h2 => ?_⟩
  have l12 := l1.trans l2
  cases t with
  | false => exact iteF (A.d.nx w2 Γ1 st2 σ' l12 r2 (e1.mono l2) (h2.2 rfl))
  | true =>
    refine iteT ⟨fun σ'' H'' => ∃ w' Γ' st' m', m' < m ∧ w'.H = H'' ∧ Le w w' ∧ Rel T.K w' st' ∧ EnvR T w' Γ' σ'' ∧ I m' Γ' st', fun σ'' H'' hN => ?_, w2, Γ1, st2, _, R, ⟨rfl, r2, e1.mono l2, A.x.mono l12, ⟨?_, ?_, ?_, ?_⟩⟩, h2.1 rfl⟩
    · obtain ⟨w', Γ', st', m', hm, e, l, r, ev, i⟩ := hN
      exact ⟨m', hm, w', Γ', st', e, l, r, ev, i⟩
    · rintro w3 Γ3 st3 σ3 l3 r3 e3 ⟨m', hm, i3⟩
      exact ⟨w3, Γ3, st3, m', hm, rfl, l12.trans l3, r3, e3, i3⟩
    · exact fun w3 st3 v x l3 r3 hx h3 => A.d.rt w3 st3 v x (l12.trans l3) r3 hx h3
    · exact fun w3 Γ3 st3 σ3 l3 r3 e3 h3 => A.d.nx w3 Γ3 st3 σ3 (l12.trans l3) r3 e3 h3
    · rintro w3 Γ3 st3 σ3 l3 r3 e3 ⟨m', hm, i3⟩
      exact ⟨w3, Γ3, st3, m', hm, rfl, l12.trans l3, r3, e3, i3⟩
theorem zs_for (g : GoodS T L c X W) {gt : Tg} {it : It} (hi : PI X tg iter (tIt T W it)) (ok : okX iter = true) (ht : tgC c gt tg = true) (hb : PSs X body (tSs T W sb)) : PS X (.For tg iter body [] pos) (tS T W (.for_ gt it sb)) := by
  refine PS.imp (ps_for g.po g.g.calm hi (zg (T := T) g.g ht) hb (fun x => fold_ok ok _ x)) fun D σ H q => ?_
  obtain ⟨w, Γ, st, E, R, A, h⟩ := q
  rw [wS] at h
  refine ⟨w, Γ, st, _, _, A.at, h, fun w1 st1 J ws l1 r1 iok h1 => ?_⟩
  let B := fun (x : Z.W) (Γ : Env') (s : Store) (K : Env' → Store → Prop) => wTg gt x Γ s fun Γ' => wSs T.S sb Γ' s ⟨K, E.rt, E.nx, K⟩ R
  let St : List Z.W → L2.St → Hp → Prop := fun rest σ' H' => ∃ w' Γ' st', w'.H = H' ∧ Le w1 w' ∧ Rel T.K w' st' ∧ EnvR T w' Γ' σ' ∧ wFor B E.nx rest Γ' st'
  refine ⟨fun i m σ' H' => m = ws.length - i ∧ i ≤ ws.length ∧ St (ws.drop i) σ' H', ⟨_, rfl, Nat.zero_le _, w1, Γ, st1, rfl, Le.refl _, r1, A.e.mono l1, h1⟩, fun i m σ' H' hW => ?_⟩
  obtain ⟨rfl, hi, w2, Γ2, st2, rfl, l2, r2, e2, hl⟩ := hW
  have l12 := l1.trans l2
  by_cases he : i = ws.length
  · subst he
    rw [List.drop_length] at hl
    exact .inl ⟨iok.stop w2 st2 l2 r2, A.d.nx w2 Γ2 st2 σ' l12 r2 e2 hl⟩
  · have hlt : i < ws.length := by omega
    refine .inr ⟨iok.go i w2 st2 l2 r2 hlt, St (ws.drop (i + 1)), fun σ'' H'' hN => ⟨_, by omega, rfl, by omega, hN⟩, fun v H' hy => ?_⟩
    obtain ⟨w3, y, rfl, l3, r3, ey, hy⟩ := iok.yld i w2 st2 v H' l2 r2 hlt hy
    have ed : ws.drop i = y :: ws.drop (i + 1) := by
      have e1 := List.drop_eq_getElem_cons hlt
      rw [e1]; congr 1
      rw [List.getElem?_eq_getElem hlt] at ey; exact Option.some.inj ey
    rw [ed] at hl
    have hl : B y Γ2 st2 fun Γ' s' => wFor B E.nx (ws.drop (i + 1)) Γ' s' := hl
    have l13 := l2.trans l3
    have l03 := l1.trans l13
    refine ⟨w3, Γ2, st2, y, _, rfl, r3, e2.mono l3, hy, hl, fun Γ' σ'' ev' hc _ => ⟨w3, Γ', st2, _, R, ⟨rfl, r3, ev', A.x.mono l03, ⟨?_, ?_, ?_, ?_⟩⟩, hc⟩⟩
    · exact fun w4 Γ4 st4 σ4 l4 r4 e4 h4 => ⟨w4, Γ4, st4, rfl, l13.trans l4, r4, e4, h4⟩
    · exact fun w4 st4 v x l4 r4 hx h4 => A.d.rt w4 st4 v x (l03.trans l4) r4 hx h4
    · exact fun w4 Γ4 st4 σ4 l4 r4 e4 h4 => A.d.nx w4 Γ4 st4 σ4 (l03.trans l4) r4 e4 h4
    · exact fun w4 Γ4 st4 σ4 l4 r4 e4 h4 => ⟨w4, Γ4, st4, rfl, l13.trans l4, r4, e4, h4⟩
theorem zs_raise (g : GoodS T L c X W) {j : Nat} {n m : Str} {jj : Nat} {p1 p2 p3 : Pos} (hg : glC c n = true) (hx : (j, n) ∈ c.xs) : PS X (.Raise (some (.Call (.Name n p1) [.Constant (.str m) jj p2] [] p3)) none pos) (tS T W (.raise j)) := by
  obtain ⟨g1, g2, _⟩ := gl_of g.g hg
  obtain ⟨q1, q2, q3, q4, q5⟩ := g.exc j n hx
  refine PS.imp (ps_raise g.g.calm g.tk (pmk_own PySem.F.excBase_ValueError q3 q1 q2 (raises_own q4 q5) g1 g2)) fun D σ H q => ?_
  obtain ⟨w, Γ, st, E, R, A, h⟩ := q
  rw [wS] at h
  have := A.x w Γ st σ j (Le.refl _) A.r A.e h
  rw [A.h] at this
  exact this

variable (T L) in
def SS (p : Sm) : Prop := ∀ (c : Cc) (st : Stmt) (X : Cx) (W : WX), chkS c p st = true → GoodS T L c X W → PS X st (tS T W p)
variable (T L) in
def SSs (p : Sms) : Prop := ∀ (c : Cc) (st : List Stmt) (X : Cx) (W : WX), chkSs c p st = true → GoodS T L c X W → PSs X st (tSs T W p)
theorem bnot {b : Bool} (h : (!b) = true) : b = false := by cases b <;> first | rfl | cases h
theorem ss_set (i : Nat) (p : Ex) : SS T L (.set i p) := fun c st X W h g => by
  cases st with
  | Assign tgs v pos =>
    match tgs, h with
    | [.Name n p1], h =>
      rw [chkS] at h
      obtain ⟨h1, h2, h3⟩ := and3 h
      by_cases hl : isLc v = true
      · rw [hl] at h3
        have h3 : (decide (c.sc.names.lookup n = some .local) && lcSame c n p1 v && isFn c) = true := h3
        obtain ⟨k1, k2, k3⟩ := and3 h3
        cases v with
        | ListComp elt gens scope vp =>
          cases p with
          | comp own gt it cd el =>
            match gens, h2, k2 with
            | [⟨tg, iter, ifs, 0⟩], h2, k2 =>
              rw [chkE] at h2
              exact (zs_setLc g h1 (of_decide_eq_true k1) k3 k2 (lcok h2 g.g g.tk (sIt it) (sCd cd) (sE el))).1
          | new q =>
            obtain ⟨f1, f2⟩ := chk_new h2
            cases q with
            | comp own gt it cd el =>
              match gens, f2, k2 with
              | [⟨tg, iter, ifs, 0⟩], f2, k2 =>
                rw [chkE] at f2
                exact (zs_setLc g h1 (of_decide_eq_true k1) k3 k2 (lcok f2 g.g g.tk (sIt it) (sCd cd) (sE el))).2
            | new _ => exact absurd f1 Bool.false_ne_true
            | _ => simp [chkE] at f2
          | _ => simp [chkE] at h2
        | _ => cases hl
      · have hl' : isLc v = false := by revert hl; cases isLc v <;> intro h <;> first | rfl | exact absurd rfl h
        exact zs_set g h1 hl' (chk_ok h2) (sE p c v X W h2 g.g g.tk).1
  | _ => simp [chkS] at h
theorem ss_par (is : List Nat) (ps : Exs) : SS T L (.par is ps) := fun c st X W h g => by
  cases st with
  | Assign tgs v pos =>
    match tgs, v, h with
    | [.Tuple ts kt pt], .Tuple vs k2 pt2, h =>
      rw [chkS] at h
      obtain ⟨h1, h2⟩ := and2 h
      have ok := chkAs_ok h2
      have ha := sAs ps c vs X W h2 g.g g.tk
      rw [Bool.or_eq_true] at h1
      rcases h1 with h1 | h1
      · unfold parC at h1
        split at h1
        · obtain ⟨h1, e5⟩ := and2 h1
          obtain ⟨h1, e4⟩ := and2 h1
          obtain ⟨e1, e2, e3⟩ := and3 h1
          exact zs_par2 g e1 e2 (of_decide_eq_true e3) e4 ok e5 ha
        · obtain ⟨h1, e9⟩ := and2 h1
          obtain ⟨h1, e8⟩ := and2 h1
          obtain ⟨h1, e7⟩ := and2 h1
          obtain ⟨h1, e6⟩ := and2 h1
          obtain ⟨h1, e5⟩ := and2 h1
          obtain ⟨h1, e4⟩ := and2 h1
          obtain ⟨e1, e2, e3⟩ := and3 h1
          exact zs_par3 g e1 e2 e3 (of_decide_eq_true e4) (of_decide_eq_true e5) (of_decide_eq_true e6) e7 e8 ok e9 ha
        · cases h1
      · exact zs_made g h1 ok ha
  | _ => simp [chkS] at h
theorem ss_unp (is : List Nat) (p : Ex) : SS T L (.unp is p) := fun c st X W h g => by
  cases st with
  | Assign tgs v pos =>
    match tgs, h with
    | [.Tuple ts kt pt], h =>
      rw [chkS] at h
      obtain ⟨h1, h2, h3⟩ := and3 h
      exact zs_unp g h1 (bnot h3) (chk_ok h2) (sE p c v X W h2 g.g g.tk).1
  | _ => simp [chkS] at h
theorem ss_put (a b p : Ex) : SS T L (.put a b p) := fun c st X W h g => by
  cases st with
  | Assign tgs v pos =>
    match tgs, h with
    | [.Subscript x y p1], h =>
      rw [chkS] at h
      obtain ⟨h, h4⟩ := and2 h
      obtain ⟨h1, h2, h3⟩ := and3 h
      exact zs_put g (bnot h4) (chk_ok h3) (chk_ok h2) (sE a c x X W h1 g.g g.tk).1 (sE b c y X W h2 g.g g.tk).1 (sE p c v X W h3 g.g g.tk).1
  | _ => simp [chkS] at h
theorem ss_app (a p : Ex) : SS T L (.app a p) := fun c st X W h g => by
  cases st with
  | Expr e pos =>
    match e, h with
    | .Call (.Attribute x n p1) [y] [] p2, h =>
      rw [chkS] at h
      obtain ⟨h, h5⟩ := and2 h
      obtain ⟨h, h4⟩ := and2 h
      obtain ⟨h1, h2, h3⟩ := and3 h
      exact zs_app g (of_decide_eq_true h1) h2 h3 (chk_ok h5) (sE a c x X W h4 g.g g.tk).1 (sE p c y X W h5 g.g g.tk).1
  | _ => simp [chkS] at h
theorem ss_ret (p : Ex) : SS T L (.ret p) := fun c st X W h g => by
  cases st with
  | Return v pos =>
    cases v with
    | none => simp [chkS] at h
    | some v => rw [chkS] at h; exact zs_ret (sE p c v X W h g.g g.tk).1
  | _ => simp [chkS] at h
theorem ss_ex (p : Ex) : SS T L (.ex p) := fun c st X W h g => by
  cases st with
  | Expr v pos =>
    rw [chkS] at h
    obtain ⟨h1, h2⟩ := and2 h
    exact zs_ex h2 (sE p c v X W h1 g.g g.tk).1
  | _ => simp [chkS] at h
theorem ss_ite (k : Ex) (a b : Sms) (ha : SSs T L a) (hb : SSs T L b) : SS T L (.ite k a b) := fun c st X W h g => by
  cases st with
  | If t x y pos =>
    rw [chkS] at h
    obtain ⟨h1, h2, h3⟩ := and3 h
    exact zs_ite (sE k c t X W h1 g.g g.tk).2.1 (ha c x X W h2 g) (hb c y X W h3 g)
  | _ => simp [chkS] at h
theorem ss_whl (k : Ex) (b : Sms) (hb : SSs T L b) : SS T L (.whl k b) := fun c st X W h g => by
  cases st with
  | While t x y pos =>
    cases y with
    | nil =>
      rw [chkS] at h
      obtain ⟨h1, h2⟩ := and2 h
      exact zs_whl g (sE k c t X W h1 g.g g.tk).2.1 (hb c x X W h2 g)
    | cons _ _ => simp [chkS] at h
  | _ => simp [chkS] at h
theorem ss_for (gt : Tg) (it : It) (b : Sms) (hb : SSs T L b) : SS T L (.for_ gt it b) := fun c st X W h g => by
  cases st with
  | For tg iter x y pos =>
    cases y with
    | nil =>
      rw [chkS] at h
      obtain ⟨h1, h2, h3⟩ := and3 h
      obtain ⟨i1, i2⟩ := sIt it c tg iter X W h2 g.g g.tk
      exact zs_for g i1 i2 h1 (hb c x X W h3 g)
    | cons _ _ => simp [chkS] at h
  | _ => simp [chkS] at h
theorem ss_pass : SS T L .pass := fun c st X W h g => by
  cases st with
  | Pass pos =>
      refine PS.imp ps_pass fun D σ H q => ?_
      obtain ⟨w, Γ, st, E, R, A, h⟩ := q
      rw [wS] at h
      have := A.d.nx w Γ st σ (Le.refl _) A.r A.e h
      rw [A.h] at this; exact this
  | _ => simp [chkS] at h
theorem ss_brk : SS T L .brk := fun c st X W h g => by
  cases st with
  | Break pos =>
      refine PS.imp ps_break fun D σ H q => ?_
      obtain ⟨w, Γ, st, E, R, A, h⟩ := q
      rw [wS] at h
      have := A.d.bk w Γ st σ (Le.refl _) A.r A.e h
      rw [A.h] at this; exact this
  | _ => simp [chkS] at h
theorem ss_cont : SS T L .cont := fun c st X W h g => by
  cases st with
  | Continue pos =>
      refine PS.imp ps_continue fun D σ H q => ?_
      obtain ⟨w, Γ, st, E, R, A, h⟩ := q
      rw [wS] at h
      have := A.d.ct w Γ st σ (Le.refl _) A.r A.e h
      rw [A.h] at this; exact this
  | _ => simp [chkS] at h
theorem ss_raise (k : Nat) : SS T L (.raise k) := fun c st X W h g => by
  rw [chkS] at h
  obtain ⟨n, p1, m, jj, p2, p3, pos, rfl, h1, h2⟩ := chk_raise h
  exact zs_raise g h1 h2
theorem ss_frz (i : Nat) : SS T L (.frz i) := fun c st X W h g => by cases st <;> simp [chkS] at h
theorem sss_nil : SSs T L .nil := fun c st X W h g => by
  cases st with
  | nil =>
      refine PSs.imp pss_nil fun D σ H q => ?_
      obtain ⟨w, Γ, st, E, R, A, h⟩ := q
      rw [wSs] at h
      have := A.d.nx w Γ st σ (Le.refl _) A.r A.e h
      rw [A.h] at this; exact this
  | cons _ _ => simp [chkSs] at h
theorem seq_imp {s : Sm} {r : Sms} {D : Ends} {σ : L2.St} {H : Hp} (q : tSs T W (.cons s r) D σ H) : tSeq (tS T W s) (tSs T W r) D σ H := by
  obtain ⟨w, Γ, st, E, R, A, h⟩ := q
  rw [wSs] at h
  refine ⟨w, Γ, st, ⟨fun Γ' s' => wSs T.S r Γ' s' E R, E.rt, E.bk, E.ct⟩, R, ⟨A.h, A.r, A.e, A.x, ⟨fun w' Γ' st' σ' l r e h => ⟨w', Γ', st', E, R, A.step l r e, h⟩, A.d.rt, A.d.bk, A.d.ct⟩⟩, h⟩
theorem sss_cons (s : Sm) (r : Sms) (hs : SS T L s) (hr : SSs T L r) (nf : ∀ i, s ≠ .frz i) : SSs T L (.cons s r) := fun c st X W h g => by
  cases st with
  | nil => cases s <;> first | exact absurd rfl (nf _) | simp [chkSs] at h
  | cons x xs =>
    have h : (chkS c s x && chkSs c r xs) = true := by cases s <;> first | exact absurd rfl (nf _) | exact h
    obtain ⟨h1, h2⟩ := and2 h
    exact PSs.imp (pss_cons (hs c x X W h1 g) (hr c xs X W h2 g)) fun D σ H q => seq_imp q
theorem sss_frz (i : Nat) (r : Sms) (hr : SSs T L r) : SSs T L (.cons (.frz i) r) := fun c st X W h g => by
  have h : chkSs c r st = true := by cases st <;> exact h
  refine PSs.imp (hr c st X W h g) fun D σ H q => ?_
  obtain ⟨w, Γ, s1, E, R, A, h⟩ := q
  rw [wSs, wS] at h
  obtain ⟨o, e1, h⟩ := onS_iff h
  obtain ⟨x, rfl, h⟩ := onS_iff h
  obtain ⟨cc, ds, rfl, e2, h⟩ := onC_iff h
  obtain ⟨v, e3, hv⟩ := A.e.2 i _ e1
  cases hv with
  | p e4 =>
    rename_i ad
    obtain ⟨nF, us, e5, d1⟩ := A.r.cell _ _ _ e4 e2
    obtain ⟨r2, l2⟩ := A.r.killed e4 e2 e5
    have ev : EnvR T ⟨upd w.F ad (.lst us), w.ad, w.H⟩ (Γ.set i (some (.d (.list ds)))) σ := by
      have := (A.e.mono l2).set i (v := .ref ad) (x := .d (.list ds)) (.d (.lst upd_same (DRA.mono l2.f _ d1)))
      have es : σ.set i (some (V.ref ad)) = σ := by
        apply List.ext_getElem?
        intro j
        by_cases q : i = j
        · subst q
          obtain ⟨hb, _⟩ := List.getElem?_eq_some_iff.mp e3
          rw [List.getElem?_set_self hb, e3]
        · rw [List.getElem?_set_ne q]
      rw [es] at this
      exact this
    refine ⟨⟨upd w.F ad (.lst us), w.ad, w.H⟩, _, _, E, R, ?_, h⟩
    have := A.step l2 r2 ev
    rw [← A.h]; exact this
mutual
theorem sS : ∀ p : Sm, SS T L p
  | .set i p => ss_set i p
  | .par is ps => ss_par is ps
  | .unp is p => ss_unp is p
  | .put a b p => ss_put a b p
  | .app a p => ss_app a p
  | .ret p => ss_ret p
  | .ex p => ss_ex p
  | .ite k a b => ss_ite k a b (sSs a) (sSs b)
  | .whl k b => ss_whl k b (sSs b)
  | .for_ g it b => ss_for g it b (sSs b)
  | .pass => ss_pass
  | .brk => ss_brk
  | .cont => ss_cont
  | .raise k => ss_raise k
  | .frz i => ss_frz i
termination_by structural p => p
theorem sSs : ∀ p : Sms, SSs T L p
  | .nil => sss_nil
  | .cons (.frz i) r => sss_frz i r (sSs r)
  | .cons (.set i p) r => sss_cons _ r (sS (.set i p)) (sSs r) (fun _ e => by cases e)
  | .cons (.par i p) r => sss_cons _ r (sS (.par i p)) (sSs r) (fun _ e => by cases e)
  | .cons (.unp i p) r => sss_cons _ r (sS (.unp i p)) (sSs r) (fun _ e => by cases e)
  | .cons (.put i p q) r => sss_cons _ r (sS (.put i p q)) (sSs r) (fun _ e => by cases e)
  | .cons (.app i p) r => sss_cons _ r (sS (.app i p)) (sSs r) (fun _ e => by cases e)
  | .cons (.ex p) r => sss_cons _ r (sS (.ex p)) (sSs r) (fun _ e => by cases e)
  | .cons (.ret p) r => sss_cons _ r (sS (.ret p)) (sSs r) (fun _ e => by cases e)
  | .cons (.ite k a b) r => sss_cons _ r (sS (.ite k a b)) (sSs r) (fun _ e => by cases e)
  | .cons (.whl k b) r => sss_cons _ r (sS (.whl k b)) (sSs r) (fun _ e => by cases e)
  | .cons (.for_ k a b) r => sss_cons _ r (sS (.for_ k a b)) (sSs r) (fun _ e => by cases e)
  | .cons .pass r => sss_cons _ r (sS .pass) (sSs r) (fun _ e => by cases e)
  | .cons .brk r => sss_cons _ r (sS .brk) (sSs r) (fun _ e => by cases e)
  | .cons .cont r => sss_cons _ r (sS .cont) (sSs r) (fun _ e => by cases e)
  | .cons (.raise k) r => sss_cons _ r (sS (.raise k)) (sSs r) (fun _ e => by cases e)
termination_by structural p => p
end
end
end Z
namespace Z
open PySem PySem.Spec PyProof.Rows L2

/-! ## a def -/
section
variable {T : Tab} {w u : Wo} {st s : Store} {v : V} {x : Z.W}
theorem cut_le (l : Le w u) : Le w ⟨u.F, w.ad, u.H⟩ := ⟨l.f, ⟨[], by simp⟩, fun a h n => absurd h n, l.h, l.k⟩
theorem ad_take (l : Le w u) (r : Rel T.K w st) : w.ad = u.ad.take st.length := by
  obtain ⟨m, e⟩ := l.a
  rw [e, r.len, List.take_append_of_le_length (Nat.le_refl _), List.take_length]
theorem cut_rel (l : Le w u) (r : Rel T.K w st) (r2 : Rel T.K u s) : Rel T.K ⟨u.F, w.ad, u.H⟩ (s.take st.length) := by
  have ea := ad_take l r
  have hlen : st.length ≤ s.length := by
    have h1 := r2.len
    obtain ⟨m, e⟩ := l.a
    rw [e, List.length_append] at h1
    have h2 := r.len
    omega
  refine ⟨r2.sub, ?_, r.nd, fun a ha => r2.here a ?_, fun c a ds h1 h2 => ?_⟩
  · rw [List.length_take, r.len]; have := r.len; show min w.ad.length s.length = w.ad.length; omega
  · obtain ⟨m, e⟩ := l.a
    rw [e]; exact List.mem_append_left _ ha
  · have h1 : w.ad[c]? = some a := h1
    refine r2.cell c a ds (l.get h1) ?_
    rw [List.getElem?_take] at h2
    split at h2
    · exact h2
    · cases h2
theorem exit_of {P : Post} {Q : VK} (l : Le w u) (r : Rel T.K w st) (r2 : Rel T.K u s) (hx : WR T u v x) (h : exitOk st.length x s P) (q : EQ T w Q P) : Q v u.H := by
  have l2 := cut_le l
  have r3 := cut_rel l r r2
  cases hx with
  | p hc =>
    rename_i c a
    unfold exitOk at h
    dsimp only at h
    split at h
    · rename_i hlt
      have ha : w.ad[c]? = some a := by
        rw [ad_take l r, List.getElem?_take, if_pos hlt]; exact hc
      exact q ⟨u.F, w.ad, u.H⟩ _ _ _ l2 r3 (.p ha) h
    · rename_i hge
      split at h
      · rename_i ds e2
        obtain ⟨nF, vs, e3, d1⟩ := r2.cell c a _ hc e2
        have hnot : a ∉ w.ad := fun hm => by
          obtain ⟨j, hj, ej⟩ := List.mem_iff_getElem.mp hm
          have h1 : w.ad[j]? = some a := by rw [List.getElem?_eq_getElem hj, ej]
          have h2 := L2.nd_ix r2.nd (l.get h1) hc
          have := r.len
          omega
        have old : w.H a = none := l.n a (List.mem_of_getElem? hc) hnot
        rcases h with h | h
        · obtain ⟨r4, l4⟩ := Rel.freeze (T := T) l2 r3 (a := a) (o := .lst vs) e3 nF hnot old
          exact q ⟨upd u.F a (.lst vs), w.ad, u.H⟩ _ _ _ l4 r4 (.d (.lst upd_same (DRA.mono (F' := upd u.F a (.lst vs)) (fun b o e => by rw [upd_ne (fun z => by rw [z, nF] at e; cases e)]; exact e) _ d1))) h
        · obtain ⟨r4, l4⟩ := Rel.taken (T := T) l2 r3 e3 nF hnot old d1
          refine q ⟨u.F, w.ad ++ [a], u.H⟩ _ _ _ l4 r4 (.p ?_) h
          show (w.ad ++ [a])[st.length]? = some a
          rw [r.len]; simp
      · exact h.elim
  | d h1 => exact q ⟨u.F, w.ad, u.H⟩ _ _ _ l2 r3 (.d h1) h
  | fn k => exact q ⟨u.F, w.ad, u.H⟩ _ _ _ l2 r3 (.fn k) h
  | fll h1 => exact q ⟨u.F, w.ad, u.H⟩ _ _ _ l2 r3 (.fll h1) h
  | flt h1 => exact q ⟨u.F, w.ad, u.H⟩ _ _ _ l2 r3 (.flt h1) h
  | fz h1 h2 => exact q ⟨u.F, w.ad, u.H⟩ _ _ _ l2 r3 (.fz h1 h2) h
end

/-- how the names stand at the entry -/
def env0 (n : Nat) (ws : List W) : Env' := ws.map some ++ List.replicate (n - ws.length) none
def en0 (n : Nat) (P : Post) : En := ⟨fun _ s => exitOk n (.d .none) s P, fun v s => exitOk n v s P, fun _ _ => False, fun _ _ => False⟩
def ex0 (n : Nat) (R : XP) : XPS := fun k _ s => R k (s.take n)
/-- the body does what the spec says -/
def Does (S : Nat → Spec) (n : Nat) (body : Sms) (sp : Spec) : Prop := ∀ ws st P R, sp ws st P R → wSs S body (env0 n ws) st (en0 st.length P) (ex0 st.length R)
def Ari (n : Nat) (sp : Spec) : Prop := ∀ ws st P R, sp ws st P R → ws.length = n

theorem env_start {T : Tab} {w : Wo} {N : List Str} {vs : List V} {ws : List Z.W} (h : WRs T w vs ws) : EnvR T w (env0 N.length ws) (L2.start N vs) := by
  have hl := h.length
  refine ⟨by simp [env0, L2.start, hl], fun i x e => ?_⟩
  unfold env0 at e
  unfold L2.start
  have get : ∀ {vs : List V} {ws : List Z.W} {i : Nat} {x : Z.W}, WRs T w vs ws → ws[i]? = some x → ∃ v, vs[i]? = some v ∧ WR T w v x := by
    intro vs
    induction vs with
    | nil => intro ws i x h e; cases ws with | nil => simp at e | cons _ _ => exact h.elim
    | cons v vs ih =>
      intro ws i x h e
      cases ws with
      | nil => exact h.elim
      | cons y ys =>
        cases i with
        | zero => simp at e; subst e; exact ⟨v, rfl, h.1⟩
        | succ i => simpa using ih h.2 (by simpa using e)
  by_cases hi : i < ws.length
  · rw [List.getElem?_append_left (by simpa using hi), List.getElem?_map] at e
    cases e2 : ws[i]? with
    | none => rw [e2] at e; cases e
    | some y =>
      rw [e2] at e; cases e
      obtain ⟨v, e3, r⟩ := get h e2
      exact ⟨v, by rw [List.getElem?_append_left (by simp [hl]; exact hi), List.getElem?_map, e3]; rfl, r⟩
  · rw [List.getElem?_append_right (by simpa using Nat.le_of_not_lt hi)] at e
    rw [List.getElem?_replicate] at e
    split at e <;> cases e

/-- what is known of the names that a def uses -/
structure Facts (P : Program) (w : World) (K : PySem.W.Frag) (mg : Str → Option Value) (base : Heap) (T : Tab) (L : Nat) (c : Cc) : Prop where
  fn : ∀ k x, (k, x) ∈ c.fs → mg x = some (.ref (T.fa k)) ∧ PySem.W.keepIn K (.ref (T.fa k)) = true ∧ ∃ (fd : FuncData) (ps : List Str), FnOk P w K mg base (L2.CX P w) L (T.fa k) fd ps (toSp T (T.S k)) ∧ Binds K fd ps []
  cs : ∀ x d, (x, d) ∈ c.cs → ∃ u v, mg x = some u ∧ RelV v u ∧ ∀ F, DR T.K F v d
  bl : ∀ x, x ∈ c.bl → mg x = none
  exc : ∀ k x, (k, x) ∈ c.xs → mg x = some (.ref (T.ec k)) ∧ PySem.W.keepIn K (.ref (T.ec k)) = true ∧ PySem.W.excIn K (T.ec k) [.type "ValueError", .type "Exception", .type "BaseException", .type "object"] "ValueError.__new__" = true ∧
    PySem.W.subIn K (.ref (T.ec k)) (.type "BaseException") = some true ∧ PySem.W.typeIn K (.ref (T.ec k)) = some (.type "type")

section
variable {P : Program} {w : World} {K : PySem.W.Frag} {mg : Str → Option Value} {base : Heap} {T : Tab} {L : Nat} {c : Cc}
theorem fn_okD {x qual : Str} {params : Arguments} {stm : List Stmt} {f : Addr} {fd : FuncData} {ps : List Str} {sp : Spec} {body : Sms}
    (F : FunD K x qual params stm c.sc [] [] f fd) (hT : K = T.K) (S : FnScope c.N ps c.sc) (hc : chkSs c body stm = true) (fa : Facts P w K mg base T L c)
    (len : Ari ps.length sp) (hok : Does T.S c.N.length body sp) : FnOk P w K mg base (L2.CX P w) (L + 1) f fd ps (toSp T sp) := by
  refine F.ok S (fun vs H Q E h => ?_) fun cdv A outer s H vs Q E hr h => ⟨tSs T (fun cls d _ H => E cls d H) body, ?_, ?_⟩
  · obtain ⟨u, st, ws, P, R, e, r, hw, hs, q, hx⟩ := h
    rw [hw.length]; exact len _ _ _ _ hs
  · refine sSs body c stm _ _ hc ⟨⟨hT, rfl, rfl, S.nd, rfl, hr, fa.fn, fa.cs, fa.bl, fun _ => rfl⟩, takes_of rfl rfl rfl rfl, passes_of rfl, fa.exc⟩
  · obtain ⟨u, st, ws, P, R, e, r, hw, hs, q, hx⟩ := h
    refine ⟨u, env0 c.N.length ws, st, en0 st.length P, ex0 st.length R, ⟨e, r, env_start hw, fun u' Γ' st' σ' k l r' ev hk => ?_, ⟨?_, ?_, ?_, ?_⟩⟩, hok _ _ _ _ hs⟩
    · exact hx ⟨u'.F, u.ad, u'.H⟩ _ k (cut_le l) (cut_rel l r r') hk
    · exact fun u' Γ' st' σ' l r' ev h => exit_of (v := .non) l r r' (.d .non) h q
    · exact fun u' st' v x l r' hx h => exit_of l r r' hx h q
    · exact fun u' Γ' st' σ' l r' ev h => h.elim
    · exact fun u' Γ' st' σ' l r' ev h => h.elim
end
end Z
namespace Z
open PySem PySem.Spec PyProof.Rows L2

/-! ## a whole text: its defs in the order of their calls -/
structure Df where
  x : Str
  st : Stmt
  N : List Str
  ps : List Str
  body : Sms
structure Txt where
  ds : List Df
  xs : List Str
  cs : List (Str × Int)
  bl : List Str
def Df.d (d : Df) : He.DefD := ⟨(d.x, none), d.x, d.x, defArgs d.st, defBody d.st, defScope d.st, [], []⟩
namespace Txt
variable (l : Txt)
def fa : List He.Fa := (l.ds.map fun d => .glo d.x) ++ (l.xs.map .exc ++ (l.xs.map .glo ++ (l.cs.map (fun p => .int p.1 p.2) ++ l.bl.map .free)))
def fn : List He.DefD := l.ds.map Df.d
def fnm (k : Nat) : Str := match l.ds[k]? with | some d => d.x | none => ""
def xnm (k : Nat) : Str := match l.xs[k]? with | some d => d | none => ""
def cc (k : Nat) (d : Df) : Cc := ⟨d.N, defScope d.st, (List.range k).map fun i => (i, l.fnm i), l.cs.map fun p => (p.1, .int p.2), (List.range l.xs.length).map fun i => (i, l.xnm i), l.bl, true⟩
def tab (S : Nat → Spec) (K : PySem.W.Frag) : Tab := ⟨K, fun k => He.ga K (l.fnm k), fun k => He.ga K (l.xnm k), S⟩
end Txt
/-- the check of one def -/
def fsC (N ps : List Str) (sc : Scope) : Bool := decide (sc.kind = .function) && !sc.isCoroutine && !sc.isGenerator && decide N.Nodup && decide (N.take ps.length = ps) &&
  ps.all (fun x => decide (sc.names.lookup x = some .local) || decide (sc.names.lookup x = some .cell)) && sc.names.all fun y => decide (y.2 ≠ .free)
def dfC (l : Txt) (k : Nat) (d : Df) : Bool := fsC d.N d.ps (defScope d.st) && chkSs (l.cc k d) d.body (defBody d.st)
theorem fsC_of {N ps : List Str} {sc : Scope} (h : fsC N ps sc = true) : FnScope N ps sc := by
  unfold fsC at h
  simp only [Bool.and_eq_true, decide_eq_true_eq, Bool.not_eq_true', List.all_eq_true, Bool.or_eq_true] at h
  obtain ⟨⟨⟨⟨⟨⟨h1, h2⟩, h3⟩, h4⟩, h5⟩, h6⟩, h7⟩ := h
  exact ⟨h1, h2, h3, h4, h5, h6, h7⟩
structure DfOk (l : Txt) (S : Nat → Spec) (k : Nat) (d : Df) : Prop where
  ck : dfC l k d = true
  len : Ari d.ps.length (S k)
  does : Does S d.N.length d.body (S k)
  bd : ∀ (kV doc pm : Value) (an : Option Addr) (cdv ct : Value) (us : List Value), us.length = d.ps.length → bindArgs (PySem.W.fnOf d.x d.x (defArgs d.st) (defBody d.st) (defScope d.st) .none kV doc pm an cdv ct) ⟨us, []⟩ = pure (d.ps.zip us)

section
variable {P : Program} {w : World} {K : PySem.W.Frag} {mg : Str → Option Value} {base h : Heap} {l : Txt} {S : Nat → Spec}
theorem Txt.says (c : He.SaysD l.fa l.fn K) {f : He.Fa} (h : f ∈ l.fa) : f.ok K = true := by
  obtain ⟨i, hi, e⟩ := List.mem_iff_getElem.mp h
  exact c.fact i (f := f) (by rw [List.getElem?_eq_getElem hi, e])
theorem Txt.all (O : ∀ k d, l.ds[k]? = some d → DfOk l S k d) (X : K.In h) (G : h.Ns mainGlobals mg) (c : He.SaysD l.fa l.fn K) : ∀ k d, l.ds[k]? = some d →
    ∃ fd, FunD K d.x d.x (defArgs d.st) (defBody d.st) (defScope d.st) [] [] (He.ga K d.x) fd ∧ FnOk P w K mg base (L2.CX P w) (k + 1) (He.ga K d.x) fd d.ps (toSp (l.tab S K) (S k)) := by
  intro k
  induction k using Nat.strongRecOn with
  | _ k ih =>
    intro d hd
    obtain ⟨ck, len, does, bd⟩ := O k d hd
    obtain ⟨c1, c2⟩ := and2 ck
    have e1 : l.fn[k]? = some d.d := by unfold Txt.fn; rw [List.getElem?_map, hd]; rfl
    obtain ⟨fd, F⟩ := c.def_ k (d := d.d) e1
    refine ⟨fd, F, fn_okD (c := l.cc k d) (T := l.tab S K) (params := defArgs d.st) (body := d.body) F rfl (fsC_of c1) c2 ⟨fun j x hj => ?_, fun x dd hx => ?_, fun x hx => ?_, fun j x hx => ?_⟩ len does⟩
    · obtain ⟨i, hi, e⟩ := List.mem_map.mp hj
      obtain ⟨rfl, rfl⟩ := Prod.mk.inj e
      have hlt : i < k := List.mem_range.mp hi
      have hk : k < l.ds.length := (List.getElem?_eq_some_iff.mp hd).1
      have hg : l.ds[i]? = some (l.ds[i]'(by omega)) := List.getElem?_eq_getElem (by omega)
      have en : l.fnm i = (l.ds[i]'(by omega)).x := by unfold Txt.fnm; rw [hg]
      obtain ⟨fd', F', ok⟩ := ih i hlt _ hg
      have bd' := (O i _ hg).bd
      refine ⟨?_, ?_, fd', _, ?_, F'.bindsN bd'⟩
      · refine He.glo_ok X G (l.says c ?_)
        rw [en]
        exact List.mem_append_left _ (List.mem_map.mpr ⟨_, List.getElem_mem _, rfl⟩)
      · show PySem.W.keepIn K (.ref (He.ga K (l.fnm i))) = true
        rw [en]; exact F'.kp
      · show FnOk P w K mg base _ k (He.ga K (l.fnm i)) fd' _ _
        rw [en]; exact ok.mono (by omega)
    · obtain ⟨p, hp, e⟩ := List.mem_map.mp hx
      obtain ⟨rfl, rfl⟩ := Prod.mk.inj e
      obtain ⟨t, e⟩ := He.int_ok X G (x := p.1) (i := p.2) (l.says c (List.mem_append_right _ (List.mem_append_right _ (List.mem_append_right _ (List.mem_append_left _ (List.mem_map.mpr ⟨p, hp, rfl⟩))))))
      exact ⟨_, .int p.2, e, ⟨t, rfl⟩, fun F => .int _⟩
    · exact He.free_ok X G (l.says c (List.mem_append_right _ (List.mem_append_right _ (List.mem_append_right _ (List.mem_append_right _ (List.mem_map.mpr ⟨x, hx, rfl⟩))))))
    · obtain ⟨i, hi, e⟩ := List.mem_map.mp hx
      obtain ⟨rfl, rfl⟩ := Prod.mk.inj e
      have hlt : i < l.xs.length := List.mem_range.mp hi
      have en : l.xnm i ∈ l.xs := by
        unfold Txt.xnm; rw [List.getElem?_eq_getElem hlt]; exact List.getElem_mem _
      obtain ⟨q1, q2, q3, q4⟩ := He.exc_ok (l.says c (f := .exc (l.xnm i)) (List.mem_append_right _ (List.mem_append_left _ (List.mem_map.mpr ⟨_, en, rfl⟩))))
      exact ⟨He.glo_ok X G (l.says c (List.mem_append_right _ (List.mem_append_right _ (List.mem_append_left _ (List.mem_map.mpr ⟨_, en, rfl⟩))))), q2, q1, q3, q4⟩
end
/-- the law's own promise, at an empty store -/
def LawSp (n : Nat) (sp : Spec) : Prop := ∀ ns : List Int, ns.length ≤ n → sp [.fz (ns.map .int)] [] (fun x _ => x = .d (.bool true)) fun _ _ => False
theorem lawSp_to {l : Txt} {S : Nat → Spec} {K : PySem.W.Frag} {n k : Nat} (q : LawSp n (S k)) (H : Hp) (a : Addr) (ns : List Int) (hn : ns.length ≤ n) (hS : SqL K H a (ns.map V.int)) :
    toSp (l.tab S K) (S k) [.ref a] H (fun v _ => v = .bl true) fun _ _ _ => False := by
  refine ⟨⟨H, [], H⟩, [], [.fz (ns.map .int)], fun x _ => x = .d (.bool true), fun _ _ => False, rfl, ⟨Sub.refl _, rfl, .nil, fun a h => by simp at h, fun c a ds h => by simp at h⟩, ⟨.fz hS (DRA.ofInts ns), trivial⟩, q ns hn, ?_, fun _ _ _ _ _ h => h.elim⟩
  intro w' st' v x _ _ hx e
  subst e
  exact hx.bool
theorem Txt.end {l : Txt} {S : Nat → Spec} {law : PySem.W.OpenLaw} {n k m : Nat} {q : Program} {loose : List Str} {XP : (Str → Option Value) → Heap → Prop} {d : DefRec} {df : Df}
    (O : ∀ k d, l.ds[k]? = some d → DfOk l S k d) (hm : l.ds[m]? = some df) (hx : df.ps = (["script"] : List Str)) (hnm : d.name = df.x) (hk : m + 1 = k) (hlaw : LawSp n (S m))
    (e1 : law.most = some n) (e2 : n ≤ sizeLine) (e3 : d.params.defaults = []) (hr : Room k callerA) :
    PySem.W.WalkO q loose XP (fun _ h => ∃ K : PySem.W.Frag, K.In h ∧ He.SaysD l.fa l.fn K) law.row.toRowW d [] (fun f vs => PySem.call f vs) := by
  subst hk
  refine Att.attach_call e1 e3 fun u _ s mg mb a o pm cd doc b vs ns gr says ho hd hcd hmg hobj hints hlen hg => ?_
  obtain ⟨K, KX, c⟩ := says
  obtain ⟨fd, F, -⟩ := l.all (P := law.prog) (w := u) (base := s.heap) O KX gr.T.g c m df hm
  have ea : He.ga K df.x = a := by
    have z := He.glo_ok KX gr.T.g (l.says c (f := .glo df.x) (List.mem_append_left _ (List.mem_map.mpr ⟨df, List.mem_of_getElem? hm, rfl⟩)))
    rw [← hnm, hmg] at z
    rw [← hnm]
    injection z with z
    injection z with z
    exact z.symm
  subst ea
  have hb := FunD.bindsA (ps := df.ps) F (O m df hm).bd
  rw [hx] at hb
  have all : ∀ base : Heap, K.In base → base.Ns mainGlobals mg → FnOk law.prog u K mg base (L2.CX law.prog u) (m + 1) (He.ga K df.x) fd (["script"] : List Str) (toSp (l.tab S K) (S m)) := fun base KB GB => by
    obtain ⟨fd', F', ok⟩ := l.all (P := law.prog) (w := u) (base := base) O KB GB c m df hm
    have : fd' = fd := by
      obtain ⟨_, _, _, _, _, _, _, _, _, _, _, g1, _⟩ := F.ex
      obtain ⟨_, _, _, _, _, _, _, _, _, _, _, g2, _⟩ := F'.ex
      rw [g1] at g2
      injection g2 with g2
      injection g2 with _ _ g3 _
      injection g3 with g4
      exact g4.symm
    rw [this, hx] at ok
    exact ok
  exact law_call KX gr.T.g gr.T.b gr.T.builtins gr.T.nolimit hg hobj hints (Nat.le_trans hlen e2) hr all (fun t v => hb t [v] rfl)
    (fun H _ hS => lawSp_to hlaw H b ns hlen hS) fun H e s' z => by
      obtain ⟨_, _, _, _, _, z⟩ := z
      exact z.2.2.2.2.2.2.2
end Z
namespace Z
open PySem

/-! ## plain lemmas of the reading -/
theorem wFor_inv {B : W → Env' → Store → (Env' → Store → Prop) → Prop} {N : Env' → Store → Prop} (I : List W → Env' → Store → Prop)
    (h0 : ∀ Γ s, I [] Γ s → N Γ s) (hs : ∀ x xs Γ s K, I (x :: xs) Γ s → (∀ Γ' s', I xs Γ' s' → K Γ' s') → B x Γ s K) : ∀ ws Γ s, I ws Γ s → wFor B N ws Γ s
  | [], Γ, s, h => h0 Γ s h
  | x :: xs, Γ, s, h => hs x xs Γ s _ h fun Γ' s' h' => wFor_inv I h0 hs xs Γ' s' h'
theorem wLoop_inv {B : W → Store → (Option PyData → Store → Prop) → Prop} {Q : List PyData → Store → Prop} (I : List W → List PyData → Store → Prop)
    (h0 : ∀ acc s, I [] acc s → Q acc s) (hs : ∀ x xs acc s K, I (x :: xs) acc s → (∀ d s', acc.length < sizeLine → I xs (acc ++ [d]) s' → K (some d) s') → (∀ s', I xs acc s' → K none s') → B x s K) :
    ∀ ws acc s, I ws acc s → wLoop B Q ws acc s
  | [], acc, s, h => h0 acc s h
  | x :: xs, acc, s, h => by
    unfold wLoop
    exact hs x xs acc s _ h (fun d s' hl h' => ⟨hl, wLoop_inv I h0 hs xs _ s' h'⟩) fun s' h' => wLoop_inv I h0 hs xs acc s' h'
/-- each turn gives its item, or none; the store stays -/
theorem wLoop_map {B : W → Store → (Option PyData → Store → Prop) → Prop} {Q : List PyData → Store → Prop} (f : W → Option PyData) {s : Store} : ∀ (ws : List W) (acc : List PyData),
    (∀ x, x ∈ ws → ∀ K : Option PyData → Store → Prop, K (f x) s → B x s K) → acc.length + ws.length ≤ sizeLine → Q (acc ++ ws.filterMap f) s → wLoop B Q ws acc s
  | [], acc, _, _, h => by simpa [wLoop] using h
  | x :: xs, acc, hB, hl, h => by
    unfold wLoop
    refine hB x List.mem_cons_self _ ?_
    rw [List.length_cons] at hl
    cases e : f x with
    | none =>
      rw [List.filterMap_cons, e] at h
      exact wLoop_map f xs acc (fun y hy => hB y (List.mem_cons_of_mem _ hy)) (by omega) h
    | some d =>
      rw [List.filterMap_cons, e] at h
      refine ⟨by omega, wLoop_map f xs (acc ++ [d]) (fun y hy => hB y (List.mem_cons_of_mem _ hy)) (by rw [List.length_append]; simp; omega) ?_⟩
      rw [List.append_assoc]; exact h
theorem wIf_not {b : Bool} {A B : Prop} : wIf (!b) A B ↔ wIf b B A := by cases b <;> simp [wIf]
theorem whl_of {S : Nat → Spec} {c : Ex} {b : Sms} {Γ : Env'} {s : Store} {E : En} {R : XPS} (I : Nat → Env' → Store → Prop) (m : Nat) (h0 : I m Γ s)
    (h : ∀ m Γ s, I m Γ s → wE S c Γ s (fun x s1 => wTr x s1 fun t => wIf t
      (wSs S b Γ s1 ⟨fun Γ' s' => ∃ m', m' < m ∧ I m' Γ' s', E.rt, E.nx, fun Γ' s' => ∃ m', m' < m ∧ I m' Γ' s'⟩ R) (E.nx Γ s1)) fun x s1 => R x Γ s1) : wS S (.whl c b) Γ s E R := by
  rw [wS]
  exact ⟨I, ⟨m, h0⟩, h⟩
theorem at0 {α : Type} {x : α} {xs : List α} : L2.atI (x :: xs) 0 = some x := by simp [L2.atI, L2.ixN]
theorem at1 {α : Type} {x y : α} {xs : List α} : L2.atI (x :: y :: xs) 1 = some y := by
  have h : (1 : Int) < (xs.length : Int) + 1 + 1 := by omega
  simp [L2.atI, L2.ixN, h]
theorem at2 {α : Type} {x y z : α} {xs : List α} : L2.atI (x :: y :: z :: xs) 2 = some z := by
  have h : (2 : Int) < (xs.length : Int) + 1 + 1 + 1 := by omega
  simp [L2.atI, L2.ixN, h]
theorem ix20 : L2.ixN 2 0 = some 0 := rfl
theorem ix21 : L2.ixN 2 1 = some 1 := rfl
theorem get_app {α : Type} {l r : List α} {x : α} : (l ++ x :: r)[l.length]? = some x := by simp
theorem take_app {α : Type} {l r : List α} : (l ++ r).take l.length = l := by simp
theorem set_app {α : Type} {l r : List α} {x y : α} : (l ++ x :: r).set l.length y = l ++ y :: r := by simp
theorem len_app {α : Type} {l : List α} {x : α} : (l ++ [x]).length = l.length + 1 := by simp
theorem set_get {α : Type} {l : List α} {c : Nat} {x y : α} (h : l[c]? = some x) : (l.set c y)[c]? = some y := by
  obtain ⟨hl, _⟩ := List.getElem?_eq_some_iff.mp h
  simp [hl]
theorem set_set {α : Type} {l : List α} {c : Nat} {x y : α} : (l.set c x).set c y = l.set c y := by simp
theorem take_set {α : Type} {l : List α} {c : Nat} {x : α} : (l.set c x).take l.length = l.set c x := by
  rw [List.take_of_length_le]; simp
theorem set_same {α : Type} {l : List α} {c : Nat} {x : α} (h : l[c]? = some x) : l.set c x = l := by
  apply List.ext_getElem?
  intro j
  by_cases q : c = j
  · subst q; rw [set_get h, h]
  · rw [List.getElem?_set_ne q]
theorem sz_le {n : Nat} (h : n ≤ 1000000) : (n ≤ sizeLine) = True := by
  rw [sizeLine_eq]; exact eq_true (by omega)
theorem small_of {i : Int} (n : Nat) (h1 : -(2 ^ n) < i) (h2 : i < 2 ^ n) (hn : n ≤ 7999) : Small i := by
  unfold Small
  have hb : i.natAbs < 2 ^ n := by
    have e : ((2 ^ n : Nat) : Int) = (2 : Int) ^ n := by simp
    omega
  by_cases z : i.natAbs = 0
  · rw [z]; decide
  · have := (Nat.log2_lt z).mpr hb
    omega
theorem mul_l {i : Int} (j : Int) (h1 : -(2 ^ 64) < i) (h2 : i < 2 ^ 64) : MulOk i j := .inl (.inl ⟨h1, h2⟩)
theorem mul_r (i : Int) {j : Int} (h1 : -(2 ^ 64) < j) (h2 : j < 2 ^ 64) : MulOk i j := .inl (.inr ⟨h1, h2⟩)
theorem div_of {j : Int} (h1 : 0 < j) (h2 : j < 2 ^ 64) : DivOk j := ⟨h1, .inr (small_of 64 (by omega) h2 (by omega))⟩
end Z
namespace Z
open PySem
/-! ## sorting -/
def dle (x y : PyData) : Bool := PySem.W.dataLe false id x y
theorem dle_trans (a b c : PyData) : dle a b = true → dle b c = true → dle a c = true := by
  unfold dle PySem.W.dataLe
  exact (PySem.W.sortLe_total _ _ _).trans a b c
theorem dle_total (a b : PyData) : (dle a b || dle b a) = true := by
  unfold dle PySem.W.dataLe
  rw [Bool.or_eq_true]
  exact (PySem.W.sortLe_total _ _ _).total a b
theorem dle_int (a b : Int) : dle (.int a) (.int b) = decide (a ≤ b) := by
  show (!(decide (b < a) || (!decide (a < b) && false))) = _
  rw [Bool.and_false, Bool.or_false, ← decide_not]
  congr 1
  exact propext Int.not_lt
theorem srt_perm {xs ys : List PyData} (p : xs.Perm ys) (s : ys.Pairwise fun a b => dle a b = true) (anti : ∀ a b, a ∈ xs → b ∈ xs → dle a b = true → dle b a = true → a = b) : srt xs = ys := by
  have h1 : (srt xs).Perm xs := List.mergeSort_perm xs _
  refine List.Perm.eq_of_pairwise (le := fun a b => dle a b = true) (fun a b ha hb => ?_) (List.pairwise_mergeSort dle_trans dle_total xs) s (h1.trans p)
  exact anti a b (h1.mem_iff.mp ha) (p.mem_iff.mpr hb)
theorem srt_id {xs : List PyData} (s : xs.Pairwise fun a b => dle a b = true) : srt xs = xs := List.mergeSort_of_pairwise s
theorem srt_len (xs : List PyData) : (srt xs).length = xs.length := (List.mergeSort_perm xs _).length_eq
theorem srt_mem {xs : List PyData} {x : PyData} : x ∈ srt xs ↔ x ∈ xs := (List.mergeSort_perm xs _).mem_iff
theorem srt_ints {ns ms : List Int} (p : ns.Perm ms) (s : ms.Pairwise (· ≤ ·)) : srt (ns.map .int) = ms.map .int := by
  refine srt_perm (p.map _) (List.pairwise_map.mpr (s.imp fun h => by rw [dle_int]; exact decide_eq_true h)) fun a b ha hb h1 h2 => ?_
  obtain ⟨i, -, rfl⟩ := List.mem_map.mp ha
  obtain ⟨j, -, rfl⟩ := List.mem_map.mp hb
  rw [dle_int] at h1 h2
  rw [Int.le_antisymm (of_decide_eq_true h1) (of_decide_eq_true h2)]
theorem srt2 (a b : Int) : srt [.int a, .int b] = [.int (if b < a then b else a), .int (if b < a then a else b)] := by
  by_cases h : b < a
  · rw [if_pos h, if_pos h]
    exact srt_ints (ns := [a, b]) (ms := [b, a]) (List.Perm.swap b a []) (by simp; omega)
  · rw [if_neg h, if_neg h]
    exact srt_ints (ns := [a, b]) (ms := [a, b]) (List.Perm.refl _) (by simp; omega)
/-- three of them, the third the greatest -/
theorem srt3 (a b c : Int) (h1 : a ≤ c) (h2 : b ≤ c) : srt [.int a, .int b, .int c] = [.int (if b < a then b else a), .int (if b < a then a else b), .int c] := by
  by_cases h : b < a
  · rw [if_pos h, if_pos h]
    exact srt_ints (ns := [a, b, c]) (ms := [b, a, c]) (List.Perm.swap b a [c]) (by simp; omega)
  · rw [if_neg h, if_neg h]
    exact srt_ints (ns := [a, b, c]) (ms := [a, b, c]) (List.Perm.refl _) (by simp; omega)
theorem sortOk_ints (ns : List Int) (h : ns.length ≤ sizeLine) : sortOk (ns.map .int) := by
  refine ⟨fun d hd d' hd' => ?_, .inr fun d hd => ?_, by rw [List.length_map]; exact h, fun d hd => ?_⟩
  · obtain ⟨i, -, rfl⟩ := List.mem_map.mp hd
    obtain ⟨j, -, rfl⟩ := List.mem_map.mp hd'
    rfl
  · obtain ⟨i, -, rfl⟩ := List.mem_map.mp hd
    exact ⟨by simp, by simp⟩
  · obtain ⟨i, -, rfl⟩ := List.mem_map.mp hd
    simp [PyData.depth]
theorem sortOk2 (a b : Int) : sortOk [.int a, .int b] := sortOk_ints [a, b] (by rw [sizeLine_eq]; simp)
theorem sortOk3 (a b c : Int) : sortOk [.int a, .int b, .int c] := sortOk_ints [a, b, c] (by rw [sizeLine_eq]; simp)
/-- rows of three -/
abbrev T3 (a b c : Int) : PyData := .tuple [.int a, .int b, .int c]
theorem sortOk_t3 (xs : List PyData) (hl : xs.length ≤ sizeLine) (h : ∀ x, x ∈ xs → ∃ a b c, x = T3 a b c) : sortOk xs := by
  refine ⟨fun d hd d' hd' => ?_, .inl fun d hd => ?_, hl, fun d hd => ?_⟩
  · obtain ⟨a, b, c, rfl⟩ := h d hd
    obtain ⟨a', b', c', rfl⟩ := h d' hd'
    rfl
  · obtain ⟨a, b, c, rfl⟩ := h d hd
    exact ⟨_, _, rfl⟩
  · obtain ⟨a, b, c, rfl⟩ := h d hd
    simp [PyData.depth, PyData.depthAll]
theorem dle_t3 {a b c a' b' c' : Int} (h : a < a') : dle (T3 a b c) (T3 a' b' c') = true := by
  have h2 : ¬ a' < a := by omega
  show (!(PyProof.Rows.lexLt PyProof.Rows.itemOrd (.inl 1 :: .inl a' :: _) (.inl 1 :: .inl a :: _))) = true
  simp [PyProof.Rows.lexLt, PyProof.Rows.itemLt, h, h2]
/-- two rising lists with the same members -/
theorem rising_eq {α : Type} {f : α → Int} {xs ys : List α} (hx : xs.Pairwise fun a b => f a < f b) (hy : ys.Pairwise fun a b => f a < f b) (h : ∀ x, x ∈ xs ↔ x ∈ ys) : xs = ys := by
  have nd : ∀ {zs : List α}, (zs.Pairwise fun a b => f a < f b) → zs.Nodup := fun hz => hz.imp fun {a b} q e => by subst e; omega
  have p : xs.Perm ys := (List.perm_ext_iff_of_nodup (nd hx) (nd hy)).mpr h
  exact List.Perm.eq_of_pairwise (le := fun a b => f a < f b) (fun a b _ _ q1 q2 => by omega) hx hy p
end Z
namespace Z
open PySem
/-! ## the reading step by step, for simp's way down: each step is taken before what stands behind it is looked at -/
section
variable {S : Nat → Spec} {Γ : Env'} {s : Store} {Q : Post} {R : XP} {w x y : W} {d e f : PyData} {a b c k : Ex} {es : Exs} {o : Operator} {n i : Nat}
theorem ev_var0 {Γ : Env'} : wE S (.var 0) (some w :: Γ) s Q R = Q w s := rfl
theorem ev_varS {v : Option W} {Γ : Env'} : wE S (.var (n + 1)) (v :: Γ) s Q R = wE S (.var n) Γ s Q R := by
  rw [wE, wE, List.getElem?_cons_succ]
theorem ev_con : wE S (.con d) Γ s Q R = Q (.d d) s := rfl
theorem ev_glob {x : Str} : wE S (.glob x d) Γ s Q R = Q (.d d) s := rfl
theorem ev_fnv : wE S (.fnv n) Γ s Q R = Q (.fn n) s := rfl
theorem ev_bin : wE S (.bin o a b) Γ s Q R = wE S a Γ s (fun x s1 => wE S b Γ s1 (fun y s2 => bop o x y s2 fun w => Q w s2) R) R := rfl
theorem ev_neg : wE S (.neg a) Γ s Q R = wE S a Γ s (fun x s1 => onI x fun i => Q (.d (.int (-i))) s1) R := rfl
theorem ev_not : wE S (.not a) Γ s Q R = wE S a Γ s (fun x s1 => wTr x s1 fun b => Q (.d (.bool (!b))) s1) R := rfl
theorem ev_cmp {c : Ch} : wE S (.cmp a c) Γ s Q R = wE S a Γ s (fun x s1 => wCh S c x Γ s1 (fun b s2 => Q (.d (.bool b)) s2) R) R := rfl
theorem ev_and : wE S (.and a b) Γ s Q R = wE S a Γ s (fun x s1 => onB x fun t => wIf t (wE S b Γ s1 Q R) (Q (.d (.bool false)) s1)) R := rfl
theorem ev_or : wE S (.or a b) Γ s Q R = wE S a Γ s (fun x s1 => onB x fun t => wIf t (Q (.d (.bool true)) s1) (wE S b Γ s1 Q R)) R := rfl
theorem ev_ite : wE S (.ite c a b) Γ s Q R = wE S c Γ s (fun x s1 => wTr x s1 fun t => wIf t (wE S a Γ s1 Q R) (wE S b Γ s1 Q R)) R := rfl
theorem ev_tup : wE S (.tup es) Γ s Q R = wAs S es Γ s (fun ws s1 => mkT ws fun w => Q w s1) R := rfl
theorem ev_lst : wE S (.lst es) Γ s Q R = wAs S es Γ s (fun ws s1 => mkL ws fun w => Q w s1) R := rfl
theorem ev_idx : wE S (.idx a b) Γ s Q R = wE S a Γ s (fun x s1 => wE S b Γ s1 (fun y s2 => idxW x y s2 fun w => Q w s2) R) R := rfl
theorem ev_call : wE S (.call n es) Γ s Q R = wAs S es Γ s (fun ws s1 => S n ws s1 Q R) R := rfl
theorem ev_blt {t : Bt} : wE S (.blt t es) Γ s Q R = wAs S es Γ s (fun ws s1 => blt t ws s1 fun w => Q w s1) R := rfl
theorem ev_isi {t : Ty} : wE S (.isi a t) Γ s Q R = wE S a Γ s (fun x s1 => onD s1 x fun y => Q (.d (.bool (isTy t y))) s1) R := rfl
theorem ev_new : wE S (.new a) Γ s Q R = wE S a Γ s (fun x s1 => onDL x fun ds => Q (.p s1.length) (s1 ++ [.lst ds])) R := rfl
theorem ev_slc {lo hi : Exo} : wE S (.slc a lo hi) Γ s Q R = wE S a Γ s (fun x s1 => wO S lo Γ s1 (fun l s2 => wO S hi Γ s2 (fun h s3 => slcW x l h s3 fun w => Q w s3) R) R) R := rfl
theorem ev_nil {Q : List W → Store → Prop} : wAs S .nil Γ s Q R = Q [] s := rfl
theorem ev_cons {Q : List W → Store → Prop} : wAs S (.cons a es) Γ s Q R = wE S a Γ s (fun x s1 => wAs S es Γ s1 (fun xs s2 => Q (x :: xs) s2) R) R := rfl
theorem ev_last {p : CmpOp} {Q : Bool → Store → Prop} : wCh S (.last p b) x Γ s Q R = wE S b Γ s (fun y s1 => cop p x y s1 fun t => Q t s1) R := rfl
theorem ev_link {p : CmpOp} {c : Ch} {Q : Bool → Store → Prop} : wCh S (.link p b c) x Γ s Q R = wE S b Γ s (fun y s1 => cop p x y s1 fun t => wIf t (wCh S c y Γ s1 Q R) (Q false s1)) R := rfl
theorem ev_none {Q : Option Int → Store → Prop} : wO S .none Γ s Q R = Q none s := rfl
theorem ev_some {Q : Option Int → Store → Prop} : wO S (.some a) Γ s Q R = wE S a Γ s (fun x s1 => onI x fun i => Q (some i) s1) R := rfl
section
variable {E : En} {X : XPS} {r t u : Sms} {sm : Sm} {g : Tg} {it : It} {is : List Nat}
theorem sv_nil : wSs S .nil Γ s E X = E.nx Γ s := rfl
theorem sv_cons : wSs S (.cons sm r) Γ s E X = wS S sm Γ s ⟨fun Γ' s' => wSs S r Γ' s' E X, E.rt, E.bk, E.ct⟩ X := rfl
theorem sv_set : wS S (.set n a) Γ s E X = wE S a Γ s (fun w s1 => E.nx (Γ.set n (some w)) s1) fun x s1 => X x Γ s1 := rfl
theorem sv_par : wS S (.par is es) Γ s E X = wAs S es Γ s (fun ws s1 => ws.length = is.length ∧ E.nx (setW is ws Γ) s1) fun x s1 => X x Γ s1 := rfl
theorem sv_unp : wS S (.unp is a) Γ s E X = wE S a Γ s (fun w s1 => wTg (.tup is) w Γ s1 fun Γ' => E.nx Γ' s1) fun x s1 => X x Γ s1 := rfl
theorem sv_put : wS S (.put a b c) Γ s E X = wE S c Γ s (fun z s1 => wE S a Γ s1 (fun x s2 => wE S b Γ s2 (fun y s3 => onC s3 x fun c ds => onV z fun v => onI y fun k => onS (L2.ixN ds.length k) fun j => E.nx Γ (s3.set c (.lst (ds.set j v)))) fun x s1 => X x Γ s1) fun x s1 => X x Γ s1) fun x s1 => X x Γ s1 := rfl
theorem sv_app : wS S (.app a b) Γ s E X = wE S a Γ s (fun x s1 => onC s1 x fun _ _ => wE S b Γ s1 (fun z s2 => onC s2 x fun c ds => onV z fun v => ds.length < sizeLine ∧ E.nx Γ (s2.set c (.lst (ds ++ [v])))) fun x s1 => X x Γ s1) fun x s1 => X x Γ s1 := rfl
theorem sv_ret : wS S (.ret a) Γ s E X = wE S a Γ s E.rt fun x s1 => X x Γ s1 := rfl
theorem sv_ex : wS S (.ex a) Γ s E X = wE S a Γ s (fun _ s1 => E.nx Γ s1) fun x s1 => X x Γ s1 := rfl
theorem sv_ite : wS S (.ite c t u) Γ s E X = wE S c Γ s (fun x s1 => wTr x s1 fun b => wIf b (wSs S t Γ s1 E X) (wSs S u Γ s1 E X)) fun x s1 => X x Γ s1 := rfl
theorem sv_pass : wS S .pass Γ s E X = E.nx Γ s := rfl
theorem sv_raise : wS S (.raise n) Γ s E X = X n Γ s := rfl
end
variable {K : W → Prop} {B : Bool → Prop} {i j : Int} {xs ys : List PyData} {ws : List W}
theorem vo_add : bop .Add (.d (.int i)) (.d (.int j)) s K = K (.d (.int (i + j))) := rfl
theorem vo_addL : bop .Add (.d (.list xs)) (.d (.list ys)) s K = (xs.length + ys.length ≤ sizeLine ∧ K (.d (.list (xs ++ ys)))) := rfl
theorem vo_addT : bop .Add (.d (.tuple xs)) (.d (.tuple ys)) s K = (xs.length + ys.length ≤ sizeLine ∧ K (.d (.tuple (xs ++ ys)))) := rfl
theorem vo_sub : bop .Sub (.d (.int i)) (.d (.int j)) s K = K (.d (.int (i - j))) := rfl
theorem vo_mul : bop .Mult (.d (.int i)) (.d (.int j)) s K = (MulOk i j ∧ K (.d (.int (i * j)))) := rfl
theorem vo_div : bop .FloorDiv (.d (.int i)) (.d (.int j)) s K = (DivOk j ∧ K (.d (.int (i / j)))) := rfl
theorem vo_mod : bop .Mod (.d (.int i)) (.d (.int j)) s K = (0 < j ∧ K (.d (.int (i % j)))) := rfl
theorem vo_pow : bop .Pow (.d (.int i)) (.d (.int j)) s K = (L2.CPow i j ∧ K (.d (.int (i ^ j.toNat)))) := rfl
theorem vi_int {f : Int → Prop} : onI (.d (.int i)) f = f i := rfl
theorem vi_bool {f : Bool → Prop} {b : Bool} : onB (.d (.bool b)) f = f b := rfl
theorem vi_dat {f : PyData → Prop} : onV (.d d) f = f d := rfl
theorem vi_d {f : PyData → Prop} : onD s (.d d) f = f d := rfl
theorem vi_lst {f : List PyData → Prop} : onDL (.d (.list xs)) f = f xs := rfl
theorem vt_bool {b : Bool} : wTr (.d (.bool b)) s B = B b := rfl
theorem vt_true {A C : Prop} : wIf true A C = A := propext wIf_t
theorem vt_false {A C : Prop} : wIf false A C = C := propext wIf_f
theorem vc_eq : cop .Eq (.d (.int i)) (.d (.int j)) s B = B (decide (i = j)) := rfl
theorem vc_ne : cop .NotEq (.d (.int i)) (.d (.int j)) s B = B (!decide (i = j)) := rfl
theorem vc_lt : cop .Lt (.d (.int i)) (.d (.int j)) s B = B (decide (i < j)) := rfl
theorem vc_le : cop .LtE (.d (.int i)) (.d (.int j)) s B = B (decide (i ≤ j)) := rfl
theorem vc_gt : cop .Gt (.d (.int i)) (.d (.int j)) s B = B (decide (j < i)) := rfl
theorem vc_ge : cop .GtE (.d (.int i)) (.d (.int j)) s B = B (decide (j ≤ i)) := rfl
theorem vc_is : cop .Is x y s B = cIs x y B := rfl
theorem vc_isn : cop .IsNot x y s B = cIs x y fun t => B (!t) := rfl
theorem vc_isnone : cIs x (.d .none) B = B (isN x) := rfl
theorem vc_tt : cop .Eq (.d (.tuple xs)) (.d (.tuple ys)) s B = (eqOk (.tuple xs) (.tuple ys) ∧ B (PyData.eqv (.tuple xs) (.tuple ys))) := rfl
theorem vc_ntt : cop .NotEq (.d (.tuple xs)) (.d (.tuple ys)) s B = (eqOk (.tuple xs) (.tuple ys) ∧ B (!PyData.eqv (.tuple xs) (.tuple ys))) := rfl
theorem vc_ss {p q : Str} : cop .Eq (.d (.str p)) (.d (.str q)) s B = (eqOk (.str p) (.str q) ∧ B (PyData.eqv (.str p) (.str q))) := rfl
theorem vc_nss {p q : Str} : cop .NotEq (.d (.str p)) (.d (.str q)) s B = (eqOk (.str p) (.str q) ∧ B (!PyData.eqv (.str p) (.str q))) := rfl
theorem vc_in : cop .In (.d d) (.d (.tuple xs)) s B = (inOk d xs ∧ B (xs.any fun y => PyData.eqv y d)) := rfl
theorem vc_inl : cop .In (.d d) (.d (.list xs)) s B = (inOk d xs ∧ B (xs.any fun y => PyData.eqv y d)) := rfl
theorem vc_nin : cop .NotIn (.d d) (.d (.tuple xs)) s B = (inOk d xs ∧ B (!xs.any fun y => PyData.eqv y d)) := rfl
theorem vx_0 {x : PyData} : idxW (.d (.tuple (x :: xs))) (.d (.int 0)) s K = K (.d x) := by
  simp only [idxW, onI, onQ, asQ, at0]
theorem vx_1 {x y : PyData} : idxW (.d (.tuple (x :: y :: xs))) (.d (.int 1)) s K = K (.d y) := by
  simp only [idxW, onI, onQ, asQ, at1]
theorem vx_2 {x y z : PyData} : idxW (.d (.tuple (x :: y :: z :: xs))) (.d (.int 2)) s K = K (.d z) := by
  simp only [idxW, onI, onQ, asQ, at2]
theorem vm_1 : mkT [.d d] K = K (.d (.tuple [d])) := by simp only [mkT, dats, Option.map_some, List.length_cons, List.length_nil, sz_le, Nat.zero_add, Nat.reduceAdd, Nat.reduceLeDiff, true_and]
theorem vm_2 : mkT [.d d, .d e] K = K (.d (.tuple [d, e])) := by simp only [mkT, dats, Option.map_some, List.length_cons, List.length_nil, sz_le, Nat.zero_add, Nat.reduceAdd, Nat.reduceLeDiff, true_and]
theorem vm_3 : mkT [.d d, .d e, .d f] K = K (.d (.tuple [d, e, f])) := by simp only [mkT, dats, Option.map_some, List.length_cons, List.length_nil, sz_le, Nat.zero_add, Nat.reduceAdd, Nat.reduceLeDiff, true_and]
theorem vl_0 : mkL [] K = K (.d (.list [])) := by simp only [mkL, dats, List.length_nil, Nat.zero_le, true_and]
theorem vl_1 : mkL [.d d] K = K (.d (.list [d])) := by simp only [mkL, dats, Option.map_some, List.length_cons, List.length_nil, sz_le, Nat.zero_add, Nat.reduceAdd, Nat.reduceLeDiff, true_and]
theorem vl_2 : mkL [.d d, .d e] K = K (.d (.list [d, e])) := by simp only [mkL, dats, Option.map_some, List.length_cons, List.length_nil, sz_le, Nat.zero_add, Nat.reduceAdd, Nat.reduceLeDiff, true_and]
theorem vl_3 : mkL [.d d, .d e, .d f] K = K (.d (.list [d, e, f])) := by simp only [mkL, dats, Option.map_some, List.length_cons, List.length_nil, sz_le, Nat.zero_add, Nat.reduceAdd, Nat.reduceLeDiff, true_and]
end
end Z
namespace Q81
open PySem PySem.Spec PyProof.Rows L2 Z
def top (i : Nat) : Stmt := PySem.Challenge.pw_wholesides_k81_whole_leg_rows.main.body.getD i (.Pass ⟨0, 0, 0, 0⟩)
/-- 0: is_integer(value): 0 value -/
def b_is_integer : Sms :=
  .cons (.ret (.and (.isi (.var 0) .int) (.not (.isi (.var 0) .bool)))) .nil
def d_is_integer : Df := ⟨"is_integer", top 8, ["value"], ["value"], b_is_integer⟩
/-- 1: is_whole(value, low, high): 0 value 1 low 2 high -/
def b_is_whole : Sms :=
  .cons (.ret (.and (.call 0 (.cons (.var 0) .nil)) (.cmp (.var 1) (.link .LtE (.var 0) (.last .LtE (.var 2)))))) .nil
def d_is_whole : Df := ⟨"is_whole", top 9, ["value", "low", "high"], ["value", "low", "high"], b_is_whole⟩
/-- 2: need_whole(value, low, high): 0 value 1 low 2 high -/
def b_need_whole : Sms :=
  .cons (.ite (.not (.call 1 (.cons (.var 0) (.cons (.var 1) (.cons (.var 2) .nil))))) (.cons (.raise 3) .nil) (.nil)) .nil
def d_need_whole : Df := ⟨"need_whole", top 10, ["value", "low", "high"], ["value", "low", "high"], b_need_whole⟩
/-- 3: is_tuple_of(value, low, high): 0 value 1 low 2 high -/
def b_is_tuple_of : Sms :=
  .cons (.ret (.and (.isi (.var 0) .tuple) (.cmp (.var 1) (.link .LtE (.blt .len (.cons (.var 0) .nil)) (.last .LtE (.var 2)))))) .nil
def d_is_tuple_of : Df := ⟨"is_tuple_of", top 11, ["value", "low", "high"], ["value", "low", "high"], b_is_tuple_of⟩
/-- 4: root_in(number): 0 number 1 low 2 high 3 middle -/
def l_root_in_0 : Sms :=
  .cons (.set 2 (.bin .Mult (.con (.int 2)) (.var 2))) .nil
def w_root_in_0 : Sm :=
  .whl (.cmp (.bin .Mult (.var 2) (.var 2)) (.last .LtE (.var 0))) (l_root_in_0)
def l_root_in_1 : Sms :=
  .cons (.set 3 (.bin .FloorDiv (.bin .Add (.var 1) (.var 2)) (.con (.int 2)))) <|
  .cons (.ite (.cmp (.bin .Mult (.var 3) (.var 3)) (.last .LtE (.var 0))) (.cons (.set 1 (.var 3)) .nil) (.cons (.set 2 (.var 3)) .nil)) .nil
def w_root_in_1 : Sm :=
  .whl (.cmp (.bin .Sub (.var 2) (.var 1)) (.last .Gt (.con (.int 1)))) (l_root_in_1)
def b_root_in : Sms :=
  .cons (.par [1, 2] (.cons (.con (.int 0)) (.cons (.con (.int 1)) .nil))) <|
  .cons (w_root_in_0) <|
  .cons (w_root_in_1) <|
  .cons (.ret (.var 1)) .nil
def d_root_in : Df := ⟨"root_in", top 12, ["number", "low", "high", "middle"], ["number"], b_root_in⟩
/-- 5: is_square_in(number): 0 number -/
def b_is_square_in : Sms :=
  .cons (.ret (.and (.cmp (.var 0) (.last .GtE (.con (.int 0)))) (.cmp (.bin .Pow (.call 4 (.cons (.var 0) .nil)) (.con (.int 2))) (.last .Eq (.var 0))))) .nil
def d_is_square_in : Df := ⟨"is_square_in", top 13, ["number"], ["number"], b_is_square_in⟩
/-- 6: is_side(value): 0 value -/
def b_is_side : Sms :=
  .cons (.ret (.call 1 (.cons (.var 0) (.cons (.con (.int 1)) (.cons (.glob "MOST" (.int 1000000000)) .nil))))) .nil
def d_is_side : Df := ⟨"is_side", top 14, ["value"], ["value"], b_is_side⟩
/-- 7: fits_triangle(value): 0 value 1 side -/
def c_fits_triangle_0 : Ex :=
  .comp [("side", 1)] (.name 1) (.e (.var 0)) .none (.call 6 (.cons (.var 1) .nil))
def b_fits_triangle : Sms :=
  .cons (.ite (.or (.not (.call 3 (.cons (.var 0) (.cons (.con (.int 3)) (.cons (.con (.int 3)) .nil))))) (.not (.blt .all (.cons (c_fits_triangle_0) .nil)))) (.cons (.ret (.con (.bool false))) .nil) (.nil)) <|
  .cons (.ret (.cmp (.idx (.var 0) (.con (.int 0))) (.link .LtE (.idx (.var 0) (.con (.int 1))) (.link .LtE (.idx (.var 0) (.con (.int 2))) (.last .Lt (.bin .Add (.idx (.var 0) (.con (.int 0))) (.idx (.var 0) (.con (.int 1))))))))) .nil
def d_fits_triangle : Df := ⟨"fits_triangle", top 15, ["value", "side"], ["value"], b_fits_triangle⟩
/-- 8: need_triangle(value): 0 value -/
def b_need_triangle : Sms :=
  .cons (.ite (.not (.call 7 (.cons (.var 0) .nil))) (.cons (.raise 1) .nil) (.nil)) .nil
def d_need_triangle : Df := ⟨"need_triangle", top 16, ["value"], ["value"], b_need_triangle⟩
/-- 9: need_side(value): 0 value -/
def b_need_side : Sms :=
  .cons (.ite (.not (.call 6 (.cons (.var 0) .nil))) (.cons (.raise 2) .nil) (.nil)) .nil
def d_need_side : Df := ⟨"need_side", top 17, ["value"], ["value"], b_need_side⟩
/-- 10: kind_in(triangle): 0 triangle 1 a 2 b 3 c 4 less -/
def b_kind_in : Sms :=
  .cons (.unp [1, 2, 3] (.var 0)) <|
  .cons (.set 4 (.bin .Sub (.bin .Add (.bin .Mult (.var 1) (.var 1)) (.bin .Mult (.var 2) (.var 2))) (.bin .Mult (.var 3) (.var 3)))) <|
  .cons (.ret (.ite (.cmp (.var 4) (.last .Eq (.con (.int 0)))) (.con (.str "right")) (.ite (.cmp (.var 4) (.last .Gt (.con (.int 0)))) (.con (.str "sharp")) (.con (.str "blunt"))))) .nil
def d_kind_in : Df := ⟨"kind_in", top 18, ["triangle", "a", "b", "c", "less"], ["triangle"], b_kind_in⟩
/-- 11: times_in(triangle, number): 0 triangle 1 number 2 side -/
def c_times_in_0 : Ex :=
  .comp [("side", 2)] (.name 2) (.e (.var 0)) .none (.bin .Mult (.var 2) (.var 1))
def b_times_in : Sms :=
  .cons (.ret (.blt .tuple (.cons (c_times_in_0) .nil))) .nil
def d_times_in : Df := ⟨"times_in", top 19, ["triangle", "number", "side"], ["triangle", "number"], b_times_in⟩
/-- 12: kind_of(triangle): 0 triangle -/
def b_kind_of : Sms :=
  .cons (.ex (.call 8 (.cons (.var 0) .nil))) <|
  .cons (.ret (.call 10 (.cons (.var 0) .nil))) .nil
def d_kind_of : Df := ⟨"kind_of", top 20, ["triangle"], ["triangle"], b_kind_of⟩
/-- 13: times_of(triangle, number): 0 triangle 1 number -/
def b_times_of : Sms :=
  .cons (.ex (.call 8 (.cons (.var 0) .nil))) <|
  .cons (.ex (.call 2 (.cons (.var 1) (.cons (.con (.int 1)) (.cons (.glob "MOST_TIMES" (.int 1000000)) .nil))))) <|
  .cons (.ite (.cmp (.bin .Mult (.idx (.var 0) (.con (.int 2))) (.var 1)) (.last .Gt (.glob "MOST" (.int 1000000000)))) (.cons (.raise 3) .nil) (.nil)) <|
  .cons (.ret (.call 11 (.cons (.var 0) (.cons (.var 1) .nil)))) .nil
def d_times_of : Df := ⟨"times_of", top 21, ["triangle", "number"], ["triangle", "number"], b_times_of⟩
/-- 14: need_right(value): 0 value -/
def b_need_right : Sms :=
  .cons (.ite (.or (.not (.call 7 (.cons (.var 0) .nil))) (.cmp (.call 10 (.cons (.var 0) .nil)) (.last .NotEq (.con (.str "right"))))) (.cons (.raise 1) .nil) (.nil)) .nil
def d_need_right : Df := ⟨"need_right", top 24, ["value"], ["value"], b_need_right⟩
/-- 15: on_legs(triangle): 0 triangle 1 a 2 b 3 c -/
def b_on_legs : Sms :=
  .cons (.unp [1, 2, 3] (.var 0)) <|
  .cons (.ret (.tup (.cons (.bin .Add (.bin .Add (.bin .Mult (.con (.int 2)) (.var 1)) (.var 2)) (.bin .Mult (.con (.int 2)) (.var 3))) (.cons (.bin .Add (.bin .Add (.var 1) (.bin .Mult (.con (.int 2)) (.var 2))) (.bin .Mult (.con (.int 2)) (.var 3))) (.cons (.bin .Add (.bin .Add (.bin .Mult (.con (.int 2)) (.var 1)) (.bin .Mult (.con (.int 2)) (.var 2))) (.bin .Mult (.con (.int 3)) (.var 3))) .nil))))) .nil
def d_on_legs : Df := ⟨"on_legs", top 25, ["triangle", "a", "b", "c"], ["triangle"], b_on_legs⟩
/-- 16: back_legs(triangle): 0 triangle 1 a 2 b 3 c 4 low 5 high -/
def b_back_legs : Sms :=
  .cons (.unp [1, 2, 3] (.var 0)) <|
  .cons (.par [4, 5] (.cons (.bin .Sub (.bin .Add (.bin .Mult (.con (.int 2)) (.var 1)) (.var 2)) (.bin .Mult (.con (.int 2)) (.var 3))) (.cons (.bin .Sub (.bin .Add (.var 1) (.bin .Mult (.con (.int 2)) (.var 2))) (.bin .Mult (.con (.int 2)) (.var 3))) .nil))) <|
  .cons (.ret (.ite (.cmp (.var 4) (.last .Gt (.con (.int 0)))) (.tup (.cons (.var 4) (.cons (.var 5) (.cons (.bin .Sub (.bin .Sub (.bin .Mult (.con (.int 3)) (.var 3)) (.bin .Mult (.con (.int 2)) (.var 1))) (.bin .Mult (.con (.int 2)) (.var 2))) .nil)))) (.con (.none)))) .nil
def d_back_legs : Df := ⟨"back_legs", top 26, ["triangle", "a", "b", "c", "low", "high"], ["triangle"], b_back_legs⟩
/-- 17: first_legs_in(gap): 0 gap 1 found 2 leg 3 square -/
def l_first_legs_in_0 : Sms :=
  .cons (.set 3 (.bin .Add (.bin .Mult (.var 2) (.var 2)) (.bin .Pow (.bin .Add (.var 2) (.var 0)) (.con (.int 2))))) <|
  .cons (.ite (.call 5 (.cons (.var 3) .nil)) (.cons (.app (.var 1) (.tup (.cons (.var 2) (.cons (.bin .Add (.var 2) (.var 0)) (.cons (.call 4 (.cons (.var 3) .nil)) .nil))))) .nil) (.nil)) .nil
def f_first_legs_in_0 : Sm :=
  .for_ (.name 2) (.rng2 (.con (.int 1)) (.bin .Add (.bin .Mult (.con (.int 3)) (.var 0)) (.con (.int 1)))) (l_first_legs_in_0)
def b_first_legs_in : Sms :=
  .cons (.set 1 (.new (.lst (.nil)))) <|
  .cons (f_first_legs_in_0) <|
  .cons (.ret (.var 1)) .nil
def d_first_legs_in : Df := ⟨"first_legs_in", top 27, ["gap", "found", "leg", "square"], ["gap"], b_first_legs_in⟩
/-- 18: all_legs(gap, most): 0 gap 1 most 2 found 3 line 4 here -/
def l_all_legs_0 : Sms :=
  .cons (.set 4 (.pop (.var 3))) <|
  .cons (.ite (.cmp (.idx (.var 4) (.con (.int 2))) (.last .LtE (.var 1))) (.cons (.app (.var 2) (.var 4)) <|
  .cons (.app (.var 3) (.call 15 (.cons (.var 4) .nil))) .nil) (.nil)) .nil
def w_all_legs_0 : Sm :=
  .whl (.cmp (.var 3) (.last .NotEq (.lst (.nil)))) (l_all_legs_0)
def b_all_legs : Sms :=
  .cons (.par [2, 3] (.cons (.new (.lst (.nil))) (.cons (.call 17 (.cons (.var 0) .nil)) .nil))) <|
  .cons (w_all_legs_0) <|
  .cons (.ret (.blt .sorted (.cons (.var 2) .nil))) .nil
def d_all_legs : Df := ⟨"all_legs", top 28, ["gap", "most", "found", "line", "here"], ["gap", "most"], b_all_legs⟩
/-- 19: leg_gap(triangle): 0 triangle -/
def b_leg_gap : Sms :=
  .cons (.ex (.call 14 (.cons (.var 0) .nil))) <|
  .cons (.ret (.bin .Sub (.idx (.var 0) (.con (.int 1))) (.idx (.var 0) (.con (.int 0))))) .nil
def d_leg_gap : Df := ⟨"leg_gap", top 29, ["triangle"], ["triangle"], b_leg_gap⟩
/-- 20: legs_on(triangle): 0 triangle 1 later -/
def b_legs_on : Sms :=
  .cons (.ex (.call 14 (.cons (.var 0) .nil))) <|
  .cons (.set 1 (.call 15 (.cons (.var 0) .nil))) <|
  .cons (.ret (.ite (.cmp (.idx (.var 1) (.con (.int 2))) (.last .LtE (.glob "MOST" (.int 1000000000)))) (.var 1) (.con (.none)))) .nil
def d_legs_on : Df := ⟨"legs_on", top 30, ["triangle", "later"], ["triangle"], b_legs_on⟩
/-- 21: legs_back(triangle): 0 triangle -/
def b_legs_back : Sms :=
  .cons (.ex (.call 14 (.cons (.var 0) .nil))) <|
  .cons (.ret (.call 16 (.cons (.var 0) .nil))) .nil
def d_legs_back : Df := ⟨"legs_back", top 31, ["triangle"], ["triangle"], b_legs_back⟩
/-- 22: first_legs_of(triangle): 0 triangle 1 ahead -/
def l_first_legs_of_0 : Sms :=
  .cons (.par [0, 1] (.cons (.var 1) (.cons (.call 16 (.cons (.var 1) .nil)) .nil))) .nil
def w_first_legs_of_0 : Sm :=
  .whl (.cmp (.var 1) (.last .IsNot (.con (.none)))) (l_first_legs_of_0)
def b_first_legs_of : Sms :=
  .cons (.ex (.call 14 (.cons (.var 0) .nil))) <|
  .cons (.set 1 (.call 16 (.cons (.var 0) .nil))) <|
  .cons (w_first_legs_of_0) <|
  .cons (.ret (.var 0)) .nil
def d_first_legs_of : Df := ⟨"first_legs_of", top 32, ["triangle", "ahead"], ["triangle"], b_first_legs_of⟩
/-- 23: first_legs(gap): 0 gap -/
def b_first_legs : Sms :=
  .cons (.ex (.call 2 (.cons (.var 0) (.cons (.con (.int 1)) (.cons (.glob "GAPS" (.int 1000)) .nil))))) <|
  .cons (.ret (.blt .tuple (.cons (.call 17 (.cons (.var 0) .nil)) .nil))) .nil
def d_first_legs : Df := ⟨"first_legs", top 33, ["gap"], ["gap"], b_first_legs⟩
/-- 24: legs_up_to(gap, most): 0 gap 1 most -/
def b_legs_up_to : Sms :=
  .cons (.ex (.call 2 (.cons (.var 0) (.cons (.con (.int 1)) (.cons (.glob "GAPS" (.int 1000)) .nil))))) <|
  .cons (.ex (.call 9 (.cons (.var 1) .nil))) <|
  .cons (.ret (.blt .tuple (.cons (.call 18 (.cons (.var 0) (.cons (.var 1) .nil))) .nil))) .nil
def d_legs_up_to : Df := ⟨"legs_up_to", top 34, ["gap", "most"], ["gap", "most"], b_legs_up_to⟩
/-- 25: _law_cup(script): 0 script 1 cell -/
def b_law_cup : Sms :=
  .cons (.set 1 (.blt .abs (.cons (.idx (.bin .Add (.blt .list (.cons (.var 0) .nil)) (.lst (.cons (.con (.int 0)) .nil))) (.con (.int 0))) .nil))) <|
  .cons (.ret (.new (.lst (.cons (.ite (.cmp (.var 1) (.last .GtE (.bin .Pow (.con (.int 10)) (.con (.int 18))))) (.bin .FloorDiv (.var 1) (.con (.int 73))) (.con (.int 0))) (.cons (.bin .Add (.bin .Mod (.blt .int (.cons (.bin .Add (.bin .Mult (.var 1) (.con (.int 283))) (.con (.int 3907))) .nil)) (.con (.int 2077503167))) (.con (.int 167))) .nil))))) .nil
def d_law_cup : Df := ⟨"_law_cup", top 36, ["script", "cell"], ["script"], b_law_cup⟩
/-- 26: _law_roll(cup, many): 0 cup 1 many 2 found 3 deep -/
def b_law_roll : Sms :=
  .cons (.ite (.cmp (.idx (.var 0) (.con (.int 0))) (.last .Gt (.con (.int 0)))) (.cons (.set 2 (.bin .Mod (.blt .int (.cons (.idx (.var 0) (.con (.int 0))) .nil)) (.var 1))) <|
  .cons (.put (.var 0) (.con (.int 0)) (.bin .FloorDiv (.idx (.var 0) (.con (.int 0))) (.var 1))) <|
  .cons (.ret (.var 2)) .nil) (.nil)) <|
  .cons (.put (.var 0) (.con (.int 1)) (.bin .Mod (.blt .int (.cons (.bin .Add (.bin .Mult (.idx (.var 0) (.con (.int 1))) (.con (.int 31051))) (.con (.int 7993))) .nil)) (.con (.int 2147483543)))) <|
  .cons (.set 3 (.bin .Mod (.blt .int (.cons (.bin .Mult (.idx (.var 0) (.con (.int 1))) (.bin .Add (.idx (.var 0) (.con (.int 1))) (.con (.int 229)))) .nil)) (.con (.int 2147483587)))) <|
  .cons (.ret (.bin .Mod (.blt .int (.cons (.bin .FloorDiv (.var 3) (.con (.int 821))) .nil)) (.var 1))) .nil
def d_law_roll : Df := ⟨"_law_roll", top 37, ["cup", "many", "found", "deep"], ["cup", "many"], b_law_roll⟩
/-- 27: _law_sort(value): 0 value -/
def b_law_sort : Sms :=
  .cons (.ite (.or (.cmp (.var 0) (.last .Is (.con (.none)))) (.isi (.var 0) .bool)) (.cons (.ret (.ite (.cmp (.var 0) (.last .Is (.con (.none)))) (.con (.int 0)) (.con (.int 1)))) .nil) (.nil)) <|
  .cons (.ite (.or (.isi (.var 0) .int) (.isi (.var 0) .str)) (.cons (.ret (.ite (.isi (.var 0) .int) (.con (.int 2)) (.con (.int 3)))) .nil) (.nil)) <|
  .cons (.ret (.ite (.isi (.var 0) .tuple) (.con (.int 4)) (.ite (.isi (.var 0) .list) (.con (.int 5)) (.con (.int 6))))) .nil
def d_law_sort : Df := ⟨"_law_sort", top 38, ["value"], ["value"], b_law_sort⟩
/-- 28: _law_like(one, other): 0 one 1 other 2 sort 3 first 4 second -/
def c_law_like_0_0 : Ex :=
  .comp [("first", 3), ("second", 4)] (.tup [3, 4]) (.zip (.var 0) (.var 1)) (.some (.not (.bad))) (.con (.int 1))
def b_law_like_0 : Sms :=
  .cons (.set 2 (.call 27 (.cons (.var 1) .nil))) <|
  .cons (.ite (.or (.cmp (.call 27 (.cons (.var 0) .nil)) (.last .NotEq (.var 2))) (.cmp (.var 2) (.last .Eq (.con (.int 6))))) (.cons (.ret (.con (.bool false))) .nil) (.nil)) <|
  .cons (.ite (.cmp (.var 2) (.last .In (.tup (.cons (.con (.int 4)) (.cons (.con (.int 5)) .nil))))) (.cons (.ret (.and (.cmp (.blt .len (.cons (.var 0) .nil)) (.last .Eq (.blt .len (.cons (.var 1) .nil)))) (.cmp (c_law_like_0_0) (.last .Eq (.lst (.nil)))))) .nil) (.nil)) <|
  .cons (.ret (.cmp (.var 0) (.last .Eq (.var 1)))) .nil
def d_law_like_0 : Df := ⟨"_law_like", top 39, ["one", "other", "sort", "first", "second"], ["one", "other"], b_law_like_0⟩
/-- 29: _law_like(one, other): 0 one 1 other 2 sort 3 first 4 second -/
def c_law_like_1_0 : Ex :=
  .comp [("first", 3), ("second", 4)] (.tup [3, 4]) (.zip (.var 0) (.var 1)) (.some (.not (.call 28 (.cons (.var 3) (.cons (.var 4) .nil))))) (.con (.int 1))
def b_law_like_1 : Sms :=
  .cons (.set 2 (.call 27 (.cons (.var 1) .nil))) <|
  .cons (.ite (.or (.cmp (.call 27 (.cons (.var 0) .nil)) (.last .NotEq (.var 2))) (.cmp (.var 2) (.last .Eq (.con (.int 6))))) (.cons (.ret (.con (.bool false))) .nil) (.nil)) <|
  .cons (.ite (.cmp (.var 2) (.last .In (.tup (.cons (.con (.int 4)) (.cons (.con (.int 5)) .nil))))) (.cons (.ret (.and (.cmp (.blt .len (.cons (.var 0) .nil)) (.last .Eq (.blt .len (.cons (.var 1) .nil)))) (.cmp (c_law_like_1_0) (.last .Eq (.lst (.nil)))))) .nil) (.nil)) <|
  .cons (.ret (.cmp (.var 0) (.last .Eq (.var 1)))) .nil
def d_law_like_1 : Df := ⟨"_law_like", top 39, ["one", "other", "sort", "first", "second"], ["one", "other"], b_law_like_1⟩
/-- 30: _law_like(one, other): 0 one 1 other 2 sort 3 first 4 second -/
def c_law_like_2_0 : Ex :=
  .comp [("first", 3), ("second", 4)] (.tup [3, 4]) (.zip (.var 0) (.var 1)) (.some (.not (.call 29 (.cons (.var 3) (.cons (.var 4) .nil))))) (.con (.int 1))
def b_law_like_2 : Sms :=
  .cons (.set 2 (.call 27 (.cons (.var 1) .nil))) <|
  .cons (.ite (.or (.cmp (.call 27 (.cons (.var 0) .nil)) (.last .NotEq (.var 2))) (.cmp (.var 2) (.last .Eq (.con (.int 6))))) (.cons (.ret (.con (.bool false))) .nil) (.nil)) <|
  .cons (.ite (.cmp (.var 2) (.last .In (.tup (.cons (.con (.int 4)) (.cons (.con (.int 5)) .nil))))) (.cons (.ret (.and (.cmp (.blt .len (.cons (.var 0) .nil)) (.last .Eq (.blt .len (.cons (.var 1) .nil)))) (.cmp (c_law_like_2_0) (.last .Eq (.lst (.nil)))))) .nil) (.nil)) <|
  .cons (.ret (.cmp (.var 0) (.last .Eq (.var 1)))) .nil
def d_law_like_2 : Df := ⟨"_law_like", top 39, ["one", "other", "sort", "first", "second"], ["one", "other"], b_law_like_2⟩
/-- 31: _law_like(one, other): 0 one 1 other 2 sort 3 first 4 second -/
def c_law_like_3_0 : Ex :=
  .comp [("first", 3), ("second", 4)] (.tup [3, 4]) (.zip (.var 0) (.var 1)) (.some (.not (.call 30 (.cons (.var 3) (.cons (.var 4) .nil))))) (.con (.int 1))
def b_law_like_3 : Sms :=
  .cons (.set 2 (.call 27 (.cons (.var 1) .nil))) <|
  .cons (.ite (.or (.cmp (.call 27 (.cons (.var 0) .nil)) (.last .NotEq (.var 2))) (.cmp (.var 2) (.last .Eq (.con (.int 6))))) (.cons (.ret (.con (.bool false))) .nil) (.nil)) <|
  .cons (.ite (.cmp (.var 2) (.last .In (.tup (.cons (.con (.int 4)) (.cons (.con (.int 5)) .nil))))) (.cons (.ret (.and (.cmp (.blt .len (.cons (.var 0) .nil)) (.last .Eq (.blt .len (.cons (.var 1) .nil)))) (.cmp (c_law_like_3_0) (.last .Eq (.lst (.nil)))))) .nil) (.nil)) <|
  .cons (.ret (.cmp (.var 0) (.last .Eq (.var 1)))) .nil
def d_law_like_3 : Df := ⟨"_law_like", top 39, ["one", "other", "sort", "first", "second"], ["one", "other"], b_law_like_3⟩
/-- 32: _law_root(number): 0 number 1 low 2 high 3 middle -/
def l_law_root_0 : Sms :=
  .cons (.set 2 (.bin .Mult (.var 2) (.con (.int 2)))) .nil
def w_law_root_0 : Sm :=
  .whl (.cmp (.bin .Mult (.var 2) (.var 2)) (.last .LtE (.var 0))) (l_law_root_0)
def l_law_root_1 : Sms :=
  .cons (.set 3 (.blt .int (.cons (.bin .FloorDiv (.bin .Add (.var 1) (.var 2)) (.con (.int 2))) .nil))) <|
  .cons (.ite (.cmp (.bin .Mult (.var 3) (.var 3)) (.last .LtE (.var 0))) (.cons (.set 1 (.var 3)) .nil) (.cons (.set 2 (.var 3)) .nil)) .nil
def w_law_root_1 : Sm :=
  .whl (.cmp (.bin .Sub (.var 2) (.var 1)) (.last .Gt (.con (.int 1)))) (l_law_root_1)
def b_law_root : Sms :=
  .cons (.par [1, 2] (.cons (.con (.int 0)) (.cons (.con (.int 1)) .nil))) <|
  .cons (w_law_root_0) <|
  .cons (w_law_root_1) <|
  .cons (.ret (.var 1)) .nil
def d_law_root : Df := ⟨"_law_root", top 40, ["number", "low", "high", "middle"], ["number"], b_law_root⟩
/-- 33: _law_right(one, other): 0 one 1 other -/
def b_law_right : Sms :=
  .cons (.ret (.blt .tuple (.cons (.blt .sorted (.cons (.lst (.cons (.bin .Sub (.bin .Mult (.var 0) (.var 0)) (.bin .Mult (.var 1) (.var 1))) (.cons (.bin .Mult (.bin .Mult (.con (.int 2)) (.var 0)) (.var 1)) (.cons (.bin .Add (.bin .Mult (.var 0) (.var 0)) (.bin .Mult (.var 1) (.var 1))) .nil)))) .nil)) .nil))) .nil
def d_law_right : Df := ⟨"_law_right", top 41, ["one", "other"], ["one", "other"], b_law_right⟩
/-- 34: _law_is_triangle(value): 0 value 1 side -/
def c_law_is_triangle_0 : Ex :=
  .comp [("side", 1)] (.name 1) (.e (.var 0)) (.some (.or (.cmp (.call 27 (.cons (.var 1) .nil)) (.last .NotEq (.con (.int 2)))) (.not (.cmp (.con (.int 1)) (.link .LtE (.var 1) (.last .LtE (.bin .Pow (.con (.int 10)) (.con (.int 9))))))))) (.var 1)
def b_law_is_triangle : Sms :=
  .cons (.ite (.or (.not (.isi (.var 0) .tuple)) (.or (.cmp (.blt .len (.cons (.var 0) .nil)) (.last .NotEq (.con (.int 3)))) (.cmp (c_law_is_triangle_0) (.last .NotEq (.lst (.nil)))))) (.cons (.ret (.con (.bool false))) .nil) (.nil)) <|
  .cons (.ret (.cmp (.idx (.var 0) (.con (.int 0))) (.link .LtE (.idx (.var 0) (.con (.int 1))) (.link .LtE (.idx (.var 0) (.con (.int 2))) (.last .Lt (.bin .Add (.idx (.var 0) (.con (.int 0))) (.idx (.var 0) (.con (.int 1))))))))) .nil
def d_law_is_triangle : Df := ⟨"_law_is_triangle", top 42, ["value", "side"], ["value"], b_law_is_triangle⟩
/-- 35: _law_is_right(value): 0 value -/
def b_law_is_right : Sms :=
  .cons (.ret (.and (.call 34 (.cons (.var 0) .nil)) (.cmp (.bin .Add (.bin .Mult (.idx (.var 0) (.con (.int 0))) (.idx (.var 0) (.con (.int 0)))) (.bin .Mult (.idx (.var 0) (.con (.int 1))) (.idx (.var 0) (.con (.int 1))))) (.last .Eq (.bin .Mult (.idx (.var 0) (.con (.int 2))) (.idx (.var 0) (.con (.int 2)))))))) .nil
def d_law_is_right : Df := ⟨"_law_is_right", top 43, ["value"], ["value"], b_law_is_right⟩
/-- 36: _law_all(gap, most): 0 gap 1 most 2 found 3 leg 4 square 5 root -/
def l_law_all_0 : Sms :=
  .cons (.set 4 (.bin .Add (.bin .Mult (.var 3) (.var 3)) (.bin .Mult (.bin .Add (.var 3) (.var 0)) (.bin .Add (.var 3) (.var 0))))) <|
  .cons (.set 5 (.call 32 (.cons (.var 4) .nil))) <|
  .cons (.ite (.cmp (.bin .Mult (.var 5) (.var 5)) (.last .Eq (.var 4))) (.cons (.app (.var 2) (.tup (.cons (.var 3) (.cons (.bin .Add (.var 3) (.var 0)) (.cons (.var 5) .nil))))) .nil) (.nil)) <|
  .cons (.set 3 (.bin .Add (.var 3) (.con (.int 1)))) .nil
def w_law_all_0 : Sm :=
  .whl (.cmp (.bin .Add (.bin .Mult (.var 3) (.var 3)) (.bin .Mult (.bin .Add (.var 3) (.var 0)) (.bin .Add (.var 3) (.var 0)))) (.last .LtE (.bin .Mult (.var 1) (.var 1)))) (l_law_all_0)
def b_law_all : Sms :=
  .cons (.par [2, 3] (.cons (.new (.lst (.nil))) (.cons (.con (.int 1)) .nil))) <|
  .cons (w_law_all_0) <|
  .cons (.ret (.var 2)) .nil
def d_law_all : Df := ⟨"_law_all", top 44, ["gap", "most", "found", "leg", "square", "root"], ["gap", "most"], b_law_all⟩
/-- 37: _law_later(triangle): 0 triangle 1 a 2 b 3 c 4 later -/
def b_law_later : Sms :=
  .cons (.unp [1, 2, 3] (.var 0)) <|
  .cons (.set 4 (.blt .tuple (.cons (.blt .sorted (.cons (.lst (.cons (.bin .Add (.bin .Add (.var 1) (.bin .Mult (.con (.int 2)) (.var 2))) (.bin .Mult (.con (.int 2)) (.var 3))) (.cons (.bin .Add (.bin .Add (.bin .Mult (.con (.int 2)) (.var 1)) (.var 2)) (.bin .Mult (.con (.int 2)) (.var 3))) (.cons (.bin .Add (.bin .Add (.bin .Mult (.con (.int 2)) (.var 1)) (.bin .Mult (.con (.int 2)) (.var 2))) (.bin .Mult (.con (.int 3)) (.var 3))) .nil)))) .nil)) .nil))) <|
  .cons (.ret (.ite (.cmp (.idx (.var 4) (.con (.int 2))) (.last .LtE (.bin .Pow (.con (.int 10)) (.con (.int 9))))) (.var 4) (.con (.none)))) .nil
def d_law_later : Df := ⟨"_law_later", top 45, ["triangle", "a", "b", "c", "later"], ["triangle"], b_law_later⟩
/-- 38: _law_small_right(gap, most): 0 gap 1 most 2 every 3 comes 4 own 5 ahead 6 firsts 7 later 8 other -/
def c_law_small_right_0 : Ex :=
  .comp [("own", 4)] (.name 4) (.e (.var 2)) .none (.call 37 (.cons (.var 4) .nil))
def c_law_small_right_1 : Ex :=
  .comp [("own", 4)] (.name 4) (.e (.var 2)) .none (.call 20 (.cons (.var 4) .nil))
def c_law_small_right_2 : Ex :=
  .comp [("other", 8), ("later", 7)] (.tup [8, 7]) (.zip (.var 2) (.var 3)) (.some (.cmp (.var 7) (.last .Eq (.var 4)))) (.var 8)
def l_law_small_right_0 : Sms :=
  .cons (.set 5 (c_law_small_right_2)) <|
  .cons (.ite (.not (.call 31 (.cons (.lst (.cons (.call 21 (.cons (.var 4) .nil)) (.cons (.call 19 (.cons (.var 4) .nil)) (.cons (.call 12 (.cons (.var 4) .nil)) .nil)))) (.cons (.lst (.cons (.ite (.cmp (.var 5) (.last .NotEq (.lst (.nil)))) (.idx (.var 5) (.con (.int 0))) (.con (.none))) (.cons (.var 0) (.cons (.con (.str "right")) .nil)))) .nil)))) (.cons (.ret (.con (.bool false))) .nil) (.nil)) .nil
def f_law_small_right_0 : Sm :=
  .for_ (.name 4) (.e (.var 2)) (l_law_small_right_0)
def c_law_small_right_3 : Ex :=
  .comp [("own", 4)] (.name 4) (.e (.call 36 (.cons (.var 0) (.cons (.bin .Mult (.con (.int 5)) (.var 0)) .nil)))) (.some (.cmp (.call 21 (.cons (.var 4) .nil)) (.last .Is (.con (.none))))) (.var 4)
def b_law_small_right : Sms :=
  .cons (.set 2 (.call 36 (.cons (.var 0) (.cons (.var 1) .nil)))) <|
  .cons (.set 3 (c_law_small_right_0)) <|
  .cons (.ite (.not (.call 31 (.cons (.lst (.cons (.call 24 (.cons (.var 0) (.cons (.var 1) .nil))) (.cons (c_law_small_right_1) .nil))) (.cons (.lst (.cons (.blt .tuple (.cons (.var 2) .nil)) (.cons (.var 3) .nil))) .nil)))) (.cons (.ret (.con (.bool false))) .nil) (.nil)) <|
  .cons (f_law_small_right_0) <|
  .cons (.set 6 (c_law_small_right_3)) <|
  .cons (.ret (.call 31 (.cons (.call 23 (.cons (.var 0) .nil)) (.cons (.blt .tuple (.cons (.var 6) .nil)) .nil)))) .nil
def d_law_small_right : Df := ⟨"_law_small_right", top 46, ["gap", "most", "every", "comes", "own", "ahead", "firsts", "later", "other"], ["gap", "most"], b_law_small_right⟩
/-- 39: _law_any_right(cup, triangle): 0 cup 1 triangle 2 later 3 gap 4 first 5 turn 6 ahead -/
def l_law_any_right_0 : Sms :=
  .cons (.set 6 (.call 21 (.cons (.var 4) .nil))) <|
  .cons (.ite (.cmp (.var 6) (.last .IsNot (.con (.none)))) (.cons (.ite (.or (.not (.call 35 (.cons (.var 6) .nil))) (.or (.cmp (.bin .Sub (.idx (.var 6) (.con (.int 1))) (.idx (.var 6) (.con (.int 0)))) (.last .NotEq (.var 3))) (.cmp (.call 37 (.cons (.var 6) .nil)) (.last .NotEq (.var 4))))) (.cons (.ret (.con (.bool false))) .nil) (.nil)) <|
  .cons (.set 4 (.var 6)) .nil) (.nil)) .nil
def f_law_any_right_0 : Sm :=
  .for_ (.name 5) (.rng1 (.con (.int 20))) (l_law_any_right_0)
def t_law_any_right_0 : Sms :=
  .cons (.ite (.or (.cmp (.call 21 (.cons (.var 4) .nil)) (.last .IsNot (.con (.none)))) (.or (.cmp (.call 22 (.cons (.var 1) .nil)) (.last .NotEq (.var 4))) (.cmp (.idx (.var 4) (.con (.int 0))) (.last .Gt (.bin .Mult (.con (.int 3)) (.var 3)))))) (.cons (.ret (.con (.bool false))) .nil) (.nil)) <|
  .cons (.ret (.or (.cmp (.var 3) (.last .Gt (.con (.int 1000)))) (.and (.cmp (.var 4) (.last .In (.call 23 (.cons (.var 3) .nil)))) (.cmp (.var 1) (.last .In (.call 24 (.cons (.var 3) (.cons (.idx (.var 1) (.con (.int 2))) .nil)))))))) .nil
def b_law_any_right : Sms :=
  .cons (.par [2, 3, 4] (.cons (.call 37 (.cons (.var 1) .nil)) (.cons (.bin .Sub (.idx (.var 1) (.con (.int 1))) (.idx (.var 1) (.con (.int 0)))) (.cons (.var 1) .nil)))) <|
  .cons (.ite (.not (.call 31 (.cons (.lst (.cons (.call 19 (.cons (.var 1) .nil)) (.cons (.call 20 (.cons (.var 1) .nil)) .nil))) (.cons (.lst (.cons (.var 3) (.cons (.var 2) .nil))) .nil)))) (.cons (.ret (.con (.bool false))) .nil) (.nil)) <|
  .cons (.ite (.and (.cmp (.var 2) (.last .IsNot (.con (.none)))) (.not (.call 31 (.cons (.lst (.cons (.call 21 (.cons (.var 2) .nil)) (.cons (.call 22 (.cons (.var 2) .nil)) .nil))) (.cons (.lst (.cons (.var 1) (.cons (.call 22 (.cons (.var 1) .nil)) .nil))) .nil))))) (.cons (.ret (.con (.bool false))) .nil) (.nil)) <|
  .cons (f_law_any_right_0) <|
  t_law_any_right_0
def d_law_any_right : Df := ⟨"_law_any_right", top 47, ["cup", "triangle", "later", "gap", "first", "turn", "ahead"], ["cup", "triangle"], b_law_any_right⟩
/-- 40: law(script): 0 script 1 cup 2 some 3 told 4 due 5 gap 6 most 7 other 8 triangle 9 row 10 firsts 11 leg 12 root 13 high 14 low 15 slant -/
def l_law_0 : Sms :=
  .cons (.ite (.not (.call 38 (.cons (.var 5) (.cons (.bin .Add (.bin .Mult (.con (.int 5)) (.var 5)) (.call 26 (.cons (.var 1) (.cons (.con (.int 300)) .nil)))) .nil)))) (.cons (.ret (.con (.bool false))) .nil) (.nil)) .nil
def f_law_0 : Sm :=
  .for_ (.name 5) (.e (.tup (.cons (.con (.int 1)) (.cons (.bin .Add (.con (.int 1)) (.call 26 (.cons (.var 1) (.cons (.con (.int 12)) .nil)))) (.cons (.bin .Add (.con (.int 1)) (.call 26 (.cons (.var 1) (.cons (.con (.int 60)) .nil)))) .nil))))) (l_law_0)
def l_law_1 : Sms :=
  .cons (.set 7 (.bin .Add (.con (.int 1)) (.call 26 (.cons (.var 1) (.cons (.var 6) .nil))))) <|
  .cons (.set 8 (.call 33 (.cons (.bin .Add (.bin .Add (.var 7) (.con (.int 1))) (.call 26 (.cons (.var 1) (.cons (.var 6) .nil)))) (.cons (.var 7) .nil)))) <|
  .cons (.ite (.or (.not (.call 39 (.cons (.var 1) (.cons (.var 8) .nil)))) (.not (.call 39 (.cons (.var 1) (.cons (.call 13 (.cons (.var 8) (.cons (.bin .Add (.con (.int 1)) (.call 26 (.cons (.var 1) (.cons (.con (.int 2)) .nil)))) .nil))) .nil))))) (.cons (.ret (.con (.bool false))) .nil) (.nil)) .nil
def f_law_1 : Sm :=
  .for_ (.name 6) (.e (.tup (.cons (.con (.int 9)) (.cons (.con (.int 60)) (.cons (.con (.int 9000)) .nil))))) (l_law_1)
def l_law_2 : Sms :=
  .cons (.app (.var 9) (.bin .Sub (.bin .Mult (.con (.int 6)) (.idx (.var 9) (.neg (.con (.int 1))))) (.idx (.var 9) (.neg (.con (.int 2)))))) .nil
def w_law_0 : Sm :=
  .whl (.cmp (.bin .Sub (.bin .Mult (.con (.int 6)) (.idx (.var 9) (.neg (.con (.int 1))))) (.idx (.var 9) (.neg (.con (.int 2))))) (.last .LtE (.bin .Pow (.con (.int 10)) (.con (.int 9))))) (l_law_2)
def l_law_3 : Sms :=
  .cons (.set 12 (.call 32 (.cons (.bin .Add (.bin .Mult (.var 11) (.var 11)) (.bin .Mult (.bin .Add (.var 11) (.var 5)) (.bin .Add (.var 11) (.var 5)))) .nil))) <|
  .cons (.ite (.cmp (.bin .Mult (.var 12) (.var 12)) (.last .Eq (.bin .Add (.bin .Mult (.var 11) (.var 11)) (.bin .Mult (.bin .Add (.var 11) (.var 5)) (.bin .Add (.var 11) (.var 5)))))) (.cons (.app (.var 10) (.tup (.cons (.var 11) (.cons (.bin .Add (.var 11) (.var 5)) (.cons (.var 12) .nil))))) .nil) (.nil)) .nil
def f_law_2 : Sm :=
  .for_ (.name 11) (.rng2 (.con (.int 1)) (.bin .Add (.bin .Mult (.con (.int 3)) (.var 5)) (.con (.int 1)))) (l_law_3)
def c_law_0 : Ex :=
  .comp [("low", 14), ("high", 13), ("slant", 15)] (.tup [14, 13, 15]) (.e (.var 3)) .none (.var 15)
def t_law_0 : Sms :=
  .cons (.ite (.not (.call 31 (.cons (.call 23 (.cons (.var 5) .nil)) (.cons (.blt .tuple (.cons (.var 10) .nil)) .nil)))) (.cons (.ret (.con (.bool false))) .nil) (.nil)) <|
  .cons (.ret (.and (.call 31 (.cons (c_law_0) (.cons (.slc (.var 9) (.some (.con (.int 1))) .none) .nil))) (.cmp (.tup (.cons (.bin .Mult (.con (.int 3)) (.var 5)) (.cons (.bin .Mult (.con (.int 4)) (.var 5)) (.cons (.bin .Mult (.con (.int 5)) (.var 5)) .nil)))) (.last .In (.call 23 (.cons (.var 5) .nil)))))) .nil
def t_law_1 : Sms :=
  .cons (.set 3 (.call 24 (.cons (.con (.int 1)) (.cons (.bin .Pow (.con (.int 10)) (.con (.int 9))) .nil)))) <|
  .cons (.set 5 (.bin .Add (.con (.int 1)) (.call 26 (.cons (.var 1) (.cons (.con (.int 1000)) .nil))))) <|
  .cons (.set 10 (.new (.lst (.nil)))) <|
  .cons (f_law_2) <|
  t_law_0
def t_law_2 : Sms :=
  .cons (.set 9 (.new (.lst (.cons (.con (.int 1)) (.cons (.con (.int 5)) .nil))))) <|
  .cons (w_law_0) <|
  t_law_1
def t_law_3 : Sms :=
  .cons (f_law_1) <|
  t_law_2
def b_law : Sms :=
  .cons (.set 1 (.call 25 (.cons (.var 0) .nil))) <|
  .cons (.set 2 (.tup (.cons (.con (.int 3)) (.cons (.con (.int 4)) (.cons (.con (.int 5)) .nil))))) <|
  .cons (.set 3 (.lst (.cons (.call 19 (.cons (.var 2) .nil)) (.cons (.call 20 (.cons (.var 2) .nil)) (.cons (.call 21 (.cons (.tup (.cons (.con (.int 20)) (.cons (.con (.int 21)) (.cons (.con (.int 29)) .nil)))) .nil)) (.cons (.call 21 (.cons (.var 2) .nil)) (.cons (.call 22 (.cons (.tup (.cons (.con (.int 119)) (.cons (.con (.int 120)) (.cons (.con (.int 169)) .nil)))) .nil)) (.cons (.call 23 (.cons (.con (.int 1)) .nil)) (.cons (.call 23 (.cons (.con (.int 7)) .nil)) .nil))))))))) <|
  .cons (.ite (.not (.call 31 (.cons (.var 3) (.cons (.lst (.cons (.con (.int 1)) (.cons (.tup (.cons (.con (.int 20)) (.cons (.con (.int 21)) (.cons (.con (.int 29)) .nil)))) (.cons (.var 2) (.cons (.con (.none)) (.cons (.var 2) (.cons (.tup (.cons (.var 2) .nil)) (.cons (.tup (.cons (.tup (.cons (.con (.int 5)) (.cons (.con (.int 12)) (.cons (.con (.int 13)) .nil)))) (.cons (.tup (.cons (.con (.int 8)) (.cons (.con (.int 15)) (.cons (.con (.int 17)) .nil)))) (.cons (.tup (.cons (.con (.int 21)) (.cons (.con (.int 28)) (.cons (.con (.int 35)) .nil)))) .nil)))) .nil)))))))) .nil)))) (.cons (.ret (.con (.bool false))) .nil) (.nil)) <|
  .cons (.set 3 (.lst (.cons (.call 24 (.cons (.con (.int 1)) (.cons (.con (.int 1000)) .nil))) (.cons (.call 24 (.cons (.con (.int 7)) (.cons (.con (.int 100)) .nil))) (.cons (.call 20 (.cons (.tup (.cons (.con (.int 300000000)) (.cons (.con (.int 400000000)) (.cons (.con (.int 500000000)) .nil)))) .nil)) (.cons (.call 24 (.cons (.con (.int 2)) (.cons (.con (.int 9)) .nil))) (.cons (.call 23 (.cons (.con (.int 2)) .nil)) .nil))))))) <|
  .cons (.set 4 (.lst (.cons (.tup (.cons (.var 2) (.cons (.tup (.cons (.con (.int 20)) (.cons (.con (.int 21)) (.cons (.con (.int 29)) .nil)))) (.cons (.tup (.cons (.con (.int 119)) (.cons (.con (.int 120)) (.cons (.con (.int 169)) .nil)))) (.cons (.tup (.cons (.con (.int 696)) (.cons (.con (.int 697)) (.cons (.con (.int 985)) .nil)))) .nil))))) (.cons (.tup (.cons (.tup (.cons (.con (.int 5)) (.cons (.con (.int 12)) (.cons (.con (.int 13)) .nil)))) (.cons (.tup (.cons (.con (.int 8)) (.cons (.con (.int 15)) (.cons (.con (.int 17)) .nil)))) (.cons (.tup (.cons (.con (.int 21)) (.cons (.con (.int 28)) (.cons (.con (.int 35)) .nil)))) (.cons (.tup (.cons (.con (.int 48)) (.cons (.con (.int 55)) (.cons (.con (.int 73)) .nil)))) (.cons (.tup (.cons (.con (.int 65)) (.cons (.con (.int 72)) (.cons (.con (.int 97)) .nil)))) .nil)))))) (.cons (.con (.none)) .nil))))) <|
  .cons (.ite (.not (.call 31 (.cons (.var 3) (.cons (.bin .Add (.var 4) (.lst (.cons (.tup (.nil)) (.cons (.tup (.cons (.tup (.cons (.con (.int 6)) (.cons (.con (.int 8)) (.cons (.con (.int 10)) .nil)))) .nil)) .nil)))) .nil)))) (.cons (.ret (.con (.bool false))) .nil) (.nil)) <|
  .cons (f_law_0) <|
  t_law_3
def d_law : Df := ⟨"law", top 48, ["script", "cup", "some", "told", "due", "gap", "most", "other", "triangle", "row", "firsts", "leg", "root", "high", "low", "slant"], ["script"], b_law⟩
def tx : Txt := ⟨[d_is_integer, d_is_whole, d_need_whole, d_is_tuple_of, d_root_in, d_is_square_in, d_is_side, d_fits_triangle, d_need_triangle, d_need_side, d_kind_in, d_times_in, d_kind_of, d_times_of, d_need_right, d_on_legs, d_back_legs, d_first_legs_in, d_all_legs, d_leg_gap, d_legs_on, d_legs_back, d_first_legs_of, d_first_legs, d_legs_up_to, d_law_cup, d_law_roll, d_law_sort, d_law_like_0, d_law_like_1, d_law_like_2, d_law_like_3, d_law_root, d_law_right, d_law_is_triangle, d_law_is_right, d_law_all, d_law_later, d_law_small_right, d_law_any_right, d_law], ["SideError", "InvalidTriangle", "InvalidSide", "InvalidNumber"], [("MOST", 1000000000), ("MOST_TIMES", 1000000), ("GAPS", 1000)], ["isinstance", "int", "bool", "tuple", "len", "all", "range", "sorted", "abs", "list", "str", "zip"]⟩
theorem ck_is_integer : dfC tx 0 d_is_integer = true := by decide +kernel
theorem bd_is_integer : ∀ (kV doc pm : Value) (an : Option Addr) (cdv ct : Value) (us : List Value), us.length = d_is_integer.ps.length → bindArgs (PySem.W.fnOf d_is_integer.x d_is_integer.x (defArgs d_is_integer.st) (defBody d_is_integer.st) (defScope d_is_integer.st) .none kV doc pm an cdv ct) ⟨us, []⟩ = pure (d_is_integer.ps.zip us) := fun _ _ _ _ _ _ us hl => match us, hl with | [_], _ => rfl
theorem ck_is_whole : dfC tx 1 d_is_whole = true := by decide +kernel
theorem bd_is_whole : ∀ (kV doc pm : Value) (an : Option Addr) (cdv ct : Value) (us : List Value), us.length = d_is_whole.ps.length → bindArgs (PySem.W.fnOf d_is_whole.x d_is_whole.x (defArgs d_is_whole.st) (defBody d_is_whole.st) (defScope d_is_whole.st) .none kV doc pm an cdv ct) ⟨us, []⟩ = pure (d_is_whole.ps.zip us) := fun _ _ _ _ _ _ us hl => match us, hl with | [_, _, _], _ => rfl
theorem ck_need_whole : dfC tx 2 d_need_whole = true := by decide +kernel
theorem bd_need_whole : ∀ (kV doc pm : Value) (an : Option Addr) (cdv ct : Value) (us : List Value), us.length = d_need_whole.ps.length → bindArgs (PySem.W.fnOf d_need_whole.x d_need_whole.x (defArgs d_need_whole.st) (defBody d_need_whole.st) (defScope d_need_whole.st) .none kV doc pm an cdv ct) ⟨us, []⟩ = pure (d_need_whole.ps.zip us) := fun _ _ _ _ _ _ us hl => match us, hl with | [_, _, _], _ => rfl
theorem ck_is_tuple_of : dfC tx 3 d_is_tuple_of = true := by decide +kernel
theorem bd_is_tuple_of : ∀ (kV doc pm : Value) (an : Option Addr) (cdv ct : Value) (us : List Value), us.length = d_is_tuple_of.ps.length → bindArgs (PySem.W.fnOf d_is_tuple_of.x d_is_tuple_of.x (defArgs d_is_tuple_of.st) (defBody d_is_tuple_of.st) (defScope d_is_tuple_of.st) .none kV doc pm an cdv ct) ⟨us, []⟩ = pure (d_is_tuple_of.ps.zip us) := fun _ _ _ _ _ _ us hl => match us, hl with | [_, _, _], _ => rfl
theorem ck_root_in : dfC tx 4 d_root_in = true := by decide +kernel
theorem bd_root_in : ∀ (kV doc pm : Value) (an : Option Addr) (cdv ct : Value) (us : List Value), us.length = d_root_in.ps.length → bindArgs (PySem.W.fnOf d_root_in.x d_root_in.x (defArgs d_root_in.st) (defBody d_root_in.st) (defScope d_root_in.st) .none kV doc pm an cdv ct) ⟨us, []⟩ = pure (d_root_in.ps.zip us) := fun _ _ _ _ _ _ us hl => match us, hl with | [_], _ => rfl
theorem ck_is_square_in : dfC tx 5 d_is_square_in = true := by decide +kernel
theorem bd_is_square_in : ∀ (kV doc pm : Value) (an : Option Addr) (cdv ct : Value) (us : List Value), us.length = d_is_square_in.ps.length → bindArgs (PySem.W.fnOf d_is_square_in.x d_is_square_in.x (defArgs d_is_square_in.st) (defBody d_is_square_in.st) (defScope d_is_square_in.st) .none kV doc pm an cdv ct) ⟨us, []⟩ = pure (d_is_square_in.ps.zip us) := fun _ _ _ _ _ _ us hl => match us, hl with | [_], _ => rfl
theorem ck_is_side : dfC tx 6 d_is_side = true := by decide +kernel
theorem bd_is_side : ∀ (kV doc pm : Value) (an : Option Addr) (cdv ct : Value) (us : List Value), us.length = d_is_side.ps.length → bindArgs (PySem.W.fnOf d_is_side.x d_is_side.x (defArgs d_is_side.st) (defBody d_is_side.st) (defScope d_is_side.st) .none kV doc pm an cdv ct) ⟨us, []⟩ = pure (d_is_side.ps.zip us) := fun _ _ _ _ _ _ us hl => match us, hl with | [_], _ => rfl
theorem ck_fits_triangle : dfC tx 7 d_fits_triangle = true := by decide +kernel
theorem bd_fits_triangle : ∀ (kV doc pm : Value) (an : Option Addr) (cdv ct : Value) (us : List Value), us.length = d_fits_triangle.ps.length → bindArgs (PySem.W.fnOf d_fits_triangle.x d_fits_triangle.x (defArgs d_fits_triangle.st) (defBody d_fits_triangle.st) (defScope d_fits_triangle.st) .none kV doc pm an cdv ct) ⟨us, []⟩ = pure (d_fits_triangle.ps.zip us) := fun _ _ _ _ _ _ us hl => match us, hl with | [_], _ => rfl
theorem ck_need_triangle : dfC tx 8 d_need_triangle = true := by decide +kernel
theorem bd_need_triangle : ∀ (kV doc pm : Value) (an : Option Addr) (cdv ct : Value) (us : List Value), us.length = d_need_triangle.ps.length → bindArgs (PySem.W.fnOf d_need_triangle.x d_need_triangle.x (defArgs d_need_triangle.st) (defBody d_need_triangle.st) (defScope d_need_triangle.st) .none kV doc pm an cdv ct) ⟨us, []⟩ = pure (d_need_triangle.ps.zip us) := fun _ _ _ _ _ _ us hl => match us, hl with | [_], _ => rfl
theorem ck_need_side : dfC tx 9 d_need_side = true := by decide +kernel
theorem bd_need_side : ∀ (kV doc pm : Value) (an : Option Addr) (cdv ct : Value) (us : List Value), us.length = d_need_side.ps.length → bindArgs (PySem.W.fnOf d_need_side.x d_need_side.x (defArgs d_need_side.st) (defBody d_need_side.st) (defScope d_need_side.st) .none kV doc pm an cdv ct) ⟨us, []⟩ = pure (d_need_side.ps.zip us) := fun _ _ _ _ _ _ us hl => match us, hl with | [_], _ => rfl
theorem ck_kind_in : dfC tx 10 d_kind_in = true := by decide +kernel
theorem bd_kind_in : ∀ (kV doc pm : Value) (an : Option Addr) (cdv ct : Value) (us : List Value), us.length = d_kind_in.ps.length → bindArgs (PySem.W.fnOf d_kind_in.x d_kind_in.x (defArgs d_kind_in.st) (defBody d_kind_in.st) (defScope d_kind_in.st) .none kV doc pm an cdv ct) ⟨us, []⟩ = pure (d_kind_in.ps.zip us) := fun _ _ _ _ _ _ us hl => match us, hl with | [_], _ => rfl
theorem ck_times_in : dfC tx 11 d_times_in = true := by decide +kernel
theorem bd_times_in : ∀ (kV doc pm : Value) (an : Option Addr) (cdv ct : Value) (us : List Value), us.length = d_times_in.ps.length → bindArgs (PySem.W.fnOf d_times_in.x d_times_in.x (defArgs d_times_in.st) (defBody d_times_in.st) (defScope d_times_in.st) .none kV doc pm an cdv ct) ⟨us, []⟩ = pure (d_times_in.ps.zip us) := fun _ _ _ _ _ _ us hl => match us, hl with | [_, _], _ => rfl
theorem ck_kind_of : dfC tx 12 d_kind_of = true := by decide +kernel
theorem bd_kind_of : ∀ (kV doc pm : Value) (an : Option Addr) (cdv ct : Value) (us : List Value), us.length = d_kind_of.ps.length → bindArgs (PySem.W.fnOf d_kind_of.x d_kind_of.x (defArgs d_kind_of.st) (defBody d_kind_of.st) (defScope d_kind_of.st) .none kV doc pm an cdv ct) ⟨us, []⟩ = pure (d_kind_of.ps.zip us) := fun _ _ _ _ _ _ us hl => match us, hl with | [_], _ => rfl
theorem ck_times_of : dfC tx 13 d_times_of = true := by decide +kernel
theorem bd_times_of : ∀ (kV doc pm : Value) (an : Option Addr) (cdv ct : Value) (us : List Value), us.length = d_times_of.ps.length → bindArgs (PySem.W.fnOf d_times_of.x d_times_of.x (defArgs d_times_of.st) (defBody d_times_of.st) (defScope d_times_of.st) .none kV doc pm an cdv ct) ⟨us, []⟩ = pure (d_times_of.ps.zip us) := fun _ _ _ _ _ _ us hl => match us, hl with | [_, _], _ => rfl
theorem ck_need_right : dfC tx 14 d_need_right = true := by decide +kernel
theorem bd_need_right : ∀ (kV doc pm : Value) (an : Option Addr) (cdv ct : Value) (us : List Value), us.length = d_need_right.ps.length → bindArgs (PySem.W.fnOf d_need_right.x d_need_right.x (defArgs d_need_right.st) (defBody d_need_right.st) (defScope d_need_right.st) .none kV doc pm an cdv ct) ⟨us, []⟩ = pure (d_need_right.ps.zip us) := fun _ _ _ _ _ _ us hl => match us, hl with | [_], _ => rfl
theorem ck_on_legs : dfC tx 15 d_on_legs = true := by decide +kernel
theorem bd_on_legs : ∀ (kV doc pm : Value) (an : Option Addr) (cdv ct : Value) (us : List Value), us.length = d_on_legs.ps.length → bindArgs (PySem.W.fnOf d_on_legs.x d_on_legs.x (defArgs d_on_legs.st) (defBody d_on_legs.st) (defScope d_on_legs.st) .none kV doc pm an cdv ct) ⟨us, []⟩ = pure (d_on_legs.ps.zip us) := fun _ _ _ _ _ _ us hl => match us, hl with | [_], _ => rfl
theorem ck_back_legs : dfC tx 16 d_back_legs = true := by decide +kernel
theorem bd_back_legs : ∀ (kV doc pm : Value) (an : Option Addr) (cdv ct : Value) (us : List Value), us.length = d_back_legs.ps.length → bindArgs (PySem.W.fnOf d_back_legs.x d_back_legs.x (defArgs d_back_legs.st) (defBody d_back_legs.st) (defScope d_back_legs.st) .none kV doc pm an cdv ct) ⟨us, []⟩ = pure (d_back_legs.ps.zip us) := fun _ _ _ _ _ _ us hl => match us, hl with | [_], _ => rfl
theorem ck_first_legs_in : dfC tx 17 d_first_legs_in = true := by decide +kernel
theorem bd_first_legs_in : ∀ (kV doc pm : Value) (an : Option Addr) (cdv ct : Value) (us : List Value), us.length = d_first_legs_in.ps.length → bindArgs (PySem.W.fnOf d_first_legs_in.x d_first_legs_in.x (defArgs d_first_legs_in.st) (defBody d_first_legs_in.st) (defScope d_first_legs_in.st) .none kV doc pm an cdv ct) ⟨us, []⟩ = pure (d_first_legs_in.ps.zip us) := fun _ _ _ _ _ _ us hl => match us, hl with | [_], _ => rfl
theorem ck_all_legs : dfC tx 18 d_all_legs = true := by decide +kernel
theorem bd_all_legs : ∀ (kV doc pm : Value) (an : Option Addr) (cdv ct : Value) (us : List Value), us.length = d_all_legs.ps.length → bindArgs (PySem.W.fnOf d_all_legs.x d_all_legs.x (defArgs d_all_legs.st) (defBody d_all_legs.st) (defScope d_all_legs.st) .none kV doc pm an cdv ct) ⟨us, []⟩ = pure (d_all_legs.ps.zip us) := fun _ _ _ _ _ _ us hl => match us, hl with | [_, _], _ => rfl
theorem ck_leg_gap : dfC tx 19 d_leg_gap = true := by decide +kernel
theorem bd_leg_gap : ∀ (kV doc pm : Value) (an : Option Addr) (cdv ct : Value) (us : List Value), us.length = d_leg_gap.ps.length → bindArgs (PySem.W.fnOf d_leg_gap.x d_leg_gap.x (defArgs d_leg_gap.st) (defBody d_leg_gap.st) (defScope d_leg_gap.st) .none kV doc pm an cdv ct) ⟨us, []⟩ = pure (d_leg_gap.ps.zip us) := fun _ _ _ _ _ _ us hl => match us, hl with | [_], _ => rfl
theorem ck_legs_on : dfC tx 20 d_legs_on = true := by decide +kernel
theorem bd_legs_on : ∀ (kV doc pm : Value) (an : Option Addr) (cdv ct : Value) (us : List Value), us.length = d_legs_on.ps.length → bindArgs (PySem.W.fnOf d_legs_on.x d_legs_on.x (defArgs d_legs_on.st) (defBody d_legs_on.st) (defScope d_legs_on.st) .none kV doc pm an cdv ct) ⟨us, []⟩ = pure (d_legs_on.ps.zip us) := fun _ _ _ _ _ _ us hl => match us, hl with | [_], _ => rfl
theorem ck_legs_back : dfC tx 21 d_legs_back = true := by decide +kernel
theorem bd_legs_back : ∀ (kV doc pm : Value) (an : Option Addr) (cdv ct : Value) (us : List Value), us.length = d_legs_back.ps.length → bindArgs (PySem.W.fnOf d_legs_back.x d_legs_back.x (defArgs d_legs_back.st) (defBody d_legs_back.st) (defScope d_legs_back.st) .none kV doc pm an cdv ct) ⟨us, []⟩ = pure (d_legs_back.ps.zip us) := fun _ _ _ _ _ _ us hl => match us, hl with | [_], _ => rfl
theorem ck_first_legs_of : dfC tx 22 d_first_legs_of = true := by decide +kernel
theorem bd_first_legs_of : ∀ (kV doc pm : Value) (an : Option Addr) (cdv ct : Value) (us : List Value), us.length = d_first_legs_of.ps.length → bindArgs (PySem.W.fnOf d_first_legs_of.x d_first_legs_of.x (defArgs d_first_legs_of.st) (defBody d_first_legs_of.st) (defScope d_first_legs_of.st) .none kV doc pm an cdv ct) ⟨us, []⟩ = pure (d_first_legs_of.ps.zip us) := fun _ _ _ _ _ _ us hl => match us, hl with | [_], _ => rfl
theorem ck_first_legs : dfC tx 23 d_first_legs = true := by decide +kernel
theorem bd_first_legs : ∀ (kV doc pm : Value) (an : Option Addr) (cdv ct : Value) (us : List Value), us.length = d_first_legs.ps.length → bindArgs (PySem.W.fnOf d_first_legs.x d_first_legs.x (defArgs d_first_legs.st) (defBody d_first_legs.st) (defScope d_first_legs.st) .none kV doc pm an cdv ct) ⟨us, []⟩ = pure (d_first_legs.ps.zip us) := fun _ _ _ _ _ _ us hl => match us, hl with | [_], _ => rfl
theorem ck_legs_up_to : dfC tx 24 d_legs_up_to = true := by decide +kernel
theorem bd_legs_up_to : ∀ (kV doc pm : Value) (an : Option Addr) (cdv ct : Value) (us : List Value), us.length = d_legs_up_to.ps.length → bindArgs (PySem.W.fnOf d_legs_up_to.x d_legs_up_to.x (defArgs d_legs_up_to.st) (defBody d_legs_up_to.st) (defScope d_legs_up_to.st) .none kV doc pm an cdv ct) ⟨us, []⟩ = pure (d_legs_up_to.ps.zip us) := fun _ _ _ _ _ _ us hl => match us, hl with | [_, _], _ => rfl
theorem ck_law_cup : dfC tx 25 d_law_cup = true := by decide +kernel
theorem bd_law_cup : ∀ (kV doc pm : Value) (an : Option Addr) (cdv ct : Value) (us : List Value), us.length = d_law_cup.ps.length → bindArgs (PySem.W.fnOf d_law_cup.x d_law_cup.x (defArgs d_law_cup.st) (defBody d_law_cup.st) (defScope d_law_cup.st) .none kV doc pm an cdv ct) ⟨us, []⟩ = pure (d_law_cup.ps.zip us) := fun _ _ _ _ _ _ us hl => match us, hl with | [_], _ => rfl
theorem ck_law_roll : dfC tx 26 d_law_roll = true := by decide +kernel
theorem bd_law_roll : ∀ (kV doc pm : Value) (an : Option Addr) (cdv ct : Value) (us : List Value), us.length = d_law_roll.ps.length → bindArgs (PySem.W.fnOf d_law_roll.x d_law_roll.x (defArgs d_law_roll.st) (defBody d_law_roll.st) (defScope d_law_roll.st) .none kV doc pm an cdv ct) ⟨us, []⟩ = pure (d_law_roll.ps.zip us) := fun _ _ _ _ _ _ us hl => match us, hl with | [_, _], _ => rfl
theorem ck_law_sort : dfC tx 27 d_law_sort = true := by decide +kernel
theorem bd_law_sort : ∀ (kV doc pm : Value) (an : Option Addr) (cdv ct : Value) (us : List Value), us.length = d_law_sort.ps.length → bindArgs (PySem.W.fnOf d_law_sort.x d_law_sort.x (defArgs d_law_sort.st) (defBody d_law_sort.st) (defScope d_law_sort.st) .none kV doc pm an cdv ct) ⟨us, []⟩ = pure (d_law_sort.ps.zip us) := fun _ _ _ _ _ _ us hl => match us, hl with | [_], _ => rfl
theorem ck_law_like_0 : dfC tx 28 d_law_like_0 = true := by decide +kernel
theorem bd_law_like_0 : ∀ (kV doc pm : Value) (an : Option Addr) (cdv ct : Value) (us : List Value), us.length = d_law_like_0.ps.length → bindArgs (PySem.W.fnOf d_law_like_0.x d_law_like_0.x (defArgs d_law_like_0.st) (defBody d_law_like_0.st) (defScope d_law_like_0.st) .none kV doc pm an cdv ct) ⟨us, []⟩ = pure (d_law_like_0.ps.zip us) := fun _ _ _ _ _ _ us hl => match us, hl with | [_, _], _ => rfl
theorem ck_law_like_1 : dfC tx 29 d_law_like_1 = true := by decide +kernel
theorem bd_law_like_1 : ∀ (kV doc pm : Value) (an : Option Addr) (cdv ct : Value) (us : List Value), us.length = d_law_like_1.ps.length → bindArgs (PySem.W.fnOf d_law_like_1.x d_law_like_1.x (defArgs d_law_like_1.st) (defBody d_law_like_1.st) (defScope d_law_like_1.st) .none kV doc pm an cdv ct) ⟨us, []⟩ = pure (d_law_like_1.ps.zip us) := fun _ _ _ _ _ _ us hl => match us, hl with | [_, _], _ => rfl
theorem ck_law_like_2 : dfC tx 30 d_law_like_2 = true := by decide +kernel
theorem bd_law_like_2 : ∀ (kV doc pm : Value) (an : Option Addr) (cdv ct : Value) (us : List Value), us.length = d_law_like_2.ps.length → bindArgs (PySem.W.fnOf d_law_like_2.x d_law_like_2.x (defArgs d_law_like_2.st) (defBody d_law_like_2.st) (defScope d_law_like_2.st) .none kV doc pm an cdv ct) ⟨us, []⟩ = pure (d_law_like_2.ps.zip us) := fun _ _ _ _ _ _ us hl => match us, hl with | [_, _], _ => rfl
theorem ck_law_like_3 : dfC tx 31 d_law_like_3 = true := by decide +kernel
theorem bd_law_like_3 : ∀ (kV doc pm : Value) (an : Option Addr) (cdv ct : Value) (us : List Value), us.length = d_law_like_3.ps.length → bindArgs (PySem.W.fnOf d_law_like_3.x d_law_like_3.x (defArgs d_law_like_3.st) (defBody d_law_like_3.st) (defScope d_law_like_3.st) .none kV doc pm an cdv ct) ⟨us, []⟩ = pure (d_law_like_3.ps.zip us) := fun _ _ _ _ _ _ us hl => match us, hl with | [_, _], _ => rfl
theorem ck_law_root : dfC tx 32 d_law_root = true := by decide +kernel
theorem bd_law_root : ∀ (kV doc pm : Value) (an : Option Addr) (cdv ct : Value) (us : List Value), us.length = d_law_root.ps.length → bindArgs (PySem.W.fnOf d_law_root.x d_law_root.x (defArgs d_law_root.st) (defBody d_law_root.st) (defScope d_law_root.st) .none kV doc pm an cdv ct) ⟨us, []⟩ = pure (d_law_root.ps.zip us) := fun _ _ _ _ _ _ us hl => match us, hl with | [_], _ => rfl
theorem ck_law_right : dfC tx 33 d_law_right = true := by decide +kernel
theorem bd_law_right : ∀ (kV doc pm : Value) (an : Option Addr) (cdv ct : Value) (us : List Value), us.length = d_law_right.ps.length → bindArgs (PySem.W.fnOf d_law_right.x d_law_right.x (defArgs d_law_right.st) (defBody d_law_right.st) (defScope d_law_right.st) .none kV doc pm an cdv ct) ⟨us, []⟩ = pure (d_law_right.ps.zip us) := fun _ _ _ _ _ _ us hl => match us, hl with | [_, _], _ => rfl
theorem ck_law_is_triangle : dfC tx 34 d_law_is_triangle = true := by decide +kernel
theorem bd_law_is_triangle : ∀ (kV doc pm : Value) (an : Option Addr) (cdv ct : Value) (us : List Value), us.length = d_law_is_triangle.ps.length → bindArgs (PySem.W.fnOf d_law_is_triangle.x d_law_is_triangle.x (defArgs d_law_is_triangle.st) (defBody d_law_is_triangle.st) (defScope d_law_is_triangle.st) .none kV doc pm an cdv ct) ⟨us, []⟩ = pure (d_law_is_triangle.ps.zip us) := fun _ _ _ _ _ _ us hl => match us, hl with | [_], _ => rfl
theorem ck_law_is_right : dfC tx 35 d_law_is_right = true := by decide +kernel
theorem bd_law_is_right : ∀ (kV doc pm : Value) (an : Option Addr) (cdv ct : Value) (us : List Value), us.length = d_law_is_right.ps.length → bindArgs (PySem.W.fnOf d_law_is_right.x d_law_is_right.x (defArgs d_law_is_right.st) (defBody d_law_is_right.st) (defScope d_law_is_right.st) .none kV doc pm an cdv ct) ⟨us, []⟩ = pure (d_law_is_right.ps.zip us) := fun _ _ _ _ _ _ us hl => match us, hl with | [_], _ => rfl
theorem ck_law_all : dfC tx 36 d_law_all = true := by decide +kernel
theorem bd_law_all : ∀ (kV doc pm : Value) (an : Option Addr) (cdv ct : Value) (us : List Value), us.length = d_law_all.ps.length → bindArgs (PySem.W.fnOf d_law_all.x d_law_all.x (defArgs d_law_all.st) (defBody d_law_all.st) (defScope d_law_all.st) .none kV doc pm an cdv ct) ⟨us, []⟩ = pure (d_law_all.ps.zip us) := fun _ _ _ _ _ _ us hl => match us, hl with | [_, _], _ => rfl
theorem ck_law_later : dfC tx 37 d_law_later = true := by decide +kernel
theorem bd_law_later : ∀ (kV doc pm : Value) (an : Option Addr) (cdv ct : Value) (us : List Value), us.length = d_law_later.ps.length → bindArgs (PySem.W.fnOf d_law_later.x d_law_later.x (defArgs d_law_later.st) (defBody d_law_later.st) (defScope d_law_later.st) .none kV doc pm an cdv ct) ⟨us, []⟩ = pure (d_law_later.ps.zip us) := fun _ _ _ _ _ _ us hl => match us, hl with | [_], _ => rfl
theorem ck_law_small_right : dfC tx 38 d_law_small_right = true := by decide +kernel
theorem bd_law_small_right : ∀ (kV doc pm : Value) (an : Option Addr) (cdv ct : Value) (us : List Value), us.length = d_law_small_right.ps.length → bindArgs (PySem.W.fnOf d_law_small_right.x d_law_small_right.x (defArgs d_law_small_right.st) (defBody d_law_small_right.st) (defScope d_law_small_right.st) .none kV doc pm an cdv ct) ⟨us, []⟩ = pure (d_law_small_right.ps.zip us) := fun _ _ _ _ _ _ us hl => match us, hl with | [_, _], _ => rfl
theorem ck_law_any_right : dfC tx 39 d_law_any_right = true := by decide +kernel
theorem bd_law_any_right : ∀ (kV doc pm : Value) (an : Option Addr) (cdv ct : Value) (us : List Value), us.length = d_law_any_right.ps.length → bindArgs (PySem.W.fnOf d_law_any_right.x d_law_any_right.x (defArgs d_law_any_right.st) (defBody d_law_any_right.st) (defScope d_law_any_right.st) .none kV doc pm an cdv ct) ⟨us, []⟩ = pure (d_law_any_right.ps.zip us) := fun _ _ _ _ _ _ us hl => match us, hl with | [_, _], _ => rfl
theorem ck_law : dfC tx 40 d_law = true := by decide +kernel
theorem bd_law : ∀ (kV doc pm : Value) (an : Option Addr) (cdv ct : Value) (us : List Value), us.length = d_law.ps.length → bindArgs (PySem.W.fnOf d_law.x d_law.x (defArgs d_law.st) (defBody d_law.st) (defScope d_law.st) .none kV doc pm an cdv ct) ⟨us, []⟩ = pure (d_law.ps.zip us) := fun _ _ _ _ _ _ us hl => match us, hl with | [_], _ => rfl
end Q81
namespace Q81
open PySem Z
/-! what the defs of basics promise, where they are called as they should be -/
def isInt : PyData → Bool | .int _ => true | _ => false
def whole (v : PyData) (lo hi : Int) : Bool := match v with | .int i => decide (lo ≤ i) && decide (i ≤ hi) | _ => false
def Fits (a b c : Int) : Prop := 1 ≤ a ∧ a ≤ b ∧ b ≤ c ∧ c < a + b ∧ c ≤ 1000000000
def Rect (a b c : Int) : Prop := Fits a b c ∧ a * a + b * b = c * c
def kindS (a b c : Int) : Str := if a * a + b * b - c * c = 0 then "right" else if 0 < a * a + b * b - c * c then "sharp" else "blunt"
def sp_is_integer : Z.Spec := fun ws st P _ => match ws with
  | [.d v] => P (.d (.bool (isInt v))) st
  | _ => False
def sp_is_whole : Z.Spec := fun ws st P _ => match ws with
  | [.d v, .d (.int lo), .d (.int hi)] => P (.d (.bool (whole v lo hi))) st
  | _ => False
def sp_need_whole : Z.Spec := fun ws st P R => match ws with
  | [.d v, .d (.int lo), .d (.int hi)] => whole v lo hi = true ∧ P (.d .none) st
  | _ => False
def sp_is_tuple_of : Z.Spec := fun ws st P _ => match ws with
  | [.d (.tuple xs), .d (.int lo), .d (.int hi)] => P (.d (.bool (decide (lo ≤ xs.length ∧ (xs.length : Int) ≤ hi)))) st
  | _ => False
def sp_divisor_of : Z.Spec := fun ws st P _ => match ws with
  | [.d (.int a), .d (.int b)] => P (.d (.int (Int.gcd a b))) st
  | _ => False
def sp_is_side : Z.Spec := fun ws st P _ => match ws with
  | [.d v] => P (.d (.bool (whole v 1 1000000000))) st
  | _ => False
def sp_fits_triangle : Z.Spec := fun ws st P _ => match ws with
  | [.d (.tuple [.int a, .int b, .int c])] => Fits a b c ∧ P (.d (.bool true)) st
  | _ => False
def sp_need_triangle : Z.Spec := fun ws st P _ => match ws with
  | [.d (.tuple [.int a, .int b, .int c])] => Fits a b c ∧ P (.d .none) st
  | _ => False
def sp_kind_in : Z.Spec := fun ws st P _ => match ws with
  | [.d (.tuple [.int a, .int b, .int c])] => Fits a b c ∧ P (.d (.str (kindS a b c))) st
  | _ => False
def sp_kind_of : Z.Spec := sp_kind_in
def sp_part_in : Z.Spec := fun ws st P _ => match ws with
  | [.d (.tuple [.int a, .int b, .int c])] => P (.d (.int (Int.gcd (Int.gcd a b) c))) st
  | _ => False
def sp_is_plain : Z.Spec := fun ws st P _ => match ws with
  | [.d (.tuple [.int a, .int b, .int c])] => Fits a b c ∧ P (.d (.bool (decide (((Int.gcd (Int.gcd a b) c : Nat) : Int) = 1)))) st
  | _ => False
def sp_need_right : Z.Spec := fun ws st P _ => match ws with
  | [.d (.tuple [.int a, .int b, .int c])] => Rect a b c ∧ P (.d .none) st
  | _ => False
/-! the laws' own defs -/
def cupOk (a b : Int) : Prop := 0 ≤ a ∧ 0 ≤ b ∧ b < 2 ^ 40
def sp_law_cup : Z.Spec := fun ws st P _ => match ws with
  | [.fz xs] => (∃ ns : List Int, xs = ns.map .int ∧ ns.length ≤ 63) ∧ ∀ a b, cupOk a b → P (.p st.length) (st ++ [.lst [.int a, .int b]])
  | _ => False
def sp_law_roll : Z.Spec := fun ws st P _ => match ws with
  | [.p c, .d (.int m)] => (∃ a b, cupOk a b ∧ st[c]? = some (.lst [.int a, .int b])) ∧ 0 < m ∧ m < 2 ^ 40 ∧
    ∀ a b r, cupOk a b → 0 ≤ r → r < m → P (.d (.int r)) (st.set c (.lst [.int a, .int b]))
  | _ => False
def sortN : PyData → Int | .none => 0 | .bool _ => 1 | .int _ => 2 | .str _ => 3 | .tuple _ => 4 | .list _ => 5 | .dict _ => 6
def sp_law_sort : Z.Spec := fun ws st P _ => match ws with
  | [.d v] => P (.d (.int (sortN v))) st
  | _ => False
mutual
/-- a datum of at most k floors -/
def flat : Nat → PyData → Bool
  | _, .none => true
  | _, .bool _ => true
  | _, .int _ => true
  | _, .str _ => true
  | k + 1, .tuple xs => flats k xs && decide (xs.length ≤ 1000000)
  | k + 1, .list xs => flats k xs && decide (xs.length ≤ 1000000)
  | _, _ => false
def flats : Nat → List PyData → Bool
  | _, [] => true
  | k, x :: xs => flat k x && flats k xs
end
def sp_law_like (k : Nat) : Z.Spec := fun ws st P _ => match ws with
  | [.d a, .d b] => a = b ∧ flat k a = true ∧ P (.d (.bool true)) st
  | _ => False
/-- the root, rounded down -/
def rtN : Nat → Nat
  | 0 => 0
  | n + 1 => if (rtN n + 1) * (rtN n + 1) ≤ n + 1 then rtN n + 1 else rtN n
theorem rtN_ok : ∀ n, rtN n * rtN n ≤ n ∧ n < (rtN n + 1) * (rtN n + 1)
  | 0 => by simp [rtN]
  | n + 1 => by
    obtain ⟨h1, h2⟩ := rtN_ok n
    unfold rtN
    split
    · rename_i h
      refine ⟨h, ?_⟩
      have : (rtN n + 1 + 1) * (rtN n + 1 + 1) = (rtN n + 1) * (rtN n + 1) + 2 * rtN n + 3 := by
        simp only [Nat.mul_add, Nat.add_mul]; omega
      omega
    · omega
theorem rt_uniq {n r s : Nat} (h1 : r * r ≤ n) (h2 : n < (r + 1) * (r + 1)) (h3 : s * s ≤ n) (h4 : n < (s + 1) * (s + 1)) : r = s := by
  rcases Nat.lt_trichotomy r s with h | h | h
  · have := Nat.mul_le_mul (show r + 1 ≤ s from h) (show r + 1 ≤ s from h); omega
  · exact h
  · have := Nat.mul_le_mul (show s + 1 ≤ r from h) (show s + 1 ≤ r from h); omega
theorem rtN_sq (r : Nat) : rtN (r * r) = r := by
  obtain ⟨h1, h2⟩ := rtN_ok (r * r)
  refine rt_uniq h1 h2 (Nat.le_refl _) ?_
  simp only [Nat.mul_add, Nat.add_mul]; omega
/-- the same by halving, for sums by the kernel -/
def bis : Nat → Nat → Nat → Nat → Nat
  | 0, lo, _, _ => lo
  | k + 1, lo, hi, n => if ((lo + hi) / 2) * ((lo + hi) / 2) ≤ n then bis k ((lo + hi) / 2) hi n else bis k lo ((lo + hi) / 2) n
def fsq (n : Nat) : Nat := if bis 50 0 1099511627776 n * bis 50 0 1099511627776 n ≤ n ∧ n < (bis 50 0 1099511627776 n + 1) * (bis 50 0 1099511627776 n + 1) then bis 50 0 1099511627776 n else rtN n
theorem fsq_ok (n : Nat) : fsq n * fsq n ≤ n ∧ n < (fsq n + 1) * (fsq n + 1) := by
  unfold fsq
  split
  · assumption
  · exact rtN_ok n
def rt (n : Int) : Int := fsq n.toNat
theorem rt_nn (n : Int) : 0 ≤ rt n := Int.natCast_nonneg _
theorem rt_sq_le {n : Int} (h : 0 ≤ n) : rt n * rt n ≤ n := by
  obtain ⟨j, rfl⟩ := Int.eq_ofNat_of_zero_le h
  have := (fsq_ok j).1
  show ((fsq j : Nat) : Int) * ((fsq j : Nat) : Int) ≤ ((j : Nat) : Int)
  exact_mod_cast this
def sp_law_root : Z.Spec := fun ws st P _ => match ws with
  | [.d (.int n)] => 0 ≤ n ∧ n < 2 ^ 80 ∧ P (.d (.int (rt n))) st
  | _ => False
def mn (a b : Int) : Int := if b < a then b else a
def mx (a b : Int) : Int := if b < a then a else b
def sp_law_right : Z.Spec := fun ws st P _ => match ws with
  | [.d (.int a), .d (.int b)] => 0 < b ∧ b < a ∧ a < 2 ^ 40 ∧ P (.d (.tuple [.int (mn (a * a - b * b) (2 * a * b)), .int (mx (a * a - b * b) (2 * a * b)), .int (a * a + b * b)])) st
  | _ => False
def sp_root_in : Z.Spec := sp_law_root
def sp_is_square_in : Z.Spec := fun ws st P _ => match ws with
  | [.d (.int n)] => 0 ≤ n ∧ n < 2 ^ 80 ∧ P (.d (.bool (decide (rt n * rt n = n)))) st
  | _ => False
def sp_need_side : Z.Spec := fun ws st P _ => match ws with
  | [.d v] => whole v 1 1000000000 = true ∧ P (.d .none) st
  | _ => False
def sp_times_in : Z.Spec := fun ws st P _ => match ws with
  | [.d (.tuple [.int a, .int b, .int c]), .d (.int k)] => 1 ≤ k ∧ k ≤ 1000000 ∧ P (.d (.tuple [.int (a * k), .int (b * k), .int (c * k)])) st
  | _ => False
def sp_times_of : Z.Spec := fun ws st P _ => match ws with
  | [.d (.tuple [.int a, .int b, .int c]), .d (.int k)] => Fits a b c ∧ 1 ≤ k ∧ k ≤ 1000000 ∧ c * k ≤ 1000000000 ∧ P (.d (.tuple [.int (a * k), .int (b * k), .int (c * k)])) st
  | _ => False
def sp_law_is_triangle : Z.Spec := fun ws st P _ => match ws with
  | [.d (.tuple [.int a, .int b, .int c])] => Fits a b c ∧ P (.d (.bool true)) st
  | _ => False
def sp_law_is_right : Z.Spec := fun ws st P _ => match ws with
  | [.d (.tuple [.int a, .int b, .int c])] => Rect a b c ∧ P (.d (.bool true)) st
  | _ => False
end Q81
namespace Q81
open PySem Z
def rng (lo hi : Int) : List Int := (List.range (hi - lo).toNat).map fun (k : Nat) => lo + (k : Int)
def leg2 (g leg : Int) : Int := leg * leg + (leg + g) * (leg + g)
def rowF (g leg : Int) : Option PyData := if rt (leg2 g leg) * rt (leg2 g leg) = leg2 g leg then some (T3 leg (leg + g) (rt (leg2 g leg))) else none
def firsts (g : Int) : List PyData := (rng 1 (3 * g + 1)).filterMap (rowF g)
def rowM (g m leg : Int) : Option PyData := if rt (leg2 g leg) * rt (leg2 g leg) = leg2 g leg ∧ rt (leg2 g leg) ≤ m then some (T3 leg (leg + g) (rt (leg2 g leg))) else none
def legsL (g m : Int) : List PyData := (rng 1 (m + 1)).filterMap (rowM g m)
def backD (a b c : Int) : PyData := if 0 < 2 * a + b - 2 * c then T3 (2 * a + b - 2 * c) (a + 2 * b - 2 * c) (3 * c - 2 * a - 2 * b) else .none
def onT (a b c : Int) : PyData := if 2 * a + 2 * b + 3 * c ≤ 1000000000 then T3 (2 * a + b + 2 * c) (a + 2 * b + 2 * c) (2 * a + 2 * b + 3 * c) else .none
def rootT (a b c : Int) : PyData := if _h : 0 < 2 * a + b - 2 * c ∧ 0 < c ∧ c < a + b then rootT (2 * a + b - 2 * c) (a + 2 * b - 2 * c) (3 * c - 2 * a - 2 * b) else T3 a b c
termination_by c.toNat
decreasing_by omega
def sp_on_legs : Z.Spec := fun ws st P _ => match ws with
  | [.d (.tuple [.int a, .int b, .int c])] => P (.d (T3 (2 * a + b + 2 * c) (a + 2 * b + 2 * c) (2 * a + 2 * b + 3 * c))) st
  | _ => False
def sp_back_legs : Z.Spec := fun ws st P _ => match ws with
  | [.d (.tuple [.int a, .int b, .int c])] => P (.d (backD a b c)) st
  | _ => False
def sp_first_legs_in : Z.Spec := fun ws st P _ => match ws with
  | [.d (.int g)] => 1 ≤ g ∧ g ≤ 1000 ∧ P (.p st.length) (st ++ [.lst (firsts g)])
  | _ => False
def sp_all_legs : Z.Spec := fun ws st P _ => match ws with
  | [.d (.int g), .d (.int m)] => 1 ≤ g ∧ g ≤ 1000 ∧ 1 ≤ m ∧ m ≤ 1000000000 ∧ P (.d (.list (legsL g m))) st
  | _ => False
def sp_leg_gap : Z.Spec := fun ws st P _ => match ws with
  | [.d (.tuple [.int a, .int b, .int c])] => Rect a b c ∧ P (.d (.int (b - a))) st
  | _ => False
def sp_legs_on : Z.Spec := fun ws st P _ => match ws with
  | [.d (.tuple [.int a, .int b, .int c])] => Rect a b c ∧ P (.d (onT a b c)) st
  | _ => False
def sp_legs_back : Z.Spec := fun ws st P _ => match ws with
  | [.d (.tuple [.int a, .int b, .int c])] => Rect a b c ∧ P (.d (backD a b c)) st
  | _ => False
def sp_first_legs_of : Z.Spec := fun ws st P _ => match ws with
  | [.d (.tuple [.int a, .int b, .int c])] => Rect a b c ∧ a < b ∧ P (.d (rootT a b c)) st
  | _ => False
def sp_first_legs : Z.Spec := fun ws st P _ => match ws with
  | [.d (.int g)] => 1 ≤ g ∧ g ≤ 1000 ∧ P (.d (.tuple (firsts g))) st
  | _ => False
def sp_legs_up_to : Z.Spec := fun ws st P _ => match ws with
  | [.d (.int g), .d (.int m)] => 1 ≤ g ∧ g ≤ 1000 ∧ 1 ≤ m ∧ m ≤ 1000000000 ∧ P (.d (.tuple (legsL g m))) st
  | _ => False
def sp_law_all : Z.Spec := fun ws st P _ => match ws with
  | [.d (.int g), .d (.int m)] => 1 ≤ g ∧ g ≤ 1000 ∧ 1 ≤ m ∧ m ≤ 1000000 ∧ P (.d (.list (legsL g m))) st
  | _ => False
def sp_law_later : Z.Spec := fun ws st P _ => match ws with
  | [.d (.tuple [.int a, .int b, .int c])] => 0 < a ∧ a < b ∧ 0 < c ∧ P (.d (onT a b c)) st
  | _ => False
def sp_law_small_right : Z.Spec := fun ws st P _ => match ws with
  | [.d (.int g), .d (.int m)] => 1 ≤ g ∧ g ≤ 60 ∧ 1 ≤ m ∧ m ≤ 1000 ∧ P (.d (.bool true)) st
  | _ => False
def sp_law_any_right : Z.Spec := fun ws st P _ => match ws with
  | [.p _, .d (.tuple [.int a, .int b, .int c])] => Rect a b c ∧ a < b ∧ P (.d (.bool true)) st
  | _ => False
def sp_law : Z.Spec := fun ws st P _ => match ws with
  | [.fz xs] => (∃ ns : List Int, xs = ns.map .int ∧ ns.length ≤ 63) ∧ P (.d (.bool true)) st
  | _ => False
end Q81
namespace Q81
open PySem Z
def SS : Nat → Z.Spec
  | 0 => sp_is_integer
  | 1 => sp_is_whole
  | 2 => sp_need_whole
  | 3 => sp_is_tuple_of
  | 4 => sp_root_in
  | 5 => sp_is_square_in
  | 6 => sp_is_side
  | 7 => sp_fits_triangle
  | 8 => sp_need_triangle
  | 9 => sp_need_side
  | 10 => sp_kind_in
  | 11 => sp_times_in
  | 12 => sp_kind_of
  | 13 => sp_times_of
  | 14 => sp_need_right
  | 15 => sp_on_legs
  | 16 => sp_back_legs
  | 17 => sp_first_legs_in
  | 18 => sp_all_legs
  | 19 => sp_leg_gap
  | 20 => sp_legs_on
  | 21 => sp_legs_back
  | 22 => sp_first_legs_of
  | 23 => sp_first_legs
  | 24 => sp_legs_up_to
  | 25 => sp_law_cup
  | 26 => sp_law_roll
  | 27 => sp_law_sort
  | 28 => sp_law_like 0
  | 29 => sp_law_like 1
  | 30 => sp_law_like 2
  | 31 => sp_law_like 3
  | 32 => sp_law_root
  | 33 => sp_law_right
  | 34 => sp_law_is_triangle
  | 35 => sp_law_is_right
  | 36 => sp_law_all
  | 37 => sp_law_later
  | 38 => sp_law_small_right
  | 39 => sp_law_any_right
  | 40 => sp_law
  | _ => fun _ _ _ _ => False
end Q81
namespace Q81
open PySem Z
theorem abs_nat (a : Int) : (if a < 0 then -a else a) = (a.natAbs : Int) := by split <;> omega
theorem ok_is_integer : Does SS 1 b_is_integer sp_is_integer := by
  intro ws st P R h
  unfold sp_is_integer at h
  split at h
  · rename_i v
    simp only [b_is_integer, env0, wSs, wS, wE, wAs, wCh, wO, wC, wIt, en0, exitOk, ex0, onD, asD, asL, asQ, onL, onQ, onI, onB, onC, onV, onS, onDL, on2I, bop, bAdd, bMul, cop, cEq, cLt, cLe, cGt, cGe, cIn, cIs, isN, wTr, blt, bLen, lenQ, bAbs, bMin, bMax, bSum, bAll, bAny, bSorted, bTuple, bList, bInt, nonE, mkT, mkL, dats, fns, wTg, setAll, setW, wipeG, idxW, slcW, itemsE, zipW, SS, List.map_cons, List.map_nil, List.length_cons, List.length_nil, Nat.zero_add, List.getElem?_cons_zero, List.getElem?_cons_succ, List.set_cons_zero, List.set_cons_succ, List.append_nil, List.nil_append, List.cons_append, List.replicate_zero, List.replicate_succ, Nat.sub_self, Nat.reduceSub, Nat.reduceAdd, Option.map_some, Option.map_none, List.take_length, wIf_dec, wIf_t, wIf_f, true_and, and_true, Nat.lt_irrefl, if_false, if_true, decide_eq_true_eq, decide_eq_false_iff_not, Bool.not_true, Bool.not_false, bne_self_eq_false, sz_le, Nat.reduceLeDiff, true_implies, not_true_eq_false, false_implies, implies_true, and_self, not_false_eq_true, wIf_not, at0, at1, at2, ix20, ix21, get_app, take_app, set_app, set_set, take_set, List.take_length, Int.reduceToNat, Int.reducePow, Int.reduceAdd, Int.reduceSub, Int.reduceMul, Int.reduceNeg]
    cases v <;> simp_all [isTyS, isTy, kd, isInt, wIf]
  · exact h.elim
theorem ok_is_whole : Does SS 3 b_is_whole sp_is_whole := by
  intro ws st P R h
  unfold sp_is_whole at h
  split at h
  · rename_i v lo hi
    simp only [b_is_whole, env0, wSs, wS, wE, wAs, wCh, wO, wC, wIt, en0, exitOk, ex0, onD, asD, asL, asQ, onL, onQ, onI, onB, onC, onV, onS, onDL, on2I, bop, bAdd, bMul, cop, cEq, cLt, cLe, cGt, cGe, cIn, cIs, isN, wTr, blt, bLen, lenQ, bAbs, bMin, bMax, bSum, bAll, bAny, bSorted, bTuple, bList, bInt, nonE, mkT, mkL, dats, fns, wTg, setAll, setW, wipeG, idxW, slcW, itemsE, zipW, SS, List.map_cons, List.map_nil, List.length_cons, List.length_nil, Nat.zero_add, List.getElem?_cons_zero, List.getElem?_cons_succ, List.set_cons_zero, List.set_cons_succ, List.append_nil, List.nil_append, List.cons_append, List.replicate_zero, List.replicate_succ, Nat.sub_self, Nat.reduceSub, Nat.reduceAdd, Option.map_some, Option.map_none, List.take_length, wIf_dec, wIf_t, wIf_f, true_and, and_true, Nat.lt_irrefl, if_false, if_true, decide_eq_true_eq, decide_eq_false_iff_not, Bool.not_true, Bool.not_false, bne_self_eq_false, sz_le, Nat.reduceLeDiff, true_implies, not_true_eq_false, false_implies, implies_true, and_self, not_false_eq_true, wIf_not, at0, at1, at2, ix20, ix21, get_app, take_app, set_app, set_set, take_set, List.take_length, Int.reduceToNat, Int.reducePow, Int.reduceAdd, Int.reduceSub, Int.reduceMul, Int.reduceNeg, sp_is_integer]
    cases v <;> simp_all [isInt, wIf, whole]
    rename_i i
    by_cases q : lo ≤ i
    · refine ⟨fun _ => by simpa [q] using h, fun z => by omega⟩
    · refine ⟨fun z => absurd z q, fun _ => by simpa [q] using h⟩
  · exact h.elim
theorem ok_need_whole : Does SS 3 b_need_whole sp_need_whole := by
  intro ws st P R h
  unfold sp_need_whole at h
  split at h
  · rename_i v lo hi
    obtain ⟨h1, h2⟩ := h
    simp only [b_need_whole, env0, wSs, wS, wE, wAs, wCh, wO, wC, wIt, en0, exitOk, ex0, onD, asD, asL, asQ, onL, onQ, onI, onB, onC, onV, onS, onDL, on2I, bop, bAdd, bMul, cop, cEq, cLt, cLe, cGt, cGe, cIn, cIs, isN, wTr, blt, bLen, lenQ, bAbs, bMin, bMax, bSum, bAll, bAny, bSorted, bTuple, bList, bInt, nonE, mkT, mkL, dats, fns, wTg, setAll, setW, wipeG, idxW, slcW, itemsE, zipW, SS, List.map_cons, List.map_nil, List.length_cons, List.length_nil, Nat.zero_add, List.getElem?_cons_zero, List.getElem?_cons_succ, List.set_cons_zero, List.set_cons_succ, List.append_nil, List.nil_append, List.cons_append, List.replicate_zero, List.replicate_succ, Nat.sub_self, Nat.reduceSub, Nat.reduceAdd, Option.map_some, Option.map_none, List.take_length, wIf_dec, wIf_t, wIf_f, true_and, and_true, Nat.lt_irrefl, if_false, if_true, decide_eq_true_eq, decide_eq_false_iff_not, Bool.not_true, Bool.not_false, bne_self_eq_false, sz_le, Nat.reduceLeDiff, true_implies, not_true_eq_false, false_implies, implies_true, and_self, not_false_eq_true, wIf_not, at0, at1, at2, ix20, ix21, get_app, take_app, set_app, set_set, take_set, List.take_length, Int.reduceToNat, Int.reducePow, Int.reduceAdd, Int.reduceSub, Int.reduceMul, Int.reduceNeg, sp_is_whole, h1]
    exact h2
  · exact h.elim
theorem ok_is_tuple_of : Does SS 3 b_is_tuple_of sp_is_tuple_of := by
  intro ws st P R h
  unfold sp_is_tuple_of at h
  split at h
  · rename_i xs lo hi
    simp only [b_is_tuple_of, env0, wSs, wS, wE, wAs, wCh, wO, wC, wIt, en0, exitOk, ex0, onD, asD, asL, asQ, onL, onQ, onI, onB, onC, onV, onS, onDL, on2I, bop, bAdd, bMul, cop, cEq, cLt, cLe, cGt, cGe, cIn, cIs, isN, wTr, blt, bLen, lenQ, bAbs, bMin, bMax, bSum, bAll, bAny, bSorted, bTuple, bList, bInt, nonE, mkT, mkL, dats, fns, wTg, setAll, setW, wipeG, idxW, slcW, itemsE, zipW, SS, List.map_cons, List.map_nil, List.length_cons, List.length_nil, Nat.zero_add, List.getElem?_cons_zero, List.getElem?_cons_succ, List.set_cons_zero, List.set_cons_succ, List.append_nil, List.nil_append, List.cons_append, List.replicate_zero, List.replicate_succ, Nat.sub_self, Nat.reduceSub, Nat.reduceAdd, Option.map_some, Option.map_none, List.take_length, wIf_dec, wIf_t, wIf_f, true_and, and_true, Nat.lt_irrefl, if_false, if_true, decide_eq_true_eq, decide_eq_false_iff_not, Bool.not_true, Bool.not_false, bne_self_eq_false, sz_le, Nat.reduceLeDiff, true_implies, not_true_eq_false, false_implies, implies_true, and_self, not_false_eq_true, wIf_not, at0, at1, at2, ix20, ix21, get_app, take_app, set_app, set_set, take_set, List.take_length, Int.reduceToNat, Int.reducePow, Int.reduceAdd, Int.reduceSub, Int.reduceMul, Int.reduceNeg, isTy, kd, isTyS]
    by_cases q : lo ≤ xs.length
    · refine ⟨fun _ => by simpa [q] using h, fun z => absurd q z⟩
    · refine ⟨fun z => absurd z q, fun _ => by simpa [q] using h⟩
  · exact h.elim
theorem ok_is_side : Does SS 1 b_is_side sp_is_side := by
  intro ws st P R h
  unfold sp_is_side at h
  split at h
  · simp only [b_is_side, env0, wSs, wS, wE, wAs, wCh, wO, wC, wIt, en0, exitOk, ex0, onD, asD, asL, asQ, onL, onQ, onI, onB, onC, onV, onS, onDL, on2I, bop, bAdd, bMul, cop, cEq, cLt, cLe, cGt, cGe, cIn, cIs, isN, wTr, blt, bLen, lenQ, bAbs, bMin, bMax, bSum, bAll, bAny, bSorted, bTuple, bList, bInt, nonE, mkT, mkL, dats, fns, wTg, setAll, setW, wipeG, idxW, slcW, itemsE, zipW, SS, List.map_cons, List.map_nil, List.length_cons, List.length_nil, Nat.zero_add, List.getElem?_cons_zero, List.getElem?_cons_succ, List.set_cons_zero, List.set_cons_succ, List.append_nil, List.nil_append, List.cons_append, List.replicate_zero, List.replicate_succ, Nat.sub_self, Nat.reduceSub, Nat.reduceAdd, Option.map_some, Option.map_none, List.take_length, wIf_dec, wIf_t, wIf_f, true_and, and_true, Nat.lt_irrefl, if_false, if_true, decide_eq_true_eq, decide_eq_false_iff_not, Bool.not_true, Bool.not_false, bne_self_eq_false, sz_le, Nat.reduceLeDiff, true_implies, not_true_eq_false, false_implies, implies_true, and_self, not_false_eq_true, wIf_not, at0, at1, at2, ix20, ix21, get_app, take_app, set_app, set_set, take_set, List.take_length, Int.reduceToNat, Int.reducePow, Int.reduceAdd, Int.reduceSub, Int.reduceMul, Int.reduceNeg, sp_is_whole]
    exact h
  · exact h.elim
theorem Fits.side {a b c : Int} (h : Fits a b c) : whole (.int a) 1 1000000000 = true ∧ whole (.int b) 1 1000000000 = true ∧ whole (.int c) 1 1000000000 = true := by
  obtain ⟨h1, h2, h3, h4, h5⟩ := h
  simp only [whole, Bool.and_eq_true, decide_eq_true_eq]
  omega
theorem ok_fits_triangle : Does SS 2 b_fits_triangle sp_fits_triangle := by
  intro ws st P R h
  unfold sp_fits_triangle at h
  split at h
  · rename_i a b c
    obtain ⟨hf, h⟩ := h
    obtain ⟨q1, q2, q3⟩ := hf.side
    obtain ⟨h1, h2, h3, h4, h5⟩ := hf
    have hs : 3 < sizeLine := by rw [sizeLine_eq]; decide
    simp only [b_fits_triangle, c_fits_triangle_0, env0, wSs, wS, wE, wAs, wCh, wO, wC, wIt, en0, exitOk, ex0, onD, asD, asL, asQ, onL, onQ, onI, onB, onC, onV, onS, onDL, on2I, bop, bAdd, bMul, cop, cEq, cLt, cLe, cGt, cGe, cIn, cIs, isN, wTr, blt, bLen, lenQ, bAbs, bMin, bMax, bSum, bAll, bAny, bSorted, bTuple, bList, bInt, nonE, mkT, mkL, dats, fns, wTg, setAll, setW, wipeG, idxW, slcW, itemsE, zipW, SS, List.map_cons, List.map_nil, List.length_cons, List.length_nil, Nat.zero_add, List.getElem?_cons_zero, List.getElem?_cons_succ, List.set_cons_zero, List.set_cons_succ, List.append_nil, List.nil_append, List.cons_append, List.replicate_zero, List.replicate_succ, Nat.sub_self, Nat.reduceSub, Nat.reduceAdd, Option.map_some, Option.map_none, List.take_length, wIf_dec, wIf_t, wIf_f, true_and, and_true, Nat.lt_irrefl, if_false, if_true, decide_eq_true_eq, decide_eq_false_iff_not, Bool.not_true, Bool.not_false, bne_self_eq_false, sz_le, Nat.reduceLeDiff, true_implies, not_true_eq_false, false_implies, implies_true, and_self, not_false_eq_true, wIf_not, at0, at1, at2, ix20, ix21, get_app, take_app, set_app, set_set, take_set, List.take_length, Int.reduceToNat, Int.reducePow, Int.reduceAdd, Int.reduceSub, Int.reduceMul, Int.reduceNeg, sp_is_tuple_of, sp_is_side, wLoop, q1, q2, q3, intsOf, boolsOf, onBs]
    simp [h, hs, h2, h3, h4, wIf]
    omega
  · exact h.elim
theorem ok_need_triangle : Does SS 1 b_need_triangle sp_need_triangle := by
  intro ws st P R h
  unfold sp_need_triangle at h
  split at h
  · simp only [b_need_triangle, env0, wSs, wS, wE, wAs, wCh, wO, wC, wIt, en0, exitOk, ex0, onD, asD, asL, asQ, onL, onQ, onI, onB, onC, onV, onS, onDL, on2I, bop, bAdd, bMul, cop, cEq, cLt, cLe, cGt, cGe, cIn, cIs, isN, wTr, blt, bLen, lenQ, bAbs, bMin, bMax, bSum, bAll, bAny, bSorted, bTuple, bList, bInt, nonE, mkT, mkL, dats, fns, wTg, setAll, setW, wipeG, idxW, slcW, itemsE, zipW, SS, List.map_cons, List.map_nil, List.length_cons, List.length_nil, Nat.zero_add, List.getElem?_cons_zero, List.getElem?_cons_succ, List.set_cons_zero, List.set_cons_succ, List.append_nil, List.nil_append, List.cons_append, List.replicate_zero, List.replicate_succ, Nat.sub_self, Nat.reduceSub, Nat.reduceAdd, Option.map_some, Option.map_none, List.take_length, wIf_dec, wIf_t, wIf_f, true_and, and_true, Nat.lt_irrefl, if_false, if_true, decide_eq_true_eq, decide_eq_false_iff_not, Bool.not_true, Bool.not_false, bne_self_eq_false, sz_le, Nat.reduceLeDiff, true_implies, not_true_eq_false, false_implies, implies_true, and_self, not_false_eq_true, wIf_not, at0, at1, at2, ix20, ix21, get_app, take_app, set_app, set_set, take_set, List.take_length, Int.reduceToNat, Int.reducePow, Int.reduceAdd, Int.reduceSub, Int.reduceMul, Int.reduceNeg, sp_fits_triangle]
    exact h
  · exact h.elim
theorem Fits.mul {a b c : Int} (h : Fits a b c) : MulOk a a ∧ MulOk b b ∧ MulOk c c := by
  obtain ⟨h1, h2, h3, h4, h5⟩ := h
  exact ⟨mul_l _ (by omega) (by omega), mul_l _ (by omega) (by omega), mul_l _ (by omega) (by omega)⟩
theorem ok_kind_in : Does SS 5 b_kind_in sp_kind_in := by
  intro ws st P R h
  unfold sp_kind_in at h
  split at h
  · rename_i a b c
    obtain ⟨hf, h⟩ := h
    obtain ⟨q1, q2, q3⟩ := hf.mul
    simp only [b_kind_in, env0, wSs, wS, wE, wAs, wCh, wO, wC, wIt, en0, exitOk, ex0, onD, asD, asL, asQ, onL, onQ, onI, onB, onC, onV, onS, onDL, on2I, bop, bAdd, bMul, cop, cEq, cLt, cLe, cGt, cGe, cIn, cIs, isN, wTr, blt, bLen, lenQ, bAbs, bMin, bMax, bSum, bAll, bAny, bSorted, bTuple, bList, bInt, nonE, mkT, mkL, dats, fns, wTg, setAll, setW, wipeG, idxW, slcW, itemsE, zipW, SS, List.map_cons, List.map_nil, List.length_cons, List.length_nil, Nat.zero_add, List.getElem?_cons_zero, List.getElem?_cons_succ, List.set_cons_zero, List.set_cons_succ, List.append_nil, List.nil_append, List.cons_append, List.replicate_zero, List.replicate_succ, Nat.sub_self, Nat.reduceSub, Nat.reduceAdd, Option.map_some, Option.map_none, List.take_length, wIf_dec, wIf_t, wIf_f, true_and, and_true, Nat.lt_irrefl, if_false, if_true, decide_eq_true_eq, decide_eq_false_iff_not, Bool.not_true, Bool.not_false, bne_self_eq_false, sz_le, Nat.reduceLeDiff, true_implies, not_true_eq_false, false_implies, implies_true, and_self, not_false_eq_true, wIf_not, at0, at1, at2, ix20, ix21, get_app, take_app, set_app, set_set, take_set, List.take_length, Int.reduceToNat, Int.reducePow, Int.reduceAdd, Int.reduceSub, Int.reduceMul, Int.reduceNeg]
    refine ⟨q1, q2, q3, fun z => ?_, fun z => ⟨fun z2 => ?_, fun z2 => ?_⟩⟩
    · simpa only [kindS, z, if_true] using h
    · simpa only [kindS, z, z2, if_false, if_true] using h
    · simpa only [kindS, z, z2, if_false] using h
  · exact h.elim
theorem ok_kind_of : Does SS 1 b_kind_of sp_kind_of := by
  intro ws st P R h
  unfold sp_kind_of sp_kind_in at h
  split at h
  · simp only [b_kind_of, env0, wSs, wS, wE, wAs, wCh, wO, wC, wIt, en0, exitOk, ex0, onD, asD, asL, asQ, onL, onQ, onI, onB, onC, onV, onS, onDL, on2I, bop, bAdd, bMul, cop, cEq, cLt, cLe, cGt, cGe, cIn, cIs, isN, wTr, blt, bLen, lenQ, bAbs, bMin, bMax, bSum, bAll, bAny, bSorted, bTuple, bList, bInt, nonE, mkT, mkL, dats, fns, wTg, setAll, setW, wipeG, idxW, slcW, itemsE, zipW, SS, List.map_cons, List.map_nil, List.length_cons, List.length_nil, Nat.zero_add, List.getElem?_cons_zero, List.getElem?_cons_succ, List.set_cons_zero, List.set_cons_succ, List.append_nil, List.nil_append, List.cons_append, List.replicate_zero, List.replicate_succ, Nat.sub_self, Nat.reduceSub, Nat.reduceAdd, Option.map_some, Option.map_none, List.take_length, wIf_dec, wIf_t, wIf_f, true_and, and_true, Nat.lt_irrefl, if_false, if_true, decide_eq_true_eq, decide_eq_false_iff_not, Bool.not_true, Bool.not_false, bne_self_eq_false, sz_le, Nat.reduceLeDiff, true_implies, not_true_eq_false, false_implies, implies_true, and_self, not_false_eq_true, wIf_not, at0, at1, at2, ix20, ix21, get_app, take_app, set_app, set_set, take_set, List.take_length, Int.reduceToNat, Int.reducePow, Int.reduceAdd, Int.reduceSub, Int.reduceMul, Int.reduceNeg, sp_need_triangle, sp_kind_in]
    exact ⟨h.1, h⟩
  · exact h.elim
theorem ok_need_right : Does SS 1 b_need_right sp_need_right := by
  intro ws st P R h
  unfold sp_need_right at h
  split at h
  · rename_i a b c
    obtain ⟨⟨hf, e⟩, h⟩ := h
    have ek : kindS a b c = "right" := by
      unfold kindS; rw [if_pos (by omega)]
    simp only [b_need_right, env0, wSs, wS, wE, wAs, wCh, wO, wC, wIt, en0, exitOk, ex0, onD, asD, asL, asQ, onL, onQ, onI, onB, onC, onV, onS, onDL, on2I, bop, bAdd, bMul, cop, cEq, cLt, cLe, cGt, cGe, cIn, cIs, isN, wTr, blt, bLen, lenQ, bAbs, bMin, bMax, bSum, bAll, bAny, bSorted, bTuple, bList, bInt, nonE, mkT, mkL, dats, fns, wTg, setAll, setW, wipeG, idxW, slcW, itemsE, zipW, SS, List.map_cons, List.map_nil, List.length_cons, List.length_nil, Nat.zero_add, List.getElem?_cons_zero, List.getElem?_cons_succ, List.set_cons_zero, List.set_cons_succ, List.append_nil, List.nil_append, List.cons_append, List.replicate_zero, List.replicate_succ, Nat.sub_self, Nat.reduceSub, Nat.reduceAdd, Option.map_some, Option.map_none, List.take_length, wIf_dec, wIf_t, wIf_f, true_and, and_true, Nat.lt_irrefl, if_false, if_true, decide_eq_true_eq, decide_eq_false_iff_not, Bool.not_true, Bool.not_false, bne_self_eq_false, sz_le, Nat.reduceLeDiff, true_implies, not_true_eq_false, false_implies, implies_true, and_self, not_false_eq_true, wIf_not, at0, at1, at2, ix20, ix21, get_app, take_app, set_app, set_set, take_set, List.take_length, Int.reduceToNat, Int.reducePow, Int.reduceAdd, Int.reduceSub, Int.reduceMul, Int.reduceNeg, sp_fits_triangle, sp_kind_in, ek]
    refine ⟨hf, hf, ?_⟩
    simp [eqOk, PyData.plain, PyData.depth, PyData.eqv, wIf, h]
  · exact h.elim
theorem ok_law_cup : Does SS 2 b_law_cup sp_law_cup := by
  intro ws st P R h
  unfold sp_law_cup at h
  split at h
  · rename_i xs
    obtain ⟨⟨ns, rfl, hl⟩, h⟩ := h
    have hs : 64 < sizeLine := by rw [sizeLine_eq]; decide
    have hat : ∃ i, L2.atI (List.map PyData.int ns ++ [PyData.int 0]) 0 = some (.int i) := by
      cases ns with
      | nil => exact ⟨0, at0⟩
      | cons n r => exact ⟨n, by simp only [List.map_cons, List.cons_append, at0]⟩
    obtain ⟨i, e⟩ := hat
    simp only [b_law_cup, env0, wSs, wS, wE, wAs, wCh, wO, wC, wIt, en0, exitOk, ex0, onD, asD, asL, asQ, onL, onQ, onI, onB, onC, onV, onS, onDL, on2I, bop, bAdd, bMul, cop, cEq, cLt, cLe, cGt, cGe, cIn, cIs, isN, wTr, blt, bLen, lenQ, bAbs, bMin, bMax, bSum, bAll, bAny, bSorted, bTuple, bList, bInt, nonE, mkT, mkL, dats, fns, wTg, setAll, setW, wipeG, idxW, slcW, itemsE, zipW, SS, List.map_cons, List.map_nil, List.length_cons, List.length_nil, Nat.zero_add, List.getElem?_cons_zero, List.getElem?_cons_succ, List.set_cons_zero, List.set_cons_succ, List.append_nil, List.nil_append, List.cons_append, List.replicate_zero, List.replicate_succ, Nat.sub_self, Nat.reduceSub, Nat.reduceAdd, Option.map_some, Option.map_none, List.take_length, wIf_dec, wIf_t, wIf_f, true_and, and_true, Nat.lt_irrefl, if_false, if_true, decide_eq_true_eq, decide_eq_false_iff_not, Bool.not_true, Bool.not_false, bne_self_eq_false, sz_le, Nat.reduceLeDiff, true_implies, not_true_eq_false, false_implies, implies_true, and_self, not_false_eq_true, wIf_not, at0, at1, at2, ix20, ix21, get_app, take_app, set_app, set_set, take_set, List.take_length, Int.reduceToNat, Int.reducePow, Int.reduceAdd, Int.reduceSub, Int.reduceMul, Int.reduceNeg, e, List.length_map, abs_nat]
    refine ⟨by omega, ⟨by decide, by decide, by decide⟩, fun z => ⟨div_of (by decide) (by decide), mul_r _ (by decide) (by decide), by decide, .inr (h _ _ ⟨?_, ?_, ?_⟩)⟩, fun z => ⟨mul_r _ (by decide) (by decide), by decide, .inr (h _ _ ⟨?_, ?_, ?_⟩)⟩⟩ <;> omega
  · exact h.elim
theorem ok_law_roll : Does SS 4 b_law_roll sp_law_roll := by
  intro ws st P R h
  unfold sp_law_roll at h
  split at h
  · rename_i c m
    obtain ⟨⟨a, b, ⟨ha, hb, hb2⟩, e⟩, hm, hm2, h⟩ := h
    simp only [b_law_roll, env0, wSs, wS, wE, wAs, wCh, wO, wC, wIt, en0, exitOk, ex0, onD, asD, asL, asQ, onL, onQ, onI, onB, onC, onV, onS, onDL, on2I, bop, bAdd, bMul, cop, cEq, cLt, cLe, cGt, cGe, cIn, cIs, isN, wTr, blt, bLen, lenQ, bAbs, bMin, bMax, bSum, bAll, bAny, bSorted, bTuple, bList, bInt, nonE, mkT, mkL, dats, fns, wTg, setAll, setW, wipeG, idxW, slcW, itemsE, zipW, SS, List.map_cons, List.map_nil, List.length_cons, List.length_nil, Nat.zero_add, List.getElem?_cons_zero, List.getElem?_cons_succ, List.set_cons_zero, List.set_cons_succ, List.append_nil, List.nil_append, List.cons_append, List.replicate_zero, List.replicate_succ, Nat.sub_self, Nat.reduceSub, Nat.reduceAdd, Option.map_some, Option.map_none, List.take_length, wIf_dec, wIf_t, wIf_f, true_and, and_true, Nat.lt_irrefl, if_false, if_true, decide_eq_true_eq, decide_eq_false_iff_not, Bool.not_true, Bool.not_false, bne_self_eq_false, sz_le, Nat.reduceLeDiff, true_implies, not_true_eq_false, false_implies, implies_true, and_self, not_false_eq_true, wIf_not, at0, at1, at2, ix20, ix21, get_app, take_app, set_app, set_set, take_set, List.take_length, Int.reduceToNat, Int.reducePow, Int.reduceAdd, Int.reduceSub, Int.reduceMul, Int.reduceNeg, e, set_get e]
    refine ⟨fun z => ⟨hm, div_of hm (by omega), h _ _ _ ⟨Int.ediv_nonneg ha (by omega), hb, hb2⟩ (Int.emod_nonneg _ (by omega)) (Int.emod_lt_of_pos _ hm)⟩, fun z => ⟨mul_r _ (by decide) (by decide), by decide, ?_, by decide, div_of (by decide) (by decide), hm, h _ _ _ ⟨ha, by omega, by omega⟩ (Int.emod_nonneg _ (by omega)) (Int.emod_lt_of_pos _ hm)⟩⟩
    exact mul_l _ (by omega) (by omega)
  · exact h.elim
theorem ok_law_sort : Does SS 1 b_law_sort sp_law_sort := by
  intro ws st P R h
  unfold sp_law_sort at h
  split at h
  · rename_i v
    simp only [b_law_sort, env0, wSs, wS, wE, wAs, wCh, wO, wC, wIt, en0, exitOk, ex0, onD, asD, asL, asQ, onL, onQ, onI, onB, onC, onV, onS, onDL, on2I, bop, bAdd, bMul, cop, cEq, cLt, cLe, cGt, cGe, cIn, cIs, isN, wTr, blt, bLen, lenQ, bAbs, bMin, bMax, bSum, bAll, bAny, bSorted, bTuple, bList, bInt, nonE, mkT, mkL, dats, fns, wTg, setAll, setW, wipeG, idxW, slcW, itemsE, zipW, SS, List.map_cons, List.map_nil, List.length_cons, List.length_nil, Nat.zero_add, List.getElem?_cons_zero, List.getElem?_cons_succ, List.set_cons_zero, List.set_cons_succ, List.append_nil, List.nil_append, List.cons_append, List.replicate_zero, List.replicate_succ, Nat.sub_self, Nat.reduceSub, Nat.reduceAdd, Option.map_some, Option.map_none, List.take_length, wIf_dec, wIf_t, wIf_f, true_and, and_true, Nat.lt_irrefl, if_false, if_true, decide_eq_true_eq, decide_eq_false_iff_not, Bool.not_true, Bool.not_false, bne_self_eq_false, sz_le, Nat.reduceLeDiff, true_implies, not_true_eq_false, false_implies, implies_true, and_self, not_false_eq_true, wIf_not, at0, at1, at2, ix20, ix21, get_app, take_app, set_app, set_set, take_set, List.take_length, Int.reduceToNat, Int.reducePow, Int.reduceAdd, Int.reduceSub, Int.reduceMul, Int.reduceNeg]
    cases v <;> simpa [isTyS, isTy, kd, wIf, sortN, isN] using h
  · exact h.elim
theorem rt_eq {n r : Int} (h1 : 0 ≤ r) (h2 : r * r ≤ n) (h3 : n < (r + 1) * (r + 1)) : rt n = r := by
  obtain ⟨k, rfl⟩ := Int.eq_ofNat_of_zero_le h1
  have hn : 0 ≤ n := Int.le_trans (Int.mul_nonneg h1 h1) h2
  obtain ⟨j, rfl⟩ := Int.eq_ofNat_of_zero_le hn
  unfold rt
  obtain ⟨q1, q2⟩ := fsq_ok j
  have e : fsq j = k := rt_uniq q1 q2 (by exact_mod_cast h2) (by exact_mod_cast h3)
  rw [show ((j : Nat) : Int).toNat = j from rfl, e]
theorem ok_law_root : Does SS 4 b_law_root sp_law_root := by
  intro ws st P R h
  unfold sp_law_root at h
  split at h
  · rename_i n
    obtain ⟨h1, h2, h⟩ := h
    have lt_sq : ∀ {x y : Int}, x * x < y * y → 0 ≤ y → x < y := fun {x y} h hy => by
      apply Int.not_le.mp; intro q
      have := Int.mul_le_mul q q hy (by omega)
      omega
    simp only [b_law_root, env0, wSs, wS, wE, wAs, wCh, wO, wC, wIt, en0, exitOk, ex0, onD, asD, asL, asQ, onL, onQ, onI, onB, onC, onV, onS, onDL, on2I, bop, bAdd, bMul, cop, cEq, cLt, cLe, cGt, cGe, cIn, cIs, isN, wTr, blt, bLen, lenQ, bAbs, bMin, bMax, bSum, bAll, bAny, bSorted, bTuple, bList, bInt, nonE, mkT, mkL, dats, fns, wTg, setAll, setW, wipeG, idxW, slcW, itemsE, zipW, SS, List.map_cons, List.map_nil, List.length_cons, List.length_nil, Nat.zero_add, List.getElem?_cons_zero, List.getElem?_cons_succ, List.set_cons_zero, List.set_cons_succ, List.append_nil, List.nil_append, List.cons_append, List.replicate_zero, List.replicate_succ, Nat.sub_self, Nat.reduceSub, Nat.reduceAdd, Option.map_some, Option.map_none, List.take_length, wIf_dec, wIf_t, wIf_f, true_and, and_true, Nat.lt_irrefl, if_false, if_true, decide_eq_true_eq, decide_eq_false_iff_not, Bool.not_true, Bool.not_false, bne_self_eq_false, sz_le, Nat.reduceLeDiff, true_implies, not_true_eq_false, false_implies, implies_true, and_self, not_false_eq_true, wIf_not, at0, at1, at2, ix20, ix21, get_app, take_app, set_app, set_set, take_set, List.take_length, Int.reduceToNat, Int.reducePow, Int.reduceAdd, Int.reduceSub, Int.reduceMul, Int.reduceNeg]
    refine whl_of (fun m Γ s => s = st ∧ ∃ hi : Int, ∃ x : Option Z.W, Γ = [some (.d (.int n)), some (.d (.int 0)), some (.d (.int hi)), x] ∧ 1 ≤ hi ∧ hi ≤ 2 ^ 41 ∧ m = (n + 1 - hi).toNat) _ ⟨rfl, 1, none, rfl, by decide, by decide, rfl⟩ ?_
    rintro m Γ s ⟨rfl, hi, x, rfl, g1, g2, rfl⟩
    simp only [l_law_root_0, env0, wSs, wS, wE, wAs, wCh, wO, wC, wIt, en0, exitOk, ex0, onD, asD, asL, asQ, onL, onQ, onI, onB, onC, onV, onS, onDL, on2I, bop, bAdd, bMul, cop, cEq, cLt, cLe, cGt, cGe, cIn, cIs, isN, wTr, blt, bLen, lenQ, bAbs, bMin, bMax, bSum, bAll, bAny, bSorted, bTuple, bList, bInt, nonE, mkT, mkL, dats, fns, wTg, setAll, setW, wipeG, idxW, slcW, itemsE, zipW, SS, List.map_cons, List.map_nil, List.length_cons, List.length_nil, Nat.zero_add, List.getElem?_cons_zero, List.getElem?_cons_succ, List.set_cons_zero, List.set_cons_succ, List.append_nil, List.nil_append, List.cons_append, List.replicate_zero, List.replicate_succ, Nat.sub_self, Nat.reduceSub, Nat.reduceAdd, Option.map_some, Option.map_none, List.take_length, wIf_dec, wIf_t, wIf_f, true_and, and_true, Nat.lt_irrefl, if_false, if_true, decide_eq_true_eq, decide_eq_false_iff_not, Bool.not_true, Bool.not_false, bne_self_eq_false, sz_le, Nat.reduceLeDiff, true_implies, not_true_eq_false, false_implies, implies_true, and_self, not_false_eq_true, wIf_not, at0, at1, at2, ix20, ix21, get_app, take_app, set_app, set_set, take_set, List.take_length, Int.reduceToNat, Int.reducePow, Int.reduceAdd, Int.reduceSub, Int.reduceMul, Int.reduceNeg]
    refine ⟨mul_l _ (by omega) (by omega), fun z => ?_, fun z => ?_⟩
    · have b1 : hi < 2 ^ 40 := lt_sq (by omega) (by decide)
      have b2 : hi ≤ hi * hi := by
        have := Int.mul_le_mul_of_nonneg_right g1 (show 0 ≤ hi by omega)
        omega
      exact ⟨mul_l _ (by omega) (by omega), _, by omega, hi * 2, x, rfl, by omega, by omega, rfl⟩
    · refine whl_of (fun m Γ s' => s' = s ∧ ∃ lo hi : Int, ∃ x : Option Z.W, Γ = [some (.d (.int n)), some (.d (.int lo)), some (.d (.int hi)), x] ∧ 0 ≤ lo ∧ lo < hi ∧ hi ≤ 2 ^ 41 ∧ lo * lo ≤ n ∧ n < hi * hi ∧ m = (hi - lo).toNat) _ ⟨rfl, 0, hi, x, rfl, by decide, by omega, g2, by omega, by omega, rfl⟩ ?_
      clear x z
      rintro m Γ s ⟨rfl, lo, hi, x, rfl, k1, k2, k3, k4, k5, rfl⟩
      simp only [l_law_root_1, env0, wSs, wS, wE, wAs, wCh, wO, wC, wIt, en0, exitOk, ex0, onD, asD, asL, asQ, onL, onQ, onI, onB, onC, onV, onS, onDL, on2I, bop, bAdd, bMul, cop, cEq, cLt, cLe, cGt, cGe, cIn, cIs, isN, wTr, blt, bLen, lenQ, bAbs, bMin, bMax, bSum, bAll, bAny, bSorted, bTuple, bList, bInt, nonE, mkT, mkL, dats, fns, wTg, setAll, setW, wipeG, idxW, slcW, itemsE, zipW, SS, List.map_cons, List.map_nil, List.length_cons, List.length_nil, Nat.zero_add, List.getElem?_cons_zero, List.getElem?_cons_succ, List.set_cons_zero, List.set_cons_succ, List.append_nil, List.nil_append, List.cons_append, List.replicate_zero, List.replicate_succ, Nat.sub_self, Nat.reduceSub, Nat.reduceAdd, Option.map_some, Option.map_none, List.take_length, wIf_dec, wIf_t, wIf_f, true_and, and_true, Nat.lt_irrefl, if_false, if_true, decide_eq_true_eq, decide_eq_false_iff_not, Bool.not_true, Bool.not_false, bne_self_eq_false, sz_le, Nat.reduceLeDiff, true_implies, not_true_eq_false, false_implies, implies_true, and_self, not_false_eq_true, wIf_not, at0, at1, at2, ix20, ix21, get_app, take_app, set_app, set_set, take_set, List.take_length, Int.reduceToNat, Int.reducePow, Int.reduceAdd, Int.reduceSub, Int.reduceMul, Int.reduceNeg]
      refine ⟨fun z => ⟨div_of (by decide) (by decide), mul_l _ (by omega) (by omega), fun z2 => ?_, fun z2 => ?_⟩, fun z => ?_⟩
      · exact ⟨_, by omega, _, hi, _, rfl, by omega, by omega, k3, z2, k5, rfl⟩
      · exact ⟨_, by omega, lo, _, _, rfl, by omega, by omega, by omega, k4, by omega, rfl⟩
      · have e : hi = lo + 1 := by omega
        subst e
        rw [rt_eq k1 k4 k5] at h
        exact h
  · exact h.elim
theorem rt_lt {n : Int} (h : 0 ≤ n) (h2 : n < 2 ^ 80) : rt n < 2 ^ 40 := by
  have h3 := rt_sq_le h
  apply Int.not_le.mp; intro q
  have := Int.mul_le_mul q q (by decide) (rt_nn n)
  omega
theorem ok_root_in : Does SS 4 b_root_in sp_root_in := by
  intro ws st P R h
  unfold sp_root_in sp_law_root at h
  split at h
  · rename_i n
    obtain ⟨h1, h2, h⟩ := h
    have lt_sq : ∀ {x y : Int}, x * x < y * y → 0 ≤ y → x < y := fun {x y} h hy => by
      apply Int.not_le.mp; intro q
      have := Int.mul_le_mul q q hy (by omega)
      omega
    simp only [b_root_in, env0, wSs, wS, wE, wAs, wCh, wO, wC, wIt, en0, exitOk, ex0, onD, asD, asL, asQ, onL, onQ, onI, onB, onC, onV, onS, onDL, on2I, bop, bAdd, bMul, cop, cEq, cLt, cLe, cGt, cGe, cIn, cIs, isN, wTr, blt, bLen, lenQ, bAbs, bMin, bMax, bSum, bAll, bAny, bSorted, bTuple, bList, bInt, nonE, mkT, mkL, dats, fns, wTg, setAll, setW, wipeG, idxW, slcW, itemsE, zipW, SS, List.map_cons, List.map_nil, List.length_cons, List.length_nil, Nat.zero_add, List.getElem?_cons_zero, List.getElem?_cons_succ, List.set_cons_zero, List.set_cons_succ, List.append_nil, List.nil_append, List.cons_append, List.replicate_zero, List.replicate_succ, Nat.sub_self, Nat.reduceSub, Nat.reduceAdd, Option.map_some, Option.map_none, List.take_length, wIf_dec, wIf_t, wIf_f, true_and, and_true, Nat.lt_irrefl, if_false, if_true, decide_eq_true_eq, decide_eq_false_iff_not, Bool.not_true, Bool.not_false, bne_self_eq_false, sz_le, Nat.reduceLeDiff, true_implies, not_true_eq_false, false_implies, implies_true, and_self, not_false_eq_true, wIf_not, at0, at1, at2, ix20, ix21, get_app, take_app, set_app, set_set, take_set, List.take_length, Int.reduceToNat, Int.reducePow, Int.reduceAdd, Int.reduceSub, Int.reduceMul, Int.reduceNeg]
    refine whl_of (fun m Γ s => s = st ∧ ∃ hi : Int, ∃ x : Option Z.W, Γ = [some (.d (.int n)), some (.d (.int 0)), some (.d (.int hi)), x] ∧ 1 ≤ hi ∧ hi ≤ 2 ^ 41 ∧ m = (n + 1 - hi).toNat) _ ⟨rfl, 1, none, rfl, by decide, by decide, rfl⟩ ?_
    rintro m Γ s ⟨rfl, hi, x, rfl, g1, g2, rfl⟩
    simp only [l_root_in_0, env0, wSs, wS, wE, wAs, wCh, wO, wC, wIt, en0, exitOk, ex0, onD, asD, asL, asQ, onL, onQ, onI, onB, onC, onV, onS, onDL, on2I, bop, bAdd, bMul, cop, cEq, cLt, cLe, cGt, cGe, cIn, cIs, isN, wTr, blt, bLen, lenQ, bAbs, bMin, bMax, bSum, bAll, bAny, bSorted, bTuple, bList, bInt, nonE, mkT, mkL, dats, fns, wTg, setAll, setW, wipeG, idxW, slcW, itemsE, zipW, SS, List.map_cons, List.map_nil, List.length_cons, List.length_nil, Nat.zero_add, List.getElem?_cons_zero, List.getElem?_cons_succ, List.set_cons_zero, List.set_cons_succ, List.append_nil, List.nil_append, List.cons_append, List.replicate_zero, List.replicate_succ, Nat.sub_self, Nat.reduceSub, Nat.reduceAdd, Option.map_some, Option.map_none, List.take_length, wIf_dec, wIf_t, wIf_f, true_and, and_true, Nat.lt_irrefl, if_false, if_true, decide_eq_true_eq, decide_eq_false_iff_not, Bool.not_true, Bool.not_false, bne_self_eq_false, sz_le, Nat.reduceLeDiff, true_implies, not_true_eq_false, false_implies, implies_true, and_self, not_false_eq_true, wIf_not, at0, at1, at2, ix20, ix21, get_app, take_app, set_app, set_set, take_set, List.take_length, Int.reduceToNat, Int.reducePow, Int.reduceAdd, Int.reduceSub, Int.reduceMul, Int.reduceNeg]
    refine ⟨mul_l _ (by omega) (by omega), fun z => ?_, fun z => ?_⟩
    · have b1 : hi < 2 ^ 40 := lt_sq (by omega) (by decide)
      have b2 : hi ≤ hi * hi := by
        have := Int.mul_le_mul_of_nonneg_right g1 (show 0 ≤ hi by omega)
        omega
      exact ⟨mul_l _ (by omega) (by omega), _, by omega, 2 * hi, x, rfl, by omega, by omega, rfl⟩
    · refine whl_of (fun m Γ s' => s' = s ∧ ∃ lo hi : Int, ∃ x : Option Z.W, Γ = [some (.d (.int n)), some (.d (.int lo)), some (.d (.int hi)), x] ∧ 0 ≤ lo ∧ lo < hi ∧ hi ≤ 2 ^ 41 ∧ lo * lo ≤ n ∧ n < hi * hi ∧ m = (hi - lo).toNat) _ ⟨rfl, 0, hi, x, rfl, by decide, by omega, g2, by omega, by omega, rfl⟩ ?_
      clear x z
      rintro m Γ s ⟨rfl, lo, hi, x, rfl, k1, k2, k3, k4, k5, rfl⟩
      simp only [l_root_in_1, env0, wSs, wS, wE, wAs, wCh, wO, wC, wIt, en0, exitOk, ex0, onD, asD, asL, asQ, onL, onQ, onI, onB, onC, onV, onS, onDL, on2I, bop, bAdd, bMul, cop, cEq, cLt, cLe, cGt, cGe, cIn, cIs, isN, wTr, blt, bLen, lenQ, bAbs, bMin, bMax, bSum, bAll, bAny, bSorted, bTuple, bList, bInt, nonE, mkT, mkL, dats, fns, wTg, setAll, setW, wipeG, idxW, slcW, itemsE, zipW, SS, List.map_cons, List.map_nil, List.length_cons, List.length_nil, Nat.zero_add, List.getElem?_cons_zero, List.getElem?_cons_succ, List.set_cons_zero, List.set_cons_succ, List.append_nil, List.nil_append, List.cons_append, List.replicate_zero, List.replicate_succ, Nat.sub_self, Nat.reduceSub, Nat.reduceAdd, Option.map_some, Option.map_none, List.take_length, wIf_dec, wIf_t, wIf_f, true_and, and_true, Nat.lt_irrefl, if_false, if_true, decide_eq_true_eq, decide_eq_false_iff_not, Bool.not_true, Bool.not_false, bne_self_eq_false, sz_le, Nat.reduceLeDiff, true_implies, not_true_eq_false, false_implies, implies_true, and_self, not_false_eq_true, wIf_not, at0, at1, at2, ix20, ix21, get_app, take_app, set_app, set_set, take_set, List.take_length, Int.reduceToNat, Int.reducePow, Int.reduceAdd, Int.reduceSub, Int.reduceMul, Int.reduceNeg]
      refine ⟨fun z => ⟨div_of (by decide) (by decide), mul_l _ (by omega) (by omega), fun z2 => ?_, fun z2 => ?_⟩, fun z => ?_⟩
      · exact ⟨_, by omega, _, hi, _, rfl, by omega, by omega, k3, z2, k5, rfl⟩
      · exact ⟨_, by omega, lo, _, _, rfl, by omega, by omega, by omega, k4, by omega, rfl⟩
      · have e : hi = lo + 1 := by omega
        subst e
        rw [rt_eq k1 k4 k5] at h
        exact h
  · exact h.elim
theorem ok_is_square_in : Does SS 1 b_is_square_in sp_is_square_in := by
  intro ws st P R h
  unfold sp_is_square_in at h
  split at h
  · rename_i n
    obtain ⟨h1, h2, h⟩ := h
    have hp : L2.CPow (rt n) 2 := by
      have q1 := rt_nn n
      have q2 := rt_lt h1 h2
      exact ⟨by decide, by decide, by omega⟩
    have e : rt n ^ Int.toNat 2 = rt n * rt n := by show rt n ^ 2 = _; rw [Int.pow_succ, Int.pow_succ, Int.pow_zero, Int.one_mul]
    simp only [b_is_square_in, env0, wSs, wS, wE, wAs, wCh, wO, wC, wIt, en0, exitOk, ex0, onD, asD, asL, asQ, onL, onQ, onI, onB, onC, onV, onS, onDL, on2I, bop, bAdd, bMul, cop, cEq, cLt, cLe, cGt, cGe, cIn, cIs, isN, wTr, blt, bLen, lenQ, bAbs, bMin, bMax, bSum, bAll, bAny, bSorted, bTuple, bList, bInt, nonE, mkT, mkL, dats, fns, wTg, setAll, setW, wipeG, idxW, slcW, itemsE, zipW, SS, List.map_cons, List.map_nil, List.length_cons, List.length_nil, Nat.zero_add, List.getElem?_cons_zero, List.getElem?_cons_succ, List.set_cons_zero, List.set_cons_succ, List.append_nil, List.nil_append, List.cons_append, List.replicate_zero, List.replicate_succ, Nat.sub_self, Nat.reduceSub, Nat.reduceAdd, Option.map_some, Option.map_none, List.take_length, wIf_dec, wIf_t, wIf_f, true_and, and_true, Nat.lt_irrefl, if_false, if_true, decide_eq_true_eq, decide_eq_false_iff_not, Bool.not_true, Bool.not_false, bne_self_eq_false, sz_le, Nat.reduceLeDiff, true_implies, not_true_eq_false, false_implies, implies_true, and_self, not_false_eq_true, wIf_not, at0, at1, at2, ix20, ix21, get_app, take_app, set_app, set_set, take_set, List.take_length, Int.reduceToNat, Int.reducePow, Int.reduceAdd, Int.reduceSub, Int.reduceMul, Int.reduceNeg, sp_root_in, sp_law_root, hp]
    refine ⟨fun _ => ⟨h1, h2, ?_⟩, fun z => absurd h1 z⟩
    simp only [show rt n ^ 2 = rt n * rt n from e]
    exact h
  · exact h.elim
theorem ok_need_side : Does SS 1 b_need_side sp_need_side := by
  intro ws st P R h
  unfold sp_need_side at h
  split at h
  · obtain ⟨h1, h2⟩ := h
    simp only [b_need_side, env0, wSs, wS, wE, wAs, wCh, wO, wC, wIt, en0, exitOk, ex0, onD, asD, asL, asQ, onL, onQ, onI, onB, onC, onV, onS, onDL, on2I, bop, bAdd, bMul, cop, cEq, cLt, cLe, cGt, cGe, cIn, cIs, isN, wTr, blt, bLen, lenQ, bAbs, bMin, bMax, bSum, bAll, bAny, bSorted, bTuple, bList, bInt, nonE, mkT, mkL, dats, fns, wTg, setAll, setW, wipeG, idxW, slcW, itemsE, zipW, SS, List.map_cons, List.map_nil, List.length_cons, List.length_nil, Nat.zero_add, List.getElem?_cons_zero, List.getElem?_cons_succ, List.set_cons_zero, List.set_cons_succ, List.append_nil, List.nil_append, List.cons_append, List.replicate_zero, List.replicate_succ, Nat.sub_self, Nat.reduceSub, Nat.reduceAdd, Option.map_some, Option.map_none, List.take_length, wIf_dec, wIf_t, wIf_f, true_and, and_true, Nat.lt_irrefl, if_false, if_true, decide_eq_true_eq, decide_eq_false_iff_not, Bool.not_true, Bool.not_false, bne_self_eq_false, sz_le, Nat.reduceLeDiff, true_implies, not_true_eq_false, false_implies, implies_true, and_self, not_false_eq_true, wIf_not, at0, at1, at2, ix20, ix21, get_app, take_app, set_app, set_set, take_set, List.take_length, Int.reduceToNat, Int.reducePow, Int.reduceAdd, Int.reduceSub, Int.reduceMul, Int.reduceNeg, sp_is_side, h1]
    exact h2
  · exact h.elim
theorem ok_times_in : Does SS 3 b_times_in sp_times_in := by
  intro ws st P R h
  unfold sp_times_in at h
  split at h
  · rename_i a b c k
    obtain ⟨h1, h2, h⟩ := h
    have m : ∀ i : Int, MulOk i k := fun i => mul_r _ (by omega) (by omega)
    simp only [b_times_in, c_times_in_0, env0, wSs, wS, wE, wAs, wCh, wO, wC, wIt, en0, exitOk, ex0, onD, asD, asL, asQ, onL, onQ, onI, onB, onC, onV, onS, onDL, on2I, bop, bAdd, bMul, cop, cEq, cLt, cLe, cGt, cGe, cIn, cIs, isN, wTr, blt, bLen, lenQ, bAbs, bMin, bMax, bSum, bAll, bAny, bSorted, bTuple, bList, bInt, nonE, mkT, mkL, dats, fns, wTg, setAll, setW, wipeG, idxW, slcW, itemsE, zipW, SS, List.map_cons, List.map_nil, List.length_cons, List.length_nil, Nat.zero_add, List.getElem?_cons_zero, List.getElem?_cons_succ, List.set_cons_zero, List.set_cons_succ, List.append_nil, List.nil_append, List.cons_append, List.replicate_zero, List.replicate_succ, Nat.sub_self, Nat.reduceSub, Nat.reduceAdd, Option.map_some, Option.map_none, List.take_length, wIf_dec, wIf_t, wIf_f, true_and, and_true, Nat.lt_irrefl, if_false, if_true, decide_eq_true_eq, decide_eq_false_iff_not, Bool.not_true, Bool.not_false, bne_self_eq_false, sz_le, Nat.reduceLeDiff, true_implies, not_true_eq_false, false_implies, implies_true, and_self, not_false_eq_true, wIf_not, at0, at1, at2, ix20, ix21, get_app, take_app, set_app, set_set, take_set, List.take_length, Int.reduceToNat, Int.reducePow, Int.reduceAdd, Int.reduceSub, Int.reduceMul, Int.reduceNeg, wLoop, m]
    have hs : 3 < sizeLine := by rw [sizeLine_eq]; decide
    simp [h]
    omega
  · exact h.elim
theorem ok_times_of : Does SS 2 b_times_of sp_times_of := by
  intro ws st P R h
  unfold sp_times_of at h
  split at h
  · rename_i a b c k
    obtain ⟨hf, h1, h2, h3, h⟩ := h
    have w : whole (.int k) 1 1000000 = true := by simp only [whole, Bool.and_eq_true, decide_eq_true_eq]; omega
    simp only [b_times_of, env0, wSs, wS, wE, wAs, wCh, wO, wC, wIt, en0, exitOk, ex0, onD, asD, asL, asQ, onL, onQ, onI, onB, onC, onV, onS, onDL, on2I, bop, bAdd, bMul, cop, cEq, cLt, cLe, cGt, cGe, cIn, cIs, isN, wTr, blt, bLen, lenQ, bAbs, bMin, bMax, bSum, bAll, bAny, bSorted, bTuple, bList, bInt, nonE, mkT, mkL, dats, fns, wTg, setAll, setW, wipeG, idxW, slcW, itemsE, zipW, SS, List.map_cons, List.map_nil, List.length_cons, List.length_nil, Nat.zero_add, List.getElem?_cons_zero, List.getElem?_cons_succ, List.set_cons_zero, List.set_cons_succ, List.append_nil, List.nil_append, List.cons_append, List.replicate_zero, List.replicate_succ, Nat.sub_self, Nat.reduceSub, Nat.reduceAdd, Option.map_some, Option.map_none, List.take_length, wIf_dec, wIf_t, wIf_f, true_and, and_true, Nat.lt_irrefl, if_false, if_true, decide_eq_true_eq, decide_eq_false_iff_not, Bool.not_true, Bool.not_false, bne_self_eq_false, sz_le, Nat.reduceLeDiff, true_implies, not_true_eq_false, false_implies, implies_true, and_self, not_false_eq_true, wIf_not, at0, at1, at2, ix20, ix21, get_app, take_app, set_app, set_set, take_set, List.take_length, Int.reduceToNat, Int.reducePow, Int.reduceAdd, Int.reduceSub, Int.reduceMul, Int.reduceNeg, sp_need_triangle, sp_need_whole, sp_times_in, w, show ¬ 1000000000 < c * k by omega]
    exact ⟨hf, mul_r _ (by omega) (by omega), h1, h2, h⟩
  · exact h.elim
theorem ok_law_right : Does SS 2 b_law_right sp_law_right := by
  intro ws st P R h
  unfold sp_law_right at h
  split at h
  · rename_i a b
    obtain ⟨h1, h2, h3, h⟩ := h
    have hs : 3 ≤ sizeLine := by rw [sizeLine_eq]; decide
    have q1 : 0 ≤ b * b := Int.mul_nonneg (by omega) (by omega)
    have q2 : 0 ≤ (a - b) * (a - b) := Int.mul_nonneg (by omega) (by omega)
    have q3 : 2 * a * b ≤ a * a + b * b := by grind
    simp only [b_law_right, env0, wSs, wS, wE, wAs, wCh, wO, wC, wIt, en0, exitOk, ex0, onD, asD, asL, asQ, onL, onQ, onI, onB, onC, onV, onS, onDL, on2I, bop, bAdd, bMul, cop, cEq, cLt, cLe, cGt, cGe, cIn, cIs, isN, wTr, blt, bLen, lenQ, bAbs, bMin, bMax, bSum, bAll, bAny, bSorted, bTuple, bList, bInt, nonE, mkT, mkL, dats, fns, wTg, setAll, setW, wipeG, idxW, slcW, itemsE, zipW, SS, List.map_cons, List.map_nil, List.length_cons, List.length_nil, Nat.zero_add, List.getElem?_cons_zero, List.getElem?_cons_succ, List.set_cons_zero, List.set_cons_succ, List.append_nil, List.nil_append, List.cons_append, List.replicate_zero, List.replicate_succ, Nat.sub_self, Nat.reduceSub, Nat.reduceAdd, Option.map_some, Option.map_none, List.take_length, wIf_dec, wIf_t, wIf_f, true_and, and_true, Nat.lt_irrefl, if_false, if_true, decide_eq_true_eq, decide_eq_false_iff_not, Bool.not_true, Bool.not_false, bne_self_eq_false, sz_le, Nat.reduceLeDiff, true_implies, not_true_eq_false, false_implies, implies_true, and_self, not_false_eq_true, wIf_not, at0, at1, at2, ix20, ix21, get_app, take_app, set_app, set_set, take_set, List.take_length, Int.reduceToNat, Int.reducePow, Int.reduceAdd, Int.reduceSub, Int.reduceMul, Int.reduceNeg]
    refine ⟨mul_l _ (by omega) (by omega), mul_l _ (by omega) (by omega), mul_l _ (by omega) (by omega), mul_l _ (by omega) (by omega), mul_l _ (by omega) (by omega), mul_l _ (by omega) (by omega), sortOk3 _ _ _, ?_⟩
    rw [srt3 _ _ _ (by omega) q3]
    exact h
  · exact h.elim
theorem ok_law_is_triangle : Does SS 2 b_law_is_triangle sp_law_is_triangle := by
  intro ws st P R h
  unfold sp_law_is_triangle at h
  split at h
  · rename_i a b c
    obtain ⟨hf, h⟩ := h
    obtain ⟨h1, h2, h3, h4, h5⟩ := hf
    have hs : 3 < sizeLine := by rw [sizeLine_eq]; decide
    have hp : L2.CPow 10 9 := ⟨by decide, by decide, by decide⟩
    simp only [b_law_is_triangle, c_law_is_triangle_0, env0, wSs, wS, wE, wAs, wCh, wO, wC, wIt, en0, exitOk, ex0, onD, asD, asL, asQ, onL, onQ, onI, onB, onC, onV, onS, onDL, on2I, bop, bAdd, bMul, cop, cEq, cLt, cLe, cGt, cGe, cIn, cIs, isN, wTr, blt, bLen, lenQ, bAbs, bMin, bMax, bSum, bAll, bAny, bSorted, bTuple, bList, bInt, nonE, mkT, mkL, dats, fns, wTg, setAll, setW, wipeG, idxW, slcW, itemsE, zipW, SS, List.map_cons, List.map_nil, List.length_cons, List.length_nil, Nat.zero_add, List.getElem?_cons_zero, List.getElem?_cons_succ, List.set_cons_zero, List.set_cons_succ, List.append_nil, List.nil_append, List.cons_append, List.replicate_zero, List.replicate_succ, Nat.sub_self, Nat.reduceSub, Nat.reduceAdd, Option.map_some, Option.map_none, List.take_length, wIf_dec, wIf_t, wIf_f, true_and, and_true, Nat.lt_irrefl, if_false, if_true, decide_eq_true_eq, decide_eq_false_iff_not, Bool.not_true, Bool.not_false, bne_self_eq_false, sz_le, Nat.reduceLeDiff, true_implies, not_true_eq_false, false_implies, implies_true, and_self, not_false_eq_true, wIf_not, at0, at1, at2, ix20, ix21, get_app, take_app, set_app, set_set, take_set, List.take_length, Int.reduceToNat, Int.reducePow, Int.reduceAdd, Int.reduceSub, Int.reduceMul, Int.reduceNeg, sp_law_sort, sortN, wLoop, isTy, isTyS, kd, h1, h2, h3, hp, h5, show a ≤ 1000000000 by omega, show b ≤ 1000000000 by omega, show 1 ≤ b by omega, show 1 ≤ c by omega]
    simp [eqOk, PyData.plain, PyData.plainAll, PyData.depth, PyData.depthAll, PyData.eqv, PyData.eqvAll, wIf, h, h2, h3, h4]
  · exact h.elim
theorem ok_law_is_right : Does SS 1 b_law_is_right sp_law_is_right := by
  intro ws st P R h
  unfold sp_law_is_right at h
  split at h
  · rename_i a b c
    obtain ⟨⟨hf, e⟩, h⟩ := h
    obtain ⟨q1, q2, q3⟩ := hf.mul
    simp only [b_law_is_right, env0, wSs, wS, wE, wAs, wCh, wO, wC, wIt, en0, exitOk, ex0, onD, asD, asL, asQ, onL, onQ, onI, onB, onC, onV, onS, onDL, on2I, bop, bAdd, bMul, cop, cEq, cLt, cLe, cGt, cGe, cIn, cIs, isN, wTr, blt, bLen, lenQ, bAbs, bMin, bMax, bSum, bAll, bAny, bSorted, bTuple, bList, bInt, nonE, mkT, mkL, dats, fns, wTg, setAll, setW, wipeG, idxW, slcW, itemsE, zipW, SS, List.map_cons, List.map_nil, List.length_cons, List.length_nil, Nat.zero_add, List.getElem?_cons_zero, List.getElem?_cons_succ, List.set_cons_zero, List.set_cons_succ, List.append_nil, List.nil_append, List.cons_append, List.replicate_zero, List.replicate_succ, Nat.sub_self, Nat.reduceSub, Nat.reduceAdd, Option.map_some, Option.map_none, List.take_length, wIf_dec, wIf_t, wIf_f, true_and, and_true, Nat.lt_irrefl, if_false, if_true, decide_eq_true_eq, decide_eq_false_iff_not, Bool.not_true, Bool.not_false, bne_self_eq_false, sz_le, Nat.reduceLeDiff, true_implies, not_true_eq_false, false_implies, implies_true, and_self, not_false_eq_true, wIf_not, at0, at1, at2, ix20, ix21, get_app, take_app, set_app, set_set, take_set, List.take_length, Int.reduceToNat, Int.reducePow, Int.reduceAdd, Int.reduceSub, Int.reduceMul, Int.reduceNeg, sp_law_is_triangle]
    refine ⟨hf, ?_⟩
    simp [q1, q2, q3, e, h, wIf]
  · exact h.elim
end Q81
namespace Q81
open PySem Z
theorem flat_ok : ∀ (k : Nat) (d : PyData), flat k d = true → d.plain = true ∧ d.depth ≤ k ∧ PyData.eqv d d = true := by
  intro k
  induction k with
  | zero => intro d h; cases d <;> simp_all [flat, PyData.plain, PyData.depth, PyData.eqv]
  | succ k ih =>
    have all : ∀ xs : List PyData, flats k xs = true → PyData.plainAll xs = true ∧ PyData.depthAll xs ≤ k ∧ PyData.eqvAll xs xs = true := by
      intro xs
      induction xs with
      | nil => intro _; simp [PyData.plainAll, PyData.depthAll, PyData.eqvAll]
      | cons x xs jh =>
        intro h
        simp only [flats, Bool.and_eq_true] at h
        obtain ⟨a1, a2, a3⟩ := ih x h.1
        obtain ⟨b1, b2, b3⟩ := jh h.2
        simp only [PyData.plainAll, PyData.depthAll, PyData.eqvAll, a1, b1, a3, b3, Bool.and_self]
        refine ⟨trivial, ?_, trivial⟩
        omega
    intro d h
    cases d with
    | tuple xs =>
      simp only [flat, Bool.and_eq_true] at h
      obtain ⟨b1, b2, b3⟩ := all xs h.1
      simp only [PyData.plain, PyData.depth, PyData.eqv, b1, b3]
      refine ⟨trivial, ?_, trivial⟩
      omega
    | list xs =>
      simp only [flat, Bool.and_eq_true] at h
      obtain ⟨b1, b2, b3⟩ := all xs h.1
      simp only [PyData.plain, PyData.depth, PyData.eqv, b1, b3]
      refine ⟨trivial, ?_, trivial⟩
      omega
    | _ => simp_all [flat, PyData.plain, PyData.depth, PyData.eqv]
theorem zipD_mem {xs : List PyData} {k : Nat} (h : flats k xs = true) : ∀ w, w ∈ zipD xs xs → ∃ d, w = .d (.tuple [d, d]) ∧ flat k d = true := by
  induction xs with
  | nil => intro w hw; simp [zipD] at hw
  | cons x xs ih =>
    intro w hw
    simp only [flats, Bool.and_eq_true] at h
    simp only [zipD, List.zipWith_cons_cons, List.mem_cons] at hw
    rcases hw with rfl | hw
    · exact ⟨x, rfl, h.1⟩
    · exact ih h.2 w hw
theorem zipD_len (xs : List PyData) : (zipD xs xs).length = xs.length := by simp [zipD]
theorem none_all {α β : Type} (ws : List α) : ws.filterMap (fun _ => (none : Option β)) = [] := by
  induction ws with
  | nil => rfl
  | cons _ _ ih => simpa using ih
theorem eq_nil : eqOk (.list []) (.list []) ∧ PyData.eqv (.list []) (.list []) = true := by
  simp [eqOk, PyData.plain, PyData.plainAll, PyData.depth, PyData.depthAll, PyData.eqv, PyData.eqvAll]
theorem ok_law_like_0 : Does SS 5 b_law_like_0 (sp_law_like 0) := by
  intro ws st P R h
  unfold sp_law_like at h
  split at h
  · rename_i a b
    obtain ⟨rfl, hf, h⟩ := h
    have hs2 : 2 ≤ sizeLine := by rw [sizeLine_eq]; decide
    obtain ⟨q1, q2, q3⟩ := flat_ok _ _ hf
    simp only [b_law_like_0, env0, wSs, wS, wE, wAs, wCh, wO, wC, wIt, en0, exitOk, ex0, onD, asD, asL, asQ, onL, onQ, onI, onB, onC, onV, onS, onDL, on2I, bop, bAdd, bMul, cop, cEq, cLt, cLe, cGt, cGe, cIn, cIs, isN, wTr, blt, bLen, lenQ, bAbs, bMin, bMax, bSum, bAll, bAny, bSorted, bTuple, bList, bInt, nonE, mkT, mkL, dats, fns, wTg, setAll, setW, wipeG, idxW, slcW, itemsE, zipW, SS, List.map_cons, List.map_nil, List.length_cons, List.length_nil, Nat.zero_add, List.getElem?_cons_zero, List.getElem?_cons_succ, List.set_cons_zero, List.set_cons_succ, List.append_nil, List.nil_append, List.cons_append, List.replicate_zero, List.replicate_succ, Nat.sub_self, Nat.reduceSub, Nat.reduceAdd, Option.map_some, Option.map_none, List.take_length, wIf_dec, wIf_t, wIf_f, true_and, and_true, Nat.lt_irrefl, if_false, if_true, decide_eq_true_eq, decide_eq_false_iff_not, Bool.not_true, Bool.not_false, bne_self_eq_false, sz_le, Nat.reduceLeDiff, true_implies, not_true_eq_false, false_implies, implies_true, and_self, not_false_eq_true, wIf_not, at0, at1, at2, ix20, ix21, get_app, take_app, set_app, set_set, take_set, List.take_length, Int.reduceToNat, Int.reducePow, Int.reduceAdd, Int.reduceSub, Int.reduceMul, Int.reduceNeg, sp_law_sort]
    cases a with
    | tuple xs => simp [flat] at hf
    | list xs => simp [flat] at hf
    | dict xs => simp [flat] at hf
    | _ =>
      simp [sortN, inOk, PyData.plain, PyData.plainAll, PyData.depth, PyData.depthAll, PyData.eqv, wIf, eqOk, h, hs2]
  · exact h.elim
end Q81
namespace Q81
open PySem Z
theorem ok_law_like_1 : Does SS 5 b_law_like_1 (sp_law_like 1) := by
  intro ws st P R h
  unfold sp_law_like at h
  split at h
  · rename_i a b
    obtain ⟨rfl, hf, h⟩ := h
    have hs : 1000000 ≤ sizeLine := by rw [sizeLine_eq]; decide
    have comp : ∀ (xs : List PyData) (Γ : Env') (s : Store) (R' : XP), flats 0 xs = true → xs.length ≤ 1000000 → ∀ (Q : Post), (Q (.d (.list [])) s) →
        (Γ[0]? = some (some (.d (.tuple xs))) ∧ Γ[1]? = some (some (.d (.tuple xs))) ∨ Γ[0]? = some (some (.d (.list xs))) ∧ Γ[1]? = some (some (.d (.list xs)))) → Γ.length = 5 → wE SS c_law_like_1_0 Γ s Q R' := by
      intro xs Γ s R' h1 h2 Q hQ hg hl
      have go : wLoop (fun x s2 K => wTg (.tup [3, 4]) x (wipeG Γ ([("first", 3), ("second", 4)].map (·.2))) s2 fun Γ' => wC SS (.some (.not (.call 28 (.cons (.var 3) (.cons (.var 4) .nil))))) Γ' s2 (fun t s3 => wIf t (wE SS (.con (.int 1)) Γ' s3 (fun w s4 => onV w fun y => K (some y) s4) fun _ _ => False) (K none s3)) fun _ _ => False) (fun ds s2 => Q (.d (.list ds)) s2) (zipD xs xs) [] s := by
        refine wLoop_map (fun _ => none) _ _ (fun x hx K hK => ?_) (by rw [zipD_len]; simp; omega) (by rw [none_all]; exact hQ)
        obtain ⟨d, rfl, hd⟩ := zipD_mem h1 x hx
        match Γ, hl with
        | [_, _, _, _, _], _ =>
          simp only [env0, wSs, wS, wE, wAs, wCh, wO, wC, wIt, en0, exitOk, ex0, onD, asD, asL, asQ, onL, onQ, onI, onB, onC, onV, onS, onDL, on2I, bop, bAdd, bMul, cop, cEq, cLt, cLe, cGt, cGe, cIn, cIs, isN, wTr, blt, bLen, lenQ, bAbs, bMin, bMax, bSum, bAll, bAny, bSorted, bTuple, bList, bInt, nonE, mkT, mkL, dats, fns, wTg, setAll, setW, wipeG, idxW, slcW, itemsE, zipW, SS, List.map_cons, List.map_nil, List.length_cons, List.length_nil, Nat.zero_add, List.getElem?_cons_zero, List.getElem?_cons_succ, List.set_cons_zero, List.set_cons_succ, List.append_nil, List.nil_append, List.cons_append, List.replicate_zero, List.replicate_succ, Nat.sub_self, Nat.reduceSub, Nat.reduceAdd, Option.map_some, Option.map_none, List.take_length, wIf_dec, wIf_t, wIf_f, true_and, and_true, Nat.lt_irrefl, if_false, if_true, decide_eq_true_eq, decide_eq_false_iff_not, Bool.not_true, Bool.not_false, bne_self_eq_false, sz_le, Nat.reduceLeDiff, true_implies, not_true_eq_false, false_implies, implies_true, and_self, not_false_eq_true, wIf_not, at0, at1, at2, ix20, ix21, get_app, take_app, set_app, set_set, take_set, List.take_length, Int.reduceToNat, Int.reducePow, Int.reduceAdd, Int.reduceSub, Int.reduceMul, Int.reduceNeg, sp_law_like, hd]
          exact hK
      rcases hg with ⟨g0, g1⟩ | ⟨g0, g1⟩ <;>
      · unfold c_law_like_1_0
        simp only [wE, wIt, g0, g1, zipW]
        exact go
    have hs2 : 2 ≤ sizeLine := by rw [sizeLine_eq]; decide
    obtain ⟨q1, q2, q3⟩ := flat_ok _ _ hf
    simp only [b_law_like_1, env0, wSs, wS, wE, wAs, wCh, wO, wC, wIt, en0, exitOk, ex0, onD, asD, asL, asQ, onL, onQ, onI, onB, onC, onV, onS, onDL, on2I, bop, bAdd, bMul, cop, cEq, cLt, cLe, cGt, cGe, cIn, cIs, isN, wTr, blt, bLen, lenQ, bAbs, bMin, bMax, bSum, bAll, bAny, bSorted, bTuple, bList, bInt, nonE, mkT, mkL, dats, fns, wTg, setAll, setW, wipeG, idxW, slcW, itemsE, zipW, SS, List.map_cons, List.map_nil, List.length_cons, List.length_nil, Nat.zero_add, List.getElem?_cons_zero, List.getElem?_cons_succ, List.set_cons_zero, List.set_cons_succ, List.append_nil, List.nil_append, List.cons_append, List.replicate_zero, List.replicate_succ, Nat.sub_self, Nat.reduceSub, Nat.reduceAdd, Option.map_some, Option.map_none, List.take_length, wIf_dec, wIf_t, wIf_f, true_and, and_true, Nat.lt_irrefl, if_false, if_true, decide_eq_true_eq, decide_eq_false_iff_not, Bool.not_true, Bool.not_false, bne_self_eq_false, sz_le, Nat.reduceLeDiff, true_implies, not_true_eq_false, false_implies, implies_true, and_self, not_false_eq_true, wIf_not, at0, at1, at2, ix20, ix21, get_app, take_app, set_app, set_set, take_set, List.take_length, Int.reduceToNat, Int.reducePow, Int.reduceAdd, Int.reduceSub, Int.reduceMul, Int.reduceNeg, sp_law_sort]
    cases a with
    | tuple xs =>
      simp only [flat, Bool.and_eq_true, decide_eq_true_eq] at hf
      simp [sortN, inOk, PyData.plain, PyData.plainAll, PyData.depth, PyData.depthAll, PyData.eqv, wIf, hs2]
      refine comp xs _ _ _ hf.1 hf.2 _ ?_ (.inl ⟨rfl, rfl⟩) rfl
      simpa [eq_nil] using h
    | list xs =>
      simp only [flat, Bool.and_eq_true, decide_eq_true_eq] at hf
      simp [sortN, inOk, PyData.plain, PyData.plainAll, PyData.depth, PyData.depthAll, PyData.eqv, wIf, hs2]
      refine comp xs _ _ _ hf.1 hf.2 _ ?_ (.inr ⟨rfl, rfl⟩) rfl
      simpa [eq_nil] using h
    | dict xs => simp [flat] at hf
    | _ =>
      simp [sortN, inOk, PyData.plain, PyData.plainAll, PyData.depth, PyData.depthAll, PyData.eqv, wIf, eqOk, h, hs2]
  · exact h.elim
end Q81
namespace Q81
open PySem Z
theorem ok_law_like_2 : Does SS 5 b_law_like_2 (sp_law_like 2) := by
  intro ws st P R h
  unfold sp_law_like at h
  split at h
  · rename_i a b
    obtain ⟨rfl, hf, h⟩ := h
    have hs : 1000000 ≤ sizeLine := by rw [sizeLine_eq]; decide
    have comp : ∀ (xs : List PyData) (Γ : Env') (s : Store) (R' : XP), flats 1 xs = true → xs.length ≤ 1000000 → ∀ (Q : Post), (Q (.d (.list [])) s) →
        (Γ[0]? = some (some (.d (.tuple xs))) ∧ Γ[1]? = some (some (.d (.tuple xs))) ∨ Γ[0]? = some (some (.d (.list xs))) ∧ Γ[1]? = some (some (.d (.list xs)))) → Γ.length = 5 → wE SS c_law_like_2_0 Γ s Q R' := by
      intro xs Γ s R' h1 h2 Q hQ hg hl
      have go : wLoop (fun x s2 K => wTg (.tup [3, 4]) x (wipeG Γ ([("first", 3), ("second", 4)].map (·.2))) s2 fun Γ' => wC SS (.some (.not (.call 29 (.cons (.var 3) (.cons (.var 4) .nil))))) Γ' s2 (fun t s3 => wIf t (wE SS (.con (.int 1)) Γ' s3 (fun w s4 => onV w fun y => K (some y) s4) fun _ _ => False) (K none s3)) fun _ _ => False) (fun ds s2 => Q (.d (.list ds)) s2) (zipD xs xs) [] s := by
        refine wLoop_map (fun _ => none) _ _ (fun x hx K hK => ?_) (by rw [zipD_len]; simp; omega) (by rw [none_all]; exact hQ)
        obtain ⟨d, rfl, hd⟩ := zipD_mem h1 x hx
        match Γ, hl with
        | [_, _, _, _, _], _ =>
          simp only [env0, wSs, wS, wE, wAs, wCh, wO, wC, wIt, en0, exitOk, ex0, onD, asD, asL, asQ, onL, onQ, onI, onB, onC, onV, onS, onDL, on2I, bop, bAdd, bMul, cop, cEq, cLt, cLe, cGt, cGe, cIn, cIs, isN, wTr, blt, bLen, lenQ, bAbs, bMin, bMax, bSum, bAll, bAny, bSorted, bTuple, bList, bInt, nonE, mkT, mkL, dats, fns, wTg, setAll, setW, wipeG, idxW, slcW, itemsE, zipW, SS, List.map_cons, List.map_nil, List.length_cons, List.length_nil, Nat.zero_add, List.getElem?_cons_zero, List.getElem?_cons_succ, List.set_cons_zero, List.set_cons_succ, List.append_nil, List.nil_append, List.cons_append, List.replicate_zero, List.replicate_succ, Nat.sub_self, Nat.reduceSub, Nat.reduceAdd, Option.map_some, Option.map_none, List.take_length, wIf_dec, wIf_t, wIf_f, true_and, and_true, Nat.lt_irrefl, if_false, if_true, decide_eq_true_eq, decide_eq_false_iff_not, Bool.not_true, Bool.not_false, bne_self_eq_false, sz_le, Nat.reduceLeDiff, true_implies, not_true_eq_false, false_implies, implies_true, and_self, not_false_eq_true, wIf_not, at0, at1, at2, ix20, ix21, get_app, take_app, set_app, set_set, take_set, List.take_length, Int.reduceToNat, Int.reducePow, Int.reduceAdd, Int.reduceSub, Int.reduceMul, Int.reduceNeg, sp_law_like, hd]
          exact hK
      rcases hg with ⟨g0, g1⟩ | ⟨g0, g1⟩ <;>
      · unfold c_law_like_2_0
        simp only [wE, wIt, g0, g1, zipW]
        exact go
    have hs2 : 2 ≤ sizeLine := by rw [sizeLine_eq]; decide
    obtain ⟨q1, q2, q3⟩ := flat_ok _ _ hf
    simp only [b_law_like_2, env0, wSs, wS, wE, wAs, wCh, wO, wC, wIt, en0, exitOk, ex0, onD, asD, asL, asQ, onL, onQ, onI, onB, onC, onV, onS, onDL, on2I, bop, bAdd, bMul, cop, cEq, cLt, cLe, cGt, cGe, cIn, cIs, isN, wTr, blt, bLen, lenQ, bAbs, bMin, bMax, bSum, bAll, bAny, bSorted, bTuple, bList, bInt, nonE, mkT, mkL, dats, fns, wTg, setAll, setW, wipeG, idxW, slcW, itemsE, zipW, SS, List.map_cons, List.map_nil, List.length_cons, List.length_nil, Nat.zero_add, List.getElem?_cons_zero, List.getElem?_cons_succ, List.set_cons_zero, List.set_cons_succ, List.append_nil, List.nil_append, List.cons_append, List.replicate_zero, List.replicate_succ, Nat.sub_self, Nat.reduceSub, Nat.reduceAdd, Option.map_some, Option.map_none, List.take_length, wIf_dec, wIf_t, wIf_f, true_and, and_true, Nat.lt_irrefl, if_false, if_true, decide_eq_true_eq, decide_eq_false_iff_not, Bool.not_true, Bool.not_false, bne_self_eq_false, sz_le, Nat.reduceLeDiff, true_implies, not_true_eq_false, false_implies, implies_true, and_self, not_false_eq_true, wIf_not, at0, at1, at2, ix20, ix21, get_app, take_app, set_app, set_set, take_set, List.take_length, Int.reduceToNat, Int.reducePow, Int.reduceAdd, Int.reduceSub, Int.reduceMul, Int.reduceNeg, sp_law_sort]
    cases a with
    | tuple xs =>
      simp only [flat, Bool.and_eq_true, decide_eq_true_eq] at hf
      simp [sortN, inOk, PyData.plain, PyData.plainAll, PyData.depth, PyData.depthAll, PyData.eqv, wIf, hs2]
      refine comp xs _ _ _ hf.1 hf.2 _ ?_ (.inl ⟨rfl, rfl⟩) rfl
      simpa [eq_nil] using h
    | list xs =>
      simp only [flat, Bool.and_eq_true, decide_eq_true_eq] at hf
      simp [sortN, inOk, PyData.plain, PyData.plainAll, PyData.depth, PyData.depthAll, PyData.eqv, wIf, hs2]
      refine comp xs _ _ _ hf.1 hf.2 _ ?_ (.inr ⟨rfl, rfl⟩) rfl
      simpa [eq_nil] using h
    | dict xs => simp [flat] at hf
    | _ =>
      simp [sortN, inOk, PyData.plain, PyData.plainAll, PyData.depth, PyData.depthAll, PyData.eqv, wIf, eqOk, h, hs2]
  · exact h.elim
end Q81
namespace Q81
open PySem Z
theorem ok_law_like_3 : Does SS 5 b_law_like_3 (sp_law_like 3) := by
  intro ws st P R h
  unfold sp_law_like at h
  split at h
  · rename_i a b
    obtain ⟨rfl, hf, h⟩ := h
    have hs : 1000000 ≤ sizeLine := by rw [sizeLine_eq]; decide
    have comp : ∀ (xs : List PyData) (Γ : Env') (s : Store) (R' : XP), flats 2 xs = true → xs.length ≤ 1000000 → ∀ (Q : Post), (Q (.d (.list [])) s) →
        (Γ[0]? = some (some (.d (.tuple xs))) ∧ Γ[1]? = some (some (.d (.tuple xs))) ∨ Γ[0]? = some (some (.d (.list xs))) ∧ Γ[1]? = some (some (.d (.list xs)))) → Γ.length = 5 → wE SS c_law_like_3_0 Γ s Q R' := by
      intro xs Γ s R' h1 h2 Q hQ hg hl
      have go : wLoop (fun x s2 K => wTg (.tup [3, 4]) x (wipeG Γ ([("first", 3), ("second", 4)].map (·.2))) s2 fun Γ' => wC SS (.some (.not (.call 30 (.cons (.var 3) (.cons (.var 4) .nil))))) Γ' s2 (fun t s3 => wIf t (wE SS (.con (.int 1)) Γ' s3 (fun w s4 => onV w fun y => K (some y) s4) fun _ _ => False) (K none s3)) fun _ _ => False) (fun ds s2 => Q (.d (.list ds)) s2) (zipD xs xs) [] s := by
        refine wLoop_map (fun _ => none) _ _ (fun x hx K hK => ?_) (by rw [zipD_len]; simp; omega) (by rw [none_all]; exact hQ)
        obtain ⟨d, rfl, hd⟩ := zipD_mem h1 x hx
        match Γ, hl with
        | [_, _, _, _, _], _ =>
          simp only [env0, wSs, wS, wE, wAs, wCh, wO, wC, wIt, en0, exitOk, ex0, onD, asD, asL, asQ, onL, onQ, onI, onB, onC, onV, onS, onDL, on2I, bop, bAdd, bMul, cop, cEq, cLt, cLe, cGt, cGe, cIn, cIs, isN, wTr, blt, bLen, lenQ, bAbs, bMin, bMax, bSum, bAll, bAny, bSorted, bTuple, bList, bInt, nonE, mkT, mkL, dats, fns, wTg, setAll, setW, wipeG, idxW, slcW, itemsE, zipW, SS, List.map_cons, List.map_nil, List.length_cons, List.length_nil, Nat.zero_add, List.getElem?_cons_zero, List.getElem?_cons_succ, List.set_cons_zero, List.set_cons_succ, List.append_nil, List.nil_append, List.cons_append, List.replicate_zero, List.replicate_succ, Nat.sub_self, Nat.reduceSub, Nat.reduceAdd, Option.map_some, Option.map_none, List.take_length, wIf_dec, wIf_t, wIf_f, true_and, and_true, Nat.lt_irrefl, if_false, if_true, decide_eq_true_eq, decide_eq_false_iff_not, Bool.not_true, Bool.not_false, bne_self_eq_false, sz_le, Nat.reduceLeDiff, true_implies, not_true_eq_false, false_implies, implies_true, and_self, not_false_eq_true, wIf_not, at0, at1, at2, ix20, ix21, get_app, take_app, set_app, set_set, take_set, List.take_length, Int.reduceToNat, Int.reducePow, Int.reduceAdd, Int.reduceSub, Int.reduceMul, Int.reduceNeg, sp_law_like, hd]
          exact hK
      rcases hg with ⟨g0, g1⟩ | ⟨g0, g1⟩ <;>
      · unfold c_law_like_3_0
        simp only [wE, wIt, g0, g1, zipW]
        exact go
    have hs2 : 2 ≤ sizeLine := by rw [sizeLine_eq]; decide
    obtain ⟨q1, q2, q3⟩ := flat_ok _ _ hf
    simp only [b_law_like_3, env0, wSs, wS, wE, wAs, wCh, wO, wC, wIt, en0, exitOk, ex0, onD, asD, asL, asQ, onL, onQ, onI, onB, onC, onV, onS, onDL, on2I, bop, bAdd, bMul, cop, cEq, cLt, cLe, cGt, cGe, cIn, cIs, isN, wTr, blt, bLen, lenQ, bAbs, bMin, bMax, bSum, bAll, bAny, bSorted, bTuple, bList, bInt, nonE, mkT, mkL, dats, fns, wTg, setAll, setW, wipeG, idxW, slcW, itemsE, zipW, SS, List.map_cons, List.map_nil, List.length_cons, List.length_nil, Nat.zero_add, List.getElem?_cons_zero, List.getElem?_cons_succ, List.set_cons_zero, List.set_cons_succ, List.append_nil, List.nil_append, List.cons_append, List.replicate_zero, List.replicate_succ, Nat.sub_self, Nat.reduceSub, Nat.reduceAdd, Option.map_some, Option.map_none, List.take_length, wIf_dec, wIf_t, wIf_f, true_and, and_true, Nat.lt_irrefl, if_false, if_true, decide_eq_true_eq, decide_eq_false_iff_not, Bool.not_true, Bool.not_false, bne_self_eq_false, sz_le, Nat.reduceLeDiff, true_implies, not_true_eq_false, false_implies, implies_true, and_self, not_false_eq_true, wIf_not, at0, at1, at2, ix20, ix21, get_app, take_app, set_app, set_set, take_set, List.take_length, Int.reduceToNat, Int.reducePow, Int.reduceAdd, Int.reduceSub, Int.reduceMul, Int.reduceNeg, sp_law_sort]
    cases a with
    | tuple xs =>
      simp only [flat, Bool.and_eq_true, decide_eq_true_eq] at hf
      simp [sortN, inOk, PyData.plain, PyData.plainAll, PyData.depth, PyData.depthAll, PyData.eqv, wIf, hs2]
      refine comp xs _ _ _ hf.1 hf.2 _ ?_ (.inl ⟨rfl, rfl⟩) rfl
      simpa [eq_nil] using h
    | list xs =>
      simp only [flat, Bool.and_eq_true, decide_eq_true_eq] at hf
      simp [sortN, inOk, PyData.plain, PyData.plainAll, PyData.depth, PyData.depthAll, PyData.eqv, wIf, hs2]
      refine comp xs _ _ _ hf.1 hf.2 _ ?_ (.inr ⟨rfl, rfl⟩) rfl
      simpa [eq_nil] using h
    | dict xs => simp [flat] at hf
    | _ =>
      simp [sortN, inOk, PyData.plain, PyData.plainAll, PyData.depth, PyData.depthAll, PyData.eqv, wIf, eqOk, h, hs2]
  · exact h.elim
end Q81
namespace Q81
open PySem Z
theorem rng_mem {lo hi x : Int} : x ∈ rng lo hi ↔ lo ≤ x ∧ x < hi := by
  unfold rng
  rw [List.mem_map]
  constructor
  · rintro ⟨k, hk, rfl⟩
    have := List.mem_range.mp hk
    omega
  · rintro ⟨h1, h2⟩
    exact ⟨(x - lo).toNat, List.mem_range.mpr (by omega), by omega⟩
theorem rng_pw (lo hi : Int) : (rng lo hi).Pairwise (· < ·) := by
  unfold rng
  rw [List.pairwise_map]
  exact List.pairwise_lt_range.imp fun h => by omega
theorem rng_len (lo hi : Int) : (rng lo hi).length = (hi - lo).toNat := by simp [rng]
theorem rng_succ {lo hi : Int} (h : lo ≤ hi) : rng lo (hi + 1) = rng lo hi ++ [hi] := by
  unfold rng
  have e : (hi + 1 - lo).toNat = (hi - lo).toNat + 1 := by omega
  rw [e, List.range_succ, List.map_append]
  congr 1
  simp only [List.map_cons, List.map_nil]
  congr 1
  omega
theorem rng_nil (lo : Int) : rng lo lo = [] := by simp [rng]
theorem rng_app {lo mid hi : Int} (h1 : lo ≤ mid) (h2 : mid ≤ hi) : rng lo hi = rng lo mid ++ rng mid hi := by
  obtain ⟨k, rfl⟩ : ∃ k : Nat, hi = mid + k := ⟨(hi - mid).toNat, by omega⟩
  clear h2
  induction k with
  | zero => simp [rng_nil]
  | succ k ih =>
    rw [show mid + ((k + 1 : Nat) : Int) = mid + k + 1 by omega, rng_succ (by omega), rng_succ (by omega), ih, List.append_assoc]
theorem rngD_eq (lo hi : Int) : rngD lo hi = (rng lo hi).map fun i => W.d (.int i) := by
  unfold rngD rng
  rw [List.map_map]; rfl
theorem lt_sq {x y : Int} (h : x * x < y * y) (hy : 0 ≤ y) : x < y := by
  apply Int.not_le.mp; intro q
  have := Int.mul_le_mul q q hy (by omega)
  omega
theorem le_sq {x y : Int} (h : x * x ≤ y * y) (hy : 0 ≤ y) : x ≤ y := by
  apply Int.not_lt.mp; intro q
  have := Int.mul_lt_mul' (Int.le_of_lt q) q hy (by omega)
  omega
theorem sq_eq {x y : Int} (h : x * x = y * y) (hx : 0 ≤ x) (hy : 0 ≤ y) : x = y := Int.le_antisymm (le_sq (by omega) hy) (le_sq (by omega) hx)
theorem rt_sq {r : Int} (h : 0 ≤ r) : rt (r * r) = r := rt_eq h (Int.le_refl _) (by grind)
/-- a loop over whole numbers: done, to do -/
theorem flats_of {k : Nat} : ∀ {xs : List PyData}, (∀ x, x ∈ xs → flat k x = true) → flats k xs = true
  | [], _ => rfl
  | x :: xs, h => by
    simp only [flats, Bool.and_eq_true]
    exact ⟨h x List.mem_cons_self, flats_of fun y hy => h y (List.mem_cons_of_mem _ hy)⟩
theorem str_self (x : Str) : eqOk (.str x) (.str x) ∧ PyData.eqv (.str x) (.str x) = true := by
  simp [eqOk, PyData.plain, PyData.depth, PyData.eqv]
theorem t3_inj {a b c a' b' c' : Int} : T3 a b c = T3 a' b' c' ↔ a = a' ∧ b = b' ∧ c = c' := by simp [T3]
theorem t3_eqv (a b c a' b' c' : Int) : PyData.eqv (T3 a b c) (T3 a' b' c') = decide (a = a' ∧ b = b' ∧ c = c') := by
  have q : ∀ x y : Int, (x == y) = decide (x = y) := fun x y => by by_cases h : x = y <;> simp [h]
  simp [PyData.eqv, PyData.eqvAll, Bool.decide_and, q]
theorem t3_plain (a b c : Int) : (T3 a b c).plain = true ∧ (T3 a b c).depth ≤ 60 := by simp [PyData.plain, PyData.plainAll, PyData.depth, PyData.depthAll]
theorem t3_all {xs : List PyData} (hx : ∀ x, x ∈ xs → ∃ a b c, x = T3 a b c) : PyData.plainAll xs = true := by
  induction xs with
  | nil => rfl
  | cons y ys ih =>
    obtain ⟨a, b, c, rfl⟩ := hx y List.mem_cons_self
    have := ih fun x q => hx x (List.mem_cons_of_mem _ q)
    unfold PyData.plainAll
    rw [this]; rfl
/-- a row of three among such rows -/
theorem in_t3 {a b c : Int} {xs : List PyData} (hx : ∀ x, x ∈ xs → ∃ a b c, x = T3 a b c) : inOk (T3 a b c) xs := by
  refine ⟨t3_all hx, rfl, ?_⟩
  have := (t3_plain a b c).2
  omega
theorem any_t3 {a b c : Int} {xs : List PyData} (h : T3 a b c ∈ xs) : (xs.any fun z => PyData.eqv z (T3 a b c)) = true :=
  List.any_eq_true.mpr ⟨_, h, by rw [t3_eqv]; simp⟩
theorem eq_t3 (a b c a' b' c' : Int) : eqOk (T3 a b c) (T3 a' b' c') := ⟨(t3_plain a b c).1, (t3_plain a' b' c').1, by have := (t3_plain a b c).2; omega⟩
theorem eq_non (a b c : Int) : eqOk .none (T3 a b c) ∧ PyData.eqv .none (T3 a b c) = false := ⟨⟨rfl, (t3_plain a b c).1, by simp [PyData.depth]⟩, rfl⟩
end Q81
namespace Q81
open PySem Z
/-! ## right triangles by the gap of the legs -/
def Tg (g a c : Int) : Prop := 0 < a ∧ 0 < c ∧ a * a + (a + g) * (a + g) = c * c
theorem Tg.lt {g a c : Int} (hg : 0 ≤ g) (h : Tg g a c) : a + g < c ∧ c < 2 * a + g := by
  obtain ⟨h1, h2, e⟩ := h
  have q : 0 < a * a := Int.mul_pos h1 h1
  have q2 : 0 < a * (a + g) := Int.mul_pos h1 (by omega)
  refine ⟨lt_sq (by omega) (by omega), lt_sq ?_ (by omega)⟩
  grind
theorem Tg.low {g a c : Int} (hg : 1 ≤ g) (h : Tg g a c) : 0 < 3 * a + g - 2 * c ↔ 3 * g < a := by
  obtain ⟨h1, h2, e⟩ := h
  have k : (3 * a + g) * (3 * a + g) - 2 * c * (2 * c) = (a - 3 * g) * (a + g) := by grind
  constructor
  · intro q
    apply Int.not_le.mp; intro z
    have q1 : 2 * c * (2 * c) < (3 * a + g) * (3 * a + g) := Int.mul_lt_mul' (by omega) (by omega) (by omega) (by omega)
    have q2 : (3 * g - a) * (a + g) ≥ 0 := Int.mul_nonneg (by omega) (by omega)
    grind
  · intro q
    have q2 : 0 < (a - 3 * g) * (a + g) := Int.mul_pos (by omega) (by omega)
    have := lt_sq (x := 2 * c) (y := 3 * a + g) (by omega) (by omega)
    omega
theorem Tg.on {g a c : Int} (hg : 0 ≤ g) (h : Tg g a c) : Tg g (3 * a + g + 2 * c) (4 * a + 2 * g + 3 * c) := by
  obtain ⟨h1, h2, e⟩ := h
  exact ⟨by omega, by omega, by grind⟩
theorem Tg.back {g a c : Int} (hg : 1 ≤ g) (h : Tg g a c) (q : 3 * g < a) : Tg g (3 * a + g - 2 * c) (3 * c - 4 * a - 2 * g) := by
  have hl := (h.low hg).mpr q
  obtain ⟨h1, h2, e⟩ := h
  have q1 : 0 < a * (a + g) := Int.mul_pos h1 (by omega)
  have q2 : 0 < g * g := Int.mul_pos (by omega) (by omega)
  refine ⟨hl, ?_, by grind⟩
  have := lt_sq (x := 4 * a + 2 * g) (y := 3 * c) (by grind) (by omega)
  omega
theorem Tg.uniq {g a c c' : Int} (h : Tg g a c) (h' : Tg g a c') : c = c' := by
  obtain ⟨h1, h2, e⟩ := h
  obtain ⟨h1', h2', e'⟩ := h'
  exact sq_eq (by omega) (by omega) (by omega)
theorem Tg.rt {g a c : Int} (h : Tg g a c) : rt (leg2 g a) = c := by
  obtain ⟨h1, h2, e⟩ := h
  unfold leg2
  rw [e, rt_sq (by omega)]
theorem rowF_some {g a : Int} {d : PyData} (ha : 0 < a) (hg : 0 ≤ g) (h : rowF g a = some d) : ∃ c, Tg g a c ∧ d = T3 a (a + g) c := by
  unfold rowF at h
  split at h
  · rename_i q
    refine ⟨_, ⟨ha, ?_, q.symm⟩, (Option.some.inj h).symm⟩
    have q1 := rt_nn (leg2 g a)
    rcases Int.lt_or_eq_of_le q1 with z | z
    · exact z
    · rw [← z] at q
      unfold leg2 at q
      have : 0 < a * a := Int.mul_pos ha ha
      have := Int.mul_nonneg (show 0 ≤ a + g by omega) (show 0 ≤ a + g by omega)
      omega
  · cases h
theorem rowF_of {g a c : Int} (h : Tg g a c) : rowF g a = some (T3 a (a + g) c) := by
  unfold rowF
  rw [h.rt, if_pos (by unfold leg2; exact h.2.2.symm)]
theorem rowM_eq (g m a : Int) : rowM g m a = if rt (leg2 g a) ≤ m then rowF g a else none := by
  unfold rowM rowF
  by_cases q : rt (leg2 g a) ≤ m <;> by_cases q2 : rt (leg2 g a) * rt (leg2 g a) = leg2 g a <;> simp [q, q2]
theorem firsts_mem {g : Int} (hg : 1 ≤ g) {x : PyData} : x ∈ firsts g ↔ ∃ a c, x = T3 a (a + g) c ∧ Tg g a c ∧ a ≤ 3 * g := by
  unfold firsts
  rw [List.mem_filterMap]
  constructor
  · rintro ⟨a, ha, h⟩
    obtain ⟨a1, a2⟩ := rng_mem.mp ha
    obtain ⟨c, t, rfl⟩ := rowF_some (by omega) (by omega) h
    exact ⟨a, c, rfl, t, by omega⟩
  · rintro ⟨a, c, rfl, t, h⟩
    exact ⟨a, rng_mem.mpr ⟨t.1, by omega⟩, rowF_of t⟩
theorem legsL_mem {g m : Int} (hg : 1 ≤ g) {x : PyData} : x ∈ legsL g m ↔ ∃ a c, x = T3 a (a + g) c ∧ Tg g a c ∧ c ≤ m := by
  unfold legsL
  rw [List.mem_filterMap]
  constructor
  · rintro ⟨a, ha, h⟩
    obtain ⟨a1, a2⟩ := rng_mem.mp ha
    rw [rowM_eq] at h
    split at h
    · rename_i q
      obtain ⟨c, t, rfl⟩ := rowF_some (by omega) (by omega) h
      rw [t.rt] at q
      exact ⟨a, c, rfl, t, q⟩
    · cases h
  · rintro ⟨a, c, rfl, t, h⟩
    refine ⟨a, rng_mem.mpr ⟨t.1, ?_⟩, ?_⟩
    · have := t.lt (by omega); omega
    · rw [rowM_eq, t.rt, if_pos h, rowF_of t]
def first1 : PyData → Int | .tuple (.int a :: _) => a | _ => 0
theorem legsL_pw {g m : Int} (hg : 1 ≤ g) : (legsL g m).Pairwise fun x y => first1 x < first1 y := by
  unfold legsL
  rw [List.pairwise_filterMap]
  refine (rng_pw _ _).imp_of_mem ?_
  intro s s' hs hs' hlt d hd d' hd'
  have k : ∀ {s : Int} {d : PyData}, s ∈ rng 1 (m + 1) → rowM g m s = some d → first1 d = s := by
    intro s d hs hd
    rw [rowM_eq] at hd
    split at hd
    · obtain ⟨c, _, rfl⟩ := rowF_some (by have := rng_mem.mp hs; omega) (by omega) hd
      rfl
    · cases hd
  rw [k hs hd, k hs' hd']; exact hlt
theorem firsts_pw {g : Int} (hg : 1 ≤ g) : (firsts g).Pairwise fun x y => first1 x < first1 y := by
  unfold firsts
  rw [List.pairwise_filterMap]
  refine (rng_pw _ _).imp_of_mem ?_
  intro s s' hs hs' hlt d hd d' hd'
  obtain ⟨c, _, rfl⟩ := rowF_some (by have := rng_mem.mp hs; omega) (by omega) hd
  obtain ⟨c', _, rfl⟩ := rowF_some (by have := rng_mem.mp hs'; omega) (by omega) hd'
  exact hlt
/-- on and on, to the slant m -/
def chain (m a b c : Int) : List PyData := if _h : 0 < a ∧ 0 < b ∧ 0 < c ∧ c ≤ m then T3 a b c :: chain m (2 * a + b + 2 * c) (a + 2 * b + 2 * c) (2 * a + 2 * b + 3 * c) else []
termination_by (m + 1 - c).toNat
decreasing_by omega
theorem chain_cons {m a b c : Int} (h1 : 0 < a) (h2 : 0 < b) (h3 : 0 < c) (h : c ≤ m) : chain m a b c = T3 a b c :: chain m (2 * a + b + 2 * c) (a + 2 * b + 2 * c) (2 * a + 2 * b + 3 * c) := by
  rw [chain, dif_pos ⟨h1, h2, h3, h⟩]
theorem chain_nil {m a b c : Int} (h : m < c) : chain m a b c = [] := by
  rw [chain, dif_neg (by omega)]
theorem chain_len {m : Int} : ∀ (k : Nat) (a b c : Int), c ≤ a + b → m < c * 5 ^ k → (chain m a b c).length ≤ k
  | 0, a, b, c, h1, h2 => by rw [chain_nil (by omega)]; exact Nat.zero_le _
  | k + 1, a, b, c, h1, h2 => by
    by_cases h : 0 < a ∧ 0 < b ∧ 0 < c ∧ c ≤ m
    · rw [chain_cons h.1 h.2.1 h.2.2.1 h.2.2.2, List.length_cons]
      have := chain_len (m := m) k (2 * a + b + 2 * c) (a + 2 * b + 2 * c) (2 * a + 2 * b + 3 * c) (by omega) (by
        have e : c * 5 ^ (k + 1) = 5 * c * 5 ^ k := by rw [Int.pow_succ]; grind
        have p : (0 : Int) ≤ 5 ^ k := Int.le_of_lt (Int.pow_pos (by decide))
        have := Int.mul_le_mul_of_nonneg_right (a := 5 * c) (b := 2 * a + 2 * b + 3 * c) (c := (5 : Int) ^ k) (by omega) p
        omega)
      omega
    · rw [chain, dif_neg h]; exact Nat.zero_le _
/-- what lies in a chain; the first one of all of them -/
theorem chain_mem {g m : Int} (hg : 1 ≤ g) : ∀ (n : Nat) (a c : Int), (m + 1 - c).toNat ≤ n → Tg g a c → ∀ x, x ∈ chain m a (a + g) c → ∃ a' c', x = T3 a' (a' + g) c' ∧ Tg g a' c' ∧ c' ≤ m ∧ c ≤ c' ∧ rootT a' (a' + g) c' = rootT a (a + g) c := by
  intro n
  induction n with
  | zero =>
    intro a c hn t x hx
    rw [chain_nil (by omega)] at hx; cases hx
  | succ n ih =>
    intro a c hn t x hx
    by_cases h : c ≤ m
    · rw [chain_cons t.1 (by have := t.1; omega) t.2.1 h] at hx
      rcases List.mem_cons.mp hx with rfl | hx
      · exact ⟨a, c, rfl, t, h, Int.le_refl _, rfl⟩
      · have e1 : 2 * a + (a + g) + 2 * c = 3 * a + g + 2 * c := by omega
        have e2 : a + 2 * (a + g) + 2 * c = 3 * a + g + 2 * c + g := by omega
        have e3 : 2 * a + 2 * (a + g) + 3 * c = 4 * a + 2 * g + 3 * c := by omega
        rw [e1, e2, e3] at hx
        have t' := t.on (by omega)
        obtain ⟨h1, h2, _⟩ := id t
        obtain ⟨a', c', rfl, t2, q1, q2, q3⟩ := ih _ _ (by omega) t' x hx
        refine ⟨a', c', rfl, t2, q1, by omega, ?_⟩
        rw [q3]
        rw [rootT, dif_pos (by have := t'.lt (by omega); omega)]
        congr 1 <;> omega
    · rw [chain_nil (by omega)] at hx; cases hx
theorem chain_on {g m : Int} (hg : 1 ≤ g) : ∀ (n : Nat) (a c a' c' : Int), (m + 1 - c).toNat ≤ n → Tg g a c → Tg g a' c' → T3 a' (a' + g) c' ∈ chain m a (a + g) c → 4 * a' + 2 * g + 3 * c' ≤ m →
    T3 (3 * a' + g + 2 * c') (3 * a' + g + 2 * c' + g) (4 * a' + 2 * g + 3 * c') ∈ chain m a (a + g) c := by
  intro n
  induction n with
  | zero =>
    intro a c a' c' hn t t' hx
    rw [chain_nil (by omega)] at hx; cases hx
  | succ n ih =>
    intro a c a' c' hn t t' hx hm
    have e1 : 2 * a + (a + g) + 2 * c = 3 * a + g + 2 * c := by omega
    have e2 : a + 2 * (a + g) + 2 * c = 3 * a + g + 2 * c + g := by omega
    have e3 : 2 * a + 2 * (a + g) + 3 * c = 4 * a + 2 * g + 3 * c := by omega
    obtain ⟨h1, h2, _⟩ := id t
    by_cases h : c ≤ m
    · rw [chain_cons h1 (by omega) h2 h, e1, e2, e3] at hx ⊢
      refine List.mem_cons_of_mem _ ?_
      rcases List.mem_cons.mp hx with q | hx
      · obtain ⟨rfl, _, rfl⟩ := t3_inj.mp q
        rw [chain_cons (by omega) (by omega) (by omega) hm]
        exact List.mem_cons_self
      · exact ih _ _ _ _ (by omega) (t.on (by omega)) t' hx hm
    · rw [chain_nil (by omega)] at hx; cases hx
theorem chain_self {g m a c : Int} (hg : 1 ≤ g) (t : Tg g a c) (h : c ≤ m) : T3 a (a + g) c ∈ chain m a (a + g) c := by
  rw [chain_cons t.1 (by have := t.1; omega) t.2.1 h]; exact List.mem_cons_self
theorem chain_all {g m : Int} (hg : 1 ≤ g) : ∀ (n : Nat) (a c : Int), a.toNat ≤ n → Tg g a c → c ≤ m → ∃ f fc, Tg g f fc ∧ f ≤ 3 * g ∧ T3 a (a + g) c ∈ chain m f (f + g) fc := by
  intro n
  induction n with
  | zero => intro a c hn t; have := t.1; omega
  | succ n ih =>
    intro a c hn t hm
    by_cases q : 3 * g < a
    · have tb := t.back hg q
      have hl := t.lt (by omega)
      obtain ⟨f, fc, tf, hf, hin⟩ := ih (3 * a + g - 2 * c) (3 * c - 4 * a - 2 * g) (by omega) tb (by omega)
      refine ⟨f, fc, tf, hf, ?_⟩
      have e1 : 3 * (3 * a + g - 2 * c) + g + 2 * (3 * c - 4 * a - 2 * g) = a := by omega
      have e3 : 4 * (3 * a + g - 2 * c) + 2 * g + 3 * (3 * c - 4 * a - 2 * g) = c := by omega
      have k := chain_on hg _ f fc _ _ (Nat.le_refl _) tf tb hin (by omega)
      rw [e1, e3] at k
      exact k
    · exact ⟨a, c, t, by omega, chain_self hg t hm⟩
theorem root_first {g a c : Int} (hg : 1 ≤ g) (t : Tg g a c) (h : a ≤ 3 * g) : rootT a (a + g) c = T3 a (a + g) c := by
  rw [rootT, dif_neg]
  intro q
  have := (t.low hg).mp (by omega)
  omega
def chainD (m : Int) : PyData → List PyData | .tuple [.int a, .int b, .int c] => chain m a b c | _ => []
theorem chain_nodup {g m : Int} (hg : 1 ≤ g) : ∀ (n : Nat) (a c : Int), (m + 1 - c).toNat ≤ n → Tg g a c → (chain m a (a + g) c).Nodup := by
  intro n
  induction n with
  | zero => intro a c hn t; rw [chain_nil (by omega)]; exact .nil
  | succ n ih =>
    intro a c hn t
    by_cases h : c ≤ m
    · have e1 : 2 * a + (a + g) + 2 * c = 3 * a + g + 2 * c := by omega
      have e2 : a + 2 * (a + g) + 2 * c = 3 * a + g + 2 * c + g := by omega
      have e3 : 2 * a + 2 * (a + g) + 3 * c = 4 * a + 2 * g + 3 * c := by omega
      obtain ⟨h1, h2, _⟩ := id t
      rw [chain_cons h1 (by omega) h2 h, e1, e2, e3]
      refine List.nodup_cons.mpr ⟨fun hx => ?_, ih _ _ (by omega) (t.on (by omega))⟩
      obtain ⟨a', c', e, _, _, q, _⟩ := chain_mem hg _ _ _ (Nat.le_refl _) (t.on (by omega)) _ hx
      obtain ⟨rfl, _, rfl⟩ := t3_inj.mp e
      omega
    · rw [chain_nil (by omega)]; exact .nil
/-- all chains of the first ones are all triangles of the gap -/
theorem chains_perm {g m : Int} (hg : 1 ≤ g) : ((firsts g).reverse.flatMap (chainD m)).Perm (legsL g m) := by
  have nd2 : (legsL g m).Nodup := (legsL_pw hg).imp fun {x y} q e => by subst e; omega
  have nd1 : ((firsts g).reverse.flatMap (chainD m)).Nodup := by
    unfold List.Nodup
    rw [List.pairwise_flatMap]
    refine ⟨fun x hx => ?_, ?_⟩
    · obtain ⟨a, c, rfl, t, _⟩ := (firsts_mem hg).mp (List.mem_reverse.mp hx)
      exact chain_nodup hg _ _ _ (Nat.le_refl _) t
    · have pw : (firsts g).reverse.Pairwise fun x y => first1 y < first1 x := List.pairwise_reverse.mpr (firsts_pw hg)
      refine pw.imp_of_mem fun {x y} hx hy hlt u hu v hv e => ?_
      subst e
      obtain ⟨a, c, rfl, t, h⟩ := (firsts_mem hg).mp (List.mem_reverse.mp hx)
      obtain ⟨a', c', rfl, t', h'⟩ := (firsts_mem hg).mp (List.mem_reverse.mp hy)
      obtain ⟨a1, c1, e1, _, _, _, r1⟩ := chain_mem hg _ _ _ (Nat.le_refl _) t _ hu
      obtain ⟨a2, c2, e2, _, _, _, r2⟩ := chain_mem hg _ _ _ (Nat.le_refl _) t' _ hv
      rw [e1] at e2
      obtain ⟨rfl, _, rfl⟩ := t3_inj.mp e2
      rw [r1, root_first hg t h, root_first hg t' h'] at r2
      obtain ⟨rfl, _, _⟩ := t3_inj.mp r2
      exact absurd hlt (Int.lt_irrefl _)
  refine (List.perm_ext_iff_of_nodup nd1 nd2).mpr fun x => ?_
  rw [List.mem_flatMap, legsL_mem hg]
  constructor
  · rintro ⟨y, hy, hx⟩
    obtain ⟨a, c, rfl, t, _⟩ := (firsts_mem hg).mp (List.mem_reverse.mp hy)
    obtain ⟨a1, c1, e1, t1, q, _, _⟩ := chain_mem hg _ _ _ (Nat.le_refl _) t _ hx
    exact ⟨a1, c1, e1, t1, q⟩
  · rintro ⟨a, c, rfl, t, h⟩
    obtain ⟨f, fc, tf, hf, hin⟩ := chain_all hg _ a c (Nat.le_refl _) t h
    exact ⟨T3 f (f + g) fc, List.mem_reverse.mpr ((firsts_mem hg).mpr ⟨f, fc, rfl, tf, hf⟩), hin⟩
theorem dle_t3_gt {a b c a' b' c' : Int} (h : a' < a) : dle (T3 a b c) (T3 a' b' c') = false := by
  show (!(PyProof.Rows.lexLt PyProof.Rows.itemOrd (.inl 1 :: .inl a' :: _) (.inl 1 :: .inl a :: _))) = false
  simp [PyProof.Rows.lexLt, PyProof.Rows.itemLt, h]
theorem chains_srt {g m : Int} (hg : 1 ≤ g) : srt ((firsts g).reverse.flatMap (chainD m)) = legsL g m := by
  have t3 : ∀ x, x ∈ legsL g m → ∃ a c, x = T3 a (a + g) c ∧ Tg g a c := fun x hx => by
    obtain ⟨a, c, e, t, _⟩ := (legsL_mem hg).mp hx
    exact ⟨a, c, e, t⟩
  refine srt_perm (chains_perm hg) ?_ fun x y hx hy h1 h2 => ?_
  · refine (legsL_pw hg).imp_of_mem fun {x y} hx hy hlt => ?_
    obtain ⟨a, c, rfl, _⟩ := t3 x hx
    obtain ⟨a', c', rfl, _⟩ := t3 y hy
    exact dle_t3 hlt
  · obtain ⟨a, c, rfl, t⟩ := t3 x ((chains_perm hg).mem_iff.mp hx)
    obtain ⟨a', c', rfl, t'⟩ := t3 y ((chains_perm hg).mem_iff.mp hy)
    rcases Int.lt_trichotomy a a' with q | q | q
    · rw [dle_t3_gt q] at h2; cases h2
    · subst q; rw [t.uniq t']
    · rw [dle_t3_gt q] at h1; cases h1
end Q81
namespace Q81
open PySem Z
theorem m2 (i : Int) : MulOk 2 i := mul_l i (by decide) (by decide)
theorem m3 (i : Int) : MulOk 3 i := mul_l i (by decide) (by decide)
theorem Rect.tg {a b c : Int} (h : Rect a b c) : Tg (b - a) a c ∧ a + (b - a) = b := by
  obtain ⟨⟨h1, h2, h3, h4, h5⟩, e⟩ := h
  refine ⟨⟨by omega, by omega, ?_⟩, by omega⟩
  rw [show a + (b - a) = b by omega]; exact e
theorem ok_on_legs : Does SS 4 b_on_legs sp_on_legs := by
  intro ws st P R h
  unfold sp_on_legs at h
  split at h
  · simp only [b_on_legs, env0, wSs, wS, wE, wAs, wCh, wO, wC, wIt, en0, exitOk, ex0, onD, asD, asL, asQ, onL, onQ, onI, onB, onC, onV, onS, onDL, on2I, bop, bAdd, bMul, cop, cEq, cLt, cLe, cGt, cGe, cIn, cIs, isN, wTr, blt, bLen, lenQ, bAbs, bMin, bMax, bSum, bAll, bAny, bSorted, bTuple, bList, bInt, nonE, mkT, mkL, dats, fns, wTg, setAll, setW, wipeG, idxW, slcW, itemsE, zipW, SS, List.map_cons, List.map_nil, List.length_cons, List.length_nil, Nat.zero_add, List.getElem?_cons_zero, List.getElem?_cons_succ, List.set_cons_zero, List.set_cons_succ, List.append_nil, List.nil_append, List.cons_append, List.replicate_zero, List.replicate_succ, Nat.sub_self, Nat.reduceSub, Nat.reduceAdd, Option.map_some, Option.map_none, List.take_length, wIf_dec, wIf_t, wIf_f, true_and, and_true, Nat.lt_irrefl, if_false, if_true, decide_eq_true_eq, decide_eq_false_iff_not, Bool.not_true, Bool.not_false, bne_self_eq_false, sz_le, Nat.reduceLeDiff, true_implies, not_true_eq_false, false_implies, implies_true, and_self, not_false_eq_true, wIf_not, at0, at1, at2, ix20, ix21, get_app, take_app, set_app, set_set, take_set, List.take_length, Int.reduceToNat, Int.reducePow, Int.reduceAdd, Int.reduceSub, Int.reduceMul, Int.reduceNeg, m2, m3]
    exact h
  · exact h.elim
theorem ok_back_legs : Does SS 6 b_back_legs sp_back_legs := by
  intro ws st P R h
  unfold sp_back_legs at h
  split at h
  · rename_i a b c
    simp only [b_back_legs, env0, wSs, wS, wE, wAs, wCh, wO, wC, wIt, en0, exitOk, ex0, onD, asD, asL, asQ, onL, onQ, onI, onB, onC, onV, onS, onDL, on2I, bop, bAdd, bMul, cop, cEq, cLt, cLe, cGt, cGe, cIn, cIs, isN, wTr, blt, bLen, lenQ, bAbs, bMin, bMax, bSum, bAll, bAny, bSorted, bTuple, bList, bInt, nonE, mkT, mkL, dats, fns, wTg, setAll, setW, wipeG, idxW, slcW, itemsE, zipW, SS, List.map_cons, List.map_nil, List.length_cons, List.length_nil, Nat.zero_add, List.getElem?_cons_zero, List.getElem?_cons_succ, List.set_cons_zero, List.set_cons_succ, List.append_nil, List.nil_append, List.cons_append, List.replicate_zero, List.replicate_succ, Nat.sub_self, Nat.reduceSub, Nat.reduceAdd, Option.map_some, Option.map_none, List.take_length, wIf_dec, wIf_t, wIf_f, true_and, and_true, Nat.lt_irrefl, if_false, if_true, decide_eq_true_eq, decide_eq_false_iff_not, Bool.not_true, Bool.not_false, bne_self_eq_false, sz_le, Nat.reduceLeDiff, true_implies, not_true_eq_false, false_implies, implies_true, and_self, not_false_eq_true, wIf_not, at0, at1, at2, ix20, ix21, get_app, take_app, set_app, set_set, take_set, List.take_length, Int.reduceToNat, Int.reducePow, Int.reduceAdd, Int.reduceSub, Int.reduceMul, Int.reduceNeg, m2, m3]
    refine ⟨fun z => ?_, fun z => ?_⟩
    · simpa only [backD, z, if_true] using h
    · simpa only [backD, z, if_false] using h
  · exact h.elim
theorem ok_leg_gap : Does SS 1 b_leg_gap sp_leg_gap := by
  intro ws st P R h
  unfold sp_leg_gap at h
  split at h
  · simp only [b_leg_gap, env0, wSs, wS, wE, wAs, wCh, wO, wC, wIt, en0, exitOk, ex0, onD, asD, asL, asQ, onL, onQ, onI, onB, onC, onV, onS, onDL, on2I, bop, bAdd, bMul, cop, cEq, cLt, cLe, cGt, cGe, cIn, cIs, isN, wTr, blt, bLen, lenQ, bAbs, bMin, bMax, bSum, bAll, bAny, bSorted, bTuple, bList, bInt, nonE, mkT, mkL, dats, fns, wTg, setAll, setW, wipeG, idxW, slcW, itemsE, zipW, SS, List.map_cons, List.map_nil, List.length_cons, List.length_nil, Nat.zero_add, List.getElem?_cons_zero, List.getElem?_cons_succ, List.set_cons_zero, List.set_cons_succ, List.append_nil, List.nil_append, List.cons_append, List.replicate_zero, List.replicate_succ, Nat.sub_self, Nat.reduceSub, Nat.reduceAdd, Option.map_some, Option.map_none, List.take_length, wIf_dec, wIf_t, wIf_f, true_and, and_true, Nat.lt_irrefl, if_false, if_true, decide_eq_true_eq, decide_eq_false_iff_not, Bool.not_true, Bool.not_false, bne_self_eq_false, sz_le, Nat.reduceLeDiff, true_implies, not_true_eq_false, false_implies, implies_true, and_self, not_false_eq_true, wIf_not, at0, at1, at2, ix20, ix21, get_app, take_app, set_app, set_set, take_set, List.take_length, Int.reduceToNat, Int.reducePow, Int.reduceAdd, Int.reduceSub, Int.reduceMul, Int.reduceNeg, sp_need_right]
    exact h
  · exact h.elim
theorem ok_legs_back : Does SS 1 b_legs_back sp_legs_back := by
  intro ws st P R h
  unfold sp_legs_back at h
  split at h
  · simp only [b_legs_back, env0, wSs, wS, wE, wAs, wCh, wO, wC, wIt, en0, exitOk, ex0, onD, asD, asL, asQ, onL, onQ, onI, onB, onC, onV, onS, onDL, on2I, bop, bAdd, bMul, cop, cEq, cLt, cLe, cGt, cGe, cIn, cIs, isN, wTr, blt, bLen, lenQ, bAbs, bMin, bMax, bSum, bAll, bAny, bSorted, bTuple, bList, bInt, nonE, mkT, mkL, dats, fns, wTg, setAll, setW, wipeG, idxW, slcW, itemsE, zipW, SS, List.map_cons, List.map_nil, List.length_cons, List.length_nil, Nat.zero_add, List.getElem?_cons_zero, List.getElem?_cons_succ, List.set_cons_zero, List.set_cons_succ, List.append_nil, List.nil_append, List.cons_append, List.replicate_zero, List.replicate_succ, Nat.sub_self, Nat.reduceSub, Nat.reduceAdd, Option.map_some, Option.map_none, List.take_length, wIf_dec, wIf_t, wIf_f, true_and, and_true, Nat.lt_irrefl, if_false, if_true, decide_eq_true_eq, decide_eq_false_iff_not, Bool.not_true, Bool.not_false, bne_self_eq_false, sz_le, Nat.reduceLeDiff, true_implies, not_true_eq_false, false_implies, implies_true, and_self, not_false_eq_true, wIf_not, at0, at1, at2, ix20, ix21, get_app, take_app, set_app, set_set, take_set, List.take_length, Int.reduceToNat, Int.reducePow, Int.reduceAdd, Int.reduceSub, Int.reduceMul, Int.reduceNeg, sp_need_right, sp_back_legs]
    exact h
  · exact h.elim
theorem ok_legs_on : Does SS 2 b_legs_on sp_legs_on := by
  intro ws st P R h
  unfold sp_legs_on at h
  split at h
  · rename_i a b c
    simp only [b_legs_on, env0, wSs, wS, wE, wAs, wCh, wO, wC, wIt, en0, exitOk, ex0, onD, asD, asL, asQ, onL, onQ, onI, onB, onC, onV, onS, onDL, on2I, bop, bAdd, bMul, cop, cEq, cLt, cLe, cGt, cGe, cIn, cIs, isN, wTr, blt, bLen, lenQ, bAbs, bMin, bMax, bSum, bAll, bAny, bSorted, bTuple, bList, bInt, nonE, mkT, mkL, dats, fns, wTg, setAll, setW, wipeG, idxW, slcW, itemsE, zipW, SS, List.map_cons, List.map_nil, List.length_cons, List.length_nil, Nat.zero_add, List.getElem?_cons_zero, List.getElem?_cons_succ, List.set_cons_zero, List.set_cons_succ, List.append_nil, List.nil_append, List.cons_append, List.replicate_zero, List.replicate_succ, Nat.sub_self, Nat.reduceSub, Nat.reduceAdd, Option.map_some, Option.map_none, List.take_length, wIf_dec, wIf_t, wIf_f, true_and, and_true, Nat.lt_irrefl, if_false, if_true, decide_eq_true_eq, decide_eq_false_iff_not, Bool.not_true, Bool.not_false, bne_self_eq_false, sz_le, Nat.reduceLeDiff, true_implies, not_true_eq_false, false_implies, implies_true, and_self, not_false_eq_true, wIf_not, at0, at1, at2, ix20, ix21, get_app, take_app, set_app, set_set, take_set, List.take_length, Int.reduceToNat, Int.reducePow, Int.reduceAdd, Int.reduceSub, Int.reduceMul, Int.reduceNeg, sp_need_right, sp_on_legs, T3]
    refine ⟨h.1, fun z => ?_, fun z => ?_⟩
    · simpa only [onT, z, if_true] using h.2
    · simpa only [onT, z, if_false] using h.2
  · exact h.elim
theorem ok_first_legs_in : Does SS 4 b_first_legs_in sp_first_legs_in := by
  intro ws st P R h
  unfold sp_first_legs_in at h
  split at h
  · rename_i g
    obtain ⟨g1, g2, h⟩ := h
    have hs : 10000 ≤ sizeLine := by rw [sizeLine_eq]; decide
    simp only [b_first_legs_in, env0, wSs, wS, wE, wAs, wCh, wO, wC, wIt, en0, exitOk, ex0, onD, asD, asL, asQ, onL, onQ, onI, onB, onC, onV, onS, onDL, on2I, bop, bAdd, bMul, cop, cEq, cLt, cLe, cGt, cGe, cIn, cIs, isN, wTr, blt, bLen, lenQ, bAbs, bMin, bMax, bSum, bAll, bAny, bSorted, bTuple, bList, bInt, nonE, mkT, mkL, dats, fns, wTg, setAll, setW, wipeG, idxW, slcW, itemsE, zipW, SS, List.map_cons, List.map_nil, List.length_cons, List.length_nil, Nat.zero_add, List.getElem?_cons_zero, List.getElem?_cons_succ, List.set_cons_zero, List.set_cons_succ, List.append_nil, List.nil_append, List.cons_append, List.replicate_zero, List.replicate_succ, Nat.sub_self, Nat.reduceSub, Nat.reduceAdd, Option.map_some, Option.map_none, List.take_length, wIf_dec, wIf_t, wIf_f, true_and, and_true, Nat.lt_irrefl, if_false, if_true, decide_eq_true_eq, decide_eq_false_iff_not, Bool.not_true, Bool.not_false, bne_self_eq_false, sz_le, Nat.reduceLeDiff, true_implies, not_true_eq_false, false_implies, implies_true, and_self, not_false_eq_true, wIf_not, at0, at1, at2, ix20, ix21, get_app, take_app, set_app, set_set, take_set, List.take_length, Int.reduceToNat, Int.reducePow, Int.reduceAdd, Int.reduceSub, Int.reduceMul, Int.reduceNeg, f_first_legs_in_0, rngD_eq, m3]
    refine ⟨by omega, by omega, by omega, by omega, ?_⟩
    refine wFor_inv (fun ws Γ s => ∃ pre rest : List Int, pre ++ rest = rng 1 (3 * g + 1) ∧ ws = rest.map (fun i => W.d (.int i)) ∧ s = st ++ [.lst (pre.filterMap (rowF g))] ∧ ∃ x y : Option W, Γ = [some (.d (.int g)), some (.p st.length), x, y]) ?_ ?_ _ _ _ ⟨[], _, rfl, rfl, rfl, none, none, rfl⟩
    · rintro Γ s ⟨pre, rest, e1, e2, rfl, x, y, rfl⟩
      have : rest = [] := List.map_eq_nil_iff.mp e2.symm
      subst this
      rw [List.append_nil] at e1
      subst e1
      simp only [env0, wSs, wS, wE, wAs, wCh, wO, wC, wIt, en0, exitOk, ex0, onD, asD, asL, asQ, onL, onQ, onI, onB, onC, onV, onS, onDL, on2I, bop, bAdd, bMul, cop, cEq, cLt, cLe, cGt, cGe, cIn, cIs, isN, wTr, blt, bLen, lenQ, bAbs, bMin, bMax, bSum, bAll, bAny, bSorted, bTuple, bList, bInt, nonE, mkT, mkL, dats, fns, wTg, setAll, setW, wipeG, idxW, slcW, itemsE, zipW, SS, List.map_cons, List.map_nil, List.length_cons, List.length_nil, Nat.zero_add, List.getElem?_cons_zero, List.getElem?_cons_succ, List.set_cons_zero, List.set_cons_succ, List.append_nil, List.nil_append, List.cons_append, List.replicate_zero, List.replicate_succ, Nat.sub_self, Nat.reduceSub, Nat.reduceAdd, Option.map_some, Option.map_none, List.take_length, wIf_dec, wIf_t, wIf_f, true_and, and_true, Nat.lt_irrefl, if_false, if_true, decide_eq_true_eq, decide_eq_false_iff_not, Bool.not_true, Bool.not_false, bne_self_eq_false, sz_le, Nat.reduceLeDiff, true_implies, not_true_eq_false, false_implies, implies_true, and_self, not_false_eq_true, wIf_not, at0, at1, at2, ix20, ix21, get_app, take_app, set_app, set_set, take_set, List.take_length, Int.reduceToNat, Int.reducePow, Int.reduceAdd, Int.reduceSub, Int.reduceMul, Int.reduceNeg]
      exact .inr h
    · rintro w ws Γ s K ⟨pre, rest, e1, e2, rfl, x, y, rfl⟩ hK
      cases rest with
      | nil => cases e2
      | cons i rest =>
        rw [List.map_cons] at e2
        injection e2 with e2 e3
        subst e2
        have hi : i ∈ rng 1 (3 * g + 1) := by rw [← e1]; simp
        obtain ⟨i1, i2⟩ := rng_mem.mp hi
        have hlen : (pre.filterMap (rowF g)).length ≤ 3000 := by
          have h1 := List.length_filterMap_le (rowF g) pre
          have h2 : pre.length ≤ (rng 1 (3 * g + 1)).length := by rw [← e1]; simp
          rw [rng_len] at h2
          omega
        have next : ∀ (s' : Store) (y : Option W), s' = st ++ [.lst ((pre ++ [i]).filterMap (rowF g))] → K [some (.d (.int g)), some (.p st.length), some (.d (.int i)), y] s' := fun s' y e =>
          hK _ _ ⟨pre ++ [i], rest, by rw [List.append_assoc]; exact e1, e3, e, _, _, rfl⟩
        have hp : L2.CPow (i + g) 2 := ⟨by decide, by decide, by omega⟩
        have n0 : 0 ≤ leg2 g i := by
          have q1 := Int.mul_nonneg (show 0 ≤ i by omega) (show 0 ≤ i by omega)
          have q2 := Int.mul_nonneg (show 0 ≤ i + g by omega) (show 0 ≤ i + g by omega)
          unfold leg2; omega
        have n1 : leg2 g i < 2 ^ 80 := by
          have q1 := Int.mul_le_mul (show i ≤ 10000 by omega) (show i ≤ 10000 by omega) (by omega) (by omega)
          have q2 := Int.mul_le_mul (show i + g ≤ 10000 by omega) (show i + g ≤ 10000 by omega) (by omega) (by omega)
          unfold leg2; omega
        have e2 : (i + g) ^ 2 = (i + g) * (i + g) := by rw [Int.pow_succ, Int.pow_succ, Int.pow_zero, Int.one_mul]
        have e3 : i * i + (i + g) * (i + g) = leg2 g i := rfl
        simp only [l_first_legs_in_0, env0, wSs, wS, wE, wAs, wCh, wO, wC, wIt, en0, exitOk, ex0, onD, asD, asL, asQ, onL, onQ, onI, onB, onC, onV, onS, onDL, on2I, bop, bAdd, bMul, cop, cEq, cLt, cLe, cGt, cGe, cIn, cIs, isN, wTr, blt, bLen, lenQ, bAbs, bMin, bMax, bSum, bAll, bAny, bSorted, bTuple, bList, bInt, nonE, mkT, mkL, dats, fns, wTg, setAll, setW, wipeG, idxW, slcW, itemsE, zipW, SS, List.map_cons, List.map_nil, List.length_cons, List.length_nil, Nat.zero_add, List.getElem?_cons_zero, List.getElem?_cons_succ, List.set_cons_zero, List.set_cons_succ, List.append_nil, List.nil_append, List.cons_append, List.replicate_zero, List.replicate_succ, Nat.sub_self, Nat.reduceSub, Nat.reduceAdd, Option.map_some, Option.map_none, List.take_length, wIf_dec, wIf_t, wIf_f, true_and, and_true, Nat.lt_irrefl, if_false, if_true, decide_eq_true_eq, decide_eq_false_iff_not, Bool.not_true, Bool.not_false, bne_self_eq_false, sz_le, Nat.reduceLeDiff, true_implies, not_true_eq_false, false_implies, implies_true, and_self, not_false_eq_true, wIf_not, at0, at1, at2, ix20, ix21, get_app, take_app, set_app, set_set, take_set, List.take_length, Int.reduceToNat, Int.reducePow, Int.reduceAdd, Int.reduceSub, Int.reduceMul, Int.reduceNeg, sp_is_square_in, sp_root_in, sp_law_root, hp, e2, e3]
        refine ⟨mul_l _ (by omega) (by omega), n0, n1, fun z => ⟨n0, n1, by omega, next _ _ ?_⟩, fun z => next _ _ ?_⟩
        · rw [List.filterMap_append]
          simp only [List.filterMap_cons, List.filterMap_nil, rowF, z, if_true, T3]
        · rw [List.filterMap_append]
          simp only [List.filterMap_cons, List.filterMap_nil, rowF, z, if_false, List.append_nil]
  · exact h.elim
theorem ok_first_legs : Does SS 1 b_first_legs sp_first_legs := by
  intro ws st P R h
  unfold sp_first_legs at h
  split at h
  · rename_i g
    obtain ⟨g1, g2, h⟩ := h
    have w1 : whole (.int g) 1 1000 = true := by simp only [whole, Bool.and_eq_true, decide_eq_true_eq]; omega
    simp only [b_first_legs, env0, wSs, wS, wE, wAs, wCh, wO, wC, wIt, en0, exitOk, ex0, onD, asD, asL, asQ, onL, onQ, onI, onB, onC, onV, onS, onDL, on2I, bop, bAdd, bMul, cop, cEq, cLt, cLe, cGt, cGe, cIn, cIs, isN, wTr, blt, bLen, lenQ, bAbs, bMin, bMax, bSum, bAll, bAny, bSorted, bTuple, bList, bInt, nonE, mkT, mkL, dats, fns, wTg, setAll, setW, wipeG, idxW, slcW, itemsE, zipW, SS, List.map_cons, List.map_nil, List.length_cons, List.length_nil, Nat.zero_add, List.getElem?_cons_zero, List.getElem?_cons_succ, List.set_cons_zero, List.set_cons_succ, List.append_nil, List.nil_append, List.cons_append, List.replicate_zero, List.replicate_succ, Nat.sub_self, Nat.reduceSub, Nat.reduceAdd, Option.map_some, Option.map_none, List.take_length, wIf_dec, wIf_t, wIf_f, true_and, and_true, Nat.lt_irrefl, if_false, if_true, decide_eq_true_eq, decide_eq_false_iff_not, Bool.not_true, Bool.not_false, bne_self_eq_false, sz_le, Nat.reduceLeDiff, true_implies, not_true_eq_false, false_implies, implies_true, and_self, not_false_eq_true, wIf_not, at0, at1, at2, ix20, ix21, get_app, take_app, set_app, set_set, take_set, List.take_length, Int.reduceToNat, Int.reducePow, Int.reduceAdd, Int.reduceSub, Int.reduceMul, Int.reduceNeg, sp_need_whole, sp_first_legs_in, w1]
    exact ⟨g1, g2, h⟩
  · exact h.elim
theorem ok_legs_up_to : Does SS 2 b_legs_up_to sp_legs_up_to := by
  intro ws st P R h
  unfold sp_legs_up_to at h
  split at h
  · rename_i g m
    obtain ⟨g1, g2, h1, h2, h⟩ := h
    have w1 : whole (.int g) 1 1000 = true := by simp only [whole, Bool.and_eq_true, decide_eq_true_eq]; omega
    have w2 : whole (.int m) 1 1000000000 = true := by simp only [whole, Bool.and_eq_true, decide_eq_true_eq]; omega
    simp only [b_legs_up_to, env0, wSs, wS, wE, wAs, wCh, wO, wC, wIt, en0, exitOk, ex0, onD, asD, asL, asQ, onL, onQ, onI, onB, onC, onV, onS, onDL, on2I, bop, bAdd, bMul, cop, cEq, cLt, cLe, cGt, cGe, cIn, cIs, isN, wTr, blt, bLen, lenQ, bAbs, bMin, bMax, bSum, bAll, bAny, bSorted, bTuple, bList, bInt, nonE, mkT, mkL, dats, fns, wTg, setAll, setW, wipeG, idxW, slcW, itemsE, zipW, SS, List.map_cons, List.map_nil, List.length_cons, List.length_nil, Nat.zero_add, List.getElem?_cons_zero, List.getElem?_cons_succ, List.set_cons_zero, List.set_cons_succ, List.append_nil, List.nil_append, List.cons_append, List.replicate_zero, List.replicate_succ, Nat.sub_self, Nat.reduceSub, Nat.reduceAdd, Option.map_some, Option.map_none, List.take_length, wIf_dec, wIf_t, wIf_f, true_and, and_true, Nat.lt_irrefl, if_false, if_true, decide_eq_true_eq, decide_eq_false_iff_not, Bool.not_true, Bool.not_false, bne_self_eq_false, sz_le, Nat.reduceLeDiff, true_implies, not_true_eq_false, false_implies, implies_true, and_self, not_false_eq_true, wIf_not, at0, at1, at2, ix20, ix21, get_app, take_app, set_app, set_set, take_set, List.take_length, Int.reduceToNat, Int.reducePow, Int.reduceAdd, Int.reduceSub, Int.reduceMul, Int.reduceNeg, sp_need_whole, sp_need_side, sp_all_legs, w1, w2]
    exact ⟨g1, g2, h1, h2, h⟩
  · exact h.elim
theorem backD_tg {g a c : Int} : backD a (a + g) c = if 0 < 3 * a + g - 2 * c then T3 (3 * a + g - 2 * c) (3 * a + g - 2 * c + g) (3 * c - 4 * a - 2 * g) else .none := by
  unfold backD
  have e1 : 2 * a + (a + g) - 2 * c = 3 * a + g - 2 * c := by omega
  have e2 : a + 2 * (a + g) - 2 * c = 3 * a + g - 2 * c + g := by omega
  have e3 : 3 * c - 2 * a - 2 * (a + g) = 3 * c - 4 * a - 2 * g := by omega
  rw [e1, e2, e3]
theorem ok_first_legs_of : Does SS 2 b_first_legs_of sp_first_legs_of := by
  intro ws st P R h
  unfold sp_first_legs_of at h
  split at h
  · rename_i a b c
    obtain ⟨hr, hab, h⟩ := h
    obtain ⟨t, eb⟩ := hr.tg
    have hg : 1 ≤ b - a := by omega
    generalize b - a = g at t eb hg
    subst eb
    simp only [b_first_legs_of, env0, wSs, wS, wE, wAs, wCh, wO, wC, wIt, en0, exitOk, ex0, onD, asD, asL, asQ, onL, onQ, onI, onB, onC, onV, onS, onDL, on2I, bop, bAdd, bMul, cop, cEq, cLt, cLe, cGt, cGe, cIn, cIs, isN, wTr, blt, bLen, lenQ, bAbs, bMin, bMax, bSum, bAll, bAny, bSorted, bTuple, bList, bInt, nonE, mkT, mkL, dats, fns, wTg, setAll, setW, wipeG, idxW, slcW, itemsE, zipW, SS, List.map_cons, List.map_nil, List.length_cons, List.length_nil, Nat.zero_add, List.getElem?_cons_zero, List.getElem?_cons_succ, List.set_cons_zero, List.set_cons_succ, List.append_nil, List.nil_append, List.cons_append, List.replicate_zero, List.replicate_succ, Nat.sub_self, Nat.reduceSub, Nat.reduceAdd, Option.map_some, Option.map_none, List.take_length, wIf_dec, wIf_t, wIf_f, true_and, and_true, Nat.lt_irrefl, if_false, if_true, decide_eq_true_eq, decide_eq_false_iff_not, Bool.not_true, Bool.not_false, bne_self_eq_false, sz_le, Nat.reduceLeDiff, true_implies, not_true_eq_false, false_implies, implies_true, and_self, not_false_eq_true, wIf_not, at0, at1, at2, ix20, ix21, get_app, take_app, set_app, set_set, take_set, List.take_length, Int.reduceToNat, Int.reducePow, Int.reduceAdd, Int.reduceSub, Int.reduceMul, Int.reduceNeg, sp_need_right, sp_back_legs]
    refine ⟨hr, ?_⟩
    refine whl_of (fun k Γ s => s = st ∧ ∃ a' c' : Int, Γ = [some (.d (T3 a' (a' + g) c')), some (.d (backD a' (a' + g) c'))] ∧ Tg g a' c' ∧ rootT a' (a' + g) c' = rootT a (a + g) c ∧ k = c'.toNat) _ ⟨rfl, a, c, rfl, t, rfl, rfl⟩ ?_
    clear t hr
    rintro k Γ s ⟨rfl, a', c', rfl, t, er, rfl⟩
    simp only [l_first_legs_of_0, env0, wSs, wS, wE, wAs, wCh, wO, wC, wIt, en0, exitOk, ex0, onD, asD, asL, asQ, onL, onQ, onI, onB, onC, onV, onS, onDL, on2I, bop, bAdd, bMul, cop, cEq, cLt, cLe, cGt, cGe, cIn, cIs, isN, wTr, blt, bLen, lenQ, bAbs, bMin, bMax, bSum, bAll, bAny, bSorted, bTuple, bList, bInt, nonE, mkT, mkL, dats, fns, wTg, setAll, setW, wipeG, idxW, slcW, itemsE, zipW, SS, List.map_cons, List.map_nil, List.length_cons, List.length_nil, Nat.zero_add, List.getElem?_cons_zero, List.getElem?_cons_succ, List.set_cons_zero, List.set_cons_succ, List.append_nil, List.nil_append, List.cons_append, List.replicate_zero, List.replicate_succ, Nat.sub_self, Nat.reduceSub, Nat.reduceAdd, Option.map_some, Option.map_none, List.take_length, wIf_dec, wIf_t, wIf_f, true_and, and_true, Nat.lt_irrefl, if_false, if_true, decide_eq_true_eq, decide_eq_false_iff_not, Bool.not_true, Bool.not_false, bne_self_eq_false, sz_le, Nat.reduceLeDiff, true_implies, not_true_eq_false, false_implies, implies_true, and_self, not_false_eq_true, wIf_not, at0, at1, at2, ix20, ix21, get_app, take_app, set_app, set_set, take_set, List.take_length, Int.reduceToNat, Int.reducePow, Int.reduceAdd, Int.reduceSub, Int.reduceMul, Int.reduceNeg, sp_back_legs]
    have hl := t.lt (by omega)
    by_cases q : 0 < 3 * a' + g - 2 * c'
    · have tb := t.back hg ((t.low hg).mp q)
      have eb : backD a' (a' + g) c' = T3 (3 * a' + g - 2 * c') (3 * a' + g - 2 * c' + g) (3 * c' - 4 * a' - 2 * g) := by rw [backD_tg, if_pos q]
      rw [eb]
      simp only [env0, wSs, wS, wE, wAs, wCh, wO, wC, wIt, en0, exitOk, ex0, onD, asD, asL, asQ, onL, onQ, onI, onB, onC, onV, onS, onDL, on2I, bop, bAdd, bMul, cop, cEq, cLt, cLe, cGt, cGe, cIn, cIs, isN, wTr, blt, bLen, lenQ, bAbs, bMin, bMax, bSum, bAll, bAny, bSorted, bTuple, bList, bInt, nonE, mkT, mkL, dats, fns, wTg, setAll, setW, wipeG, idxW, slcW, itemsE, zipW, SS, List.map_cons, List.map_nil, List.length_cons, List.length_nil, Nat.zero_add, List.getElem?_cons_zero, List.getElem?_cons_succ, List.set_cons_zero, List.set_cons_succ, List.append_nil, List.nil_append, List.cons_append, List.replicate_zero, List.replicate_succ, Nat.sub_self, Nat.reduceSub, Nat.reduceAdd, Option.map_some, Option.map_none, List.take_length, wIf_dec, wIf_t, wIf_f, true_and, and_true, Nat.lt_irrefl, if_false, if_true, decide_eq_true_eq, decide_eq_false_iff_not, Bool.not_true, Bool.not_false, bne_self_eq_false, sz_le, Nat.reduceLeDiff, true_implies, not_true_eq_false, false_implies, implies_true, and_self, not_false_eq_true, wIf_not, at0, at1, at2, ix20, ix21, get_app, take_app, set_app, set_set, take_set, List.take_length, Int.reduceToNat, Int.reducePow, Int.reduceAdd, Int.reduceSub, Int.reduceMul, Int.reduceNeg, T3]
      refine ⟨_, ?_, _, _, rfl, tb, ?_, rfl⟩
      · have := t.2.1; omega
      · rw [← er, rootT.eq_def a' (a' + g) c', dif_pos (by have := t.2.1; omega)]
        congr 1 <;> omega
    · have eb : backD a' (a' + g) c' = .none := by rw [backD_tg, if_neg q]
      rw [eb]
      simp only [env0, wSs, wS, wE, wAs, wCh, wO, wC, wIt, en0, exitOk, ex0, onD, asD, asL, asQ, onL, onQ, onI, onB, onC, onV, onS, onDL, on2I, bop, bAdd, bMul, cop, cEq, cLt, cLe, cGt, cGe, cIn, cIs, isN, wTr, blt, bLen, lenQ, bAbs, bMin, bMax, bSum, bAll, bAny, bSorted, bTuple, bList, bInt, nonE, mkT, mkL, dats, fns, wTg, setAll, setW, wipeG, idxW, slcW, itemsE, zipW, SS, List.map_cons, List.map_nil, List.length_cons, List.length_nil, Nat.zero_add, List.getElem?_cons_zero, List.getElem?_cons_succ, List.set_cons_zero, List.set_cons_succ, List.append_nil, List.nil_append, List.cons_append, List.replicate_zero, List.replicate_succ, Nat.sub_self, Nat.reduceSub, Nat.reduceAdd, Option.map_some, Option.map_none, List.take_length, wIf_dec, wIf_t, wIf_f, true_and, and_true, Nat.lt_irrefl, if_false, if_true, decide_eq_true_eq, decide_eq_false_iff_not, Bool.not_true, Bool.not_false, bne_self_eq_false, sz_le, Nat.reduceLeDiff, true_implies, not_true_eq_false, false_implies, implies_true, and_self, not_false_eq_true, wIf_not, at0, at1, at2, ix20, ix21, get_app, take_app, set_app, set_set, take_set, List.take_length, Int.reduceToNat, Int.reducePow, Int.reduceAdd, Int.reduceSub, Int.reduceMul, Int.reduceNeg]
      rw [← er, rootT, dif_neg (by omega)] at h
      exact h
  · exact h.elim
theorem get_app1 {α : Type} {l r : List α} {x y : α} : (l ++ x :: y :: r)[l.length + 1]? = some y := by
  rw [List.getElem?_append_right (by omega)]; simp
theorem set_app1 {α : Type} {l r : List α} {x y z : α} : (l ++ x :: y :: r).set (l.length + 1) z = l ++ x :: z :: r := by
  rw [List.set_append_right _ _ (by omega)]; simp
def t3g (g : Int) (p : Int × Int) : PyData := T3 p.1 (p.1 + g) p.2
theorem pairs_of {g : Int} : ∀ xs : List PyData, (∀ x, x ∈ xs → ∃ a c, x = T3 a (a + g) c ∧ Tg g a c) → ∃ ln : List (Int × Int), xs = ln.map (t3g g) ∧ ∀ p, p ∈ ln → Tg g p.1 p.2
  | [], _ => ⟨[], rfl, fun p h => by cases h⟩
  | x :: xs, h => by
    obtain ⟨ln, e, h2⟩ := pairs_of xs fun y hy => h y (List.mem_cons_of_mem _ hy)
    obtain ⟨a, c, rfl, t⟩ := h x List.mem_cons_self
    refine ⟨(a, c) :: ln, by rw [List.map_cons, ← e]; rfl, fun p hp => ?_⟩
    rcases List.mem_cons.mp hp with rfl | hp
    · exact t
    · exact h2 p hp
def rest (g m : Int) (ln : List (Int × Int)) : List PyData := ln.reverse.flatMap fun p => chain m p.1 (p.1 + g) p.2
theorem rest_snoc (g m : Int) (ln : List (Int × Int)) (p : Int × Int) : rest g m (ln ++ [p]) = chain m p.1 (p.1 + g) p.2 ++ rest g m ln := by
  unfold rest; rw [List.reverse_append]; rfl
theorem rest_len {g m : Int} (hg : 1 ≤ g) (hm : m ≤ 1000000000) : ∀ ln : List (Int × Int), (∀ p, p ∈ ln → Tg g p.1 p.2) → (rest g m ln).length ≤ 13 * ln.length := by
  intro ln h
  unfold rest
  rw [← List.length_reverse (as := ln)]
  have h' : ∀ p, p ∈ ln.reverse → Tg g p.1 p.2 := fun p hp => h p (List.mem_reverse.mp hp)
  generalize ln.reverse = l at h'
  induction l with
  | nil => simp
  | cons p l ih =>
    have i := ih fun q hq => h' q (List.mem_cons_of_mem _ hq)
    have t := h' p List.mem_cons_self
    have hl := t.lt (by omega)
    have k := chain_len (m := m) 13 p.1 (p.1 + g) p.2 (by omega) (by have := t.2.1; omega)
    rw [List.flatMap_cons, List.length_append, List.length_cons]
    omega
theorem rest_firsts {g m : Int} {ln : List (Int × Int)} (e : firsts g = ln.map (t3g g)) : rest g m ln = (firsts g).reverse.flatMap (chainD m) := by
  unfold rest
  rw [e, ← List.map_reverse, List.flatMap_map]
  rfl
theorem ok_all_legs : Does SS 5 b_all_legs sp_all_legs := by
  intro ws st P R h
  unfold sp_all_legs at h
  split at h
  · rename_i g m
    obtain ⟨g1, g2, h1, h2, h⟩ := h
    have hs : 1000000 ≤ sizeLine := by rw [sizeLine_eq]; decide
    have hg : 1 ≤ g := g1
    obtain ⟨l0, e0, t0⟩ := pairs_of (g := g) (firsts g) fun x hx => by
      obtain ⟨a, c, e, t, _⟩ := (firsts_mem hg).mp hx
      exact ⟨a, c, e, t⟩
    have len0 : l0.length ≤ 3000 := by
      have q1 : l0.length = (firsts g).length := by rw [e0, List.length_map]
      have q2 := List.length_filterMap_le (rowF g) (rng 1 (3 * g + 1))
      rw [rng_len] at q2
      rw [q1]; unfold firsts; omega
    have tot := rest_firsts (m := m) e0
    have lenT := rest_len (m := m) hg h2 l0 t0
    simp only [b_all_legs, env0, wSs, wS, wE, wAs, wCh, wO, wC, wIt, en0, exitOk, ex0, onD, asD, asL, asQ, onL, onQ, onI, onB, onC, onV, onS, onDL, on2I, bop, bAdd, bMul, cop, cEq, cLt, cLe, cGt, cGe, cIn, cIs, isN, wTr, blt, bLen, lenQ, bAbs, bMin, bMax, bSum, bAll, bAny, bSorted, bTuple, bList, bInt, nonE, mkT, mkL, dats, fns, wTg, setAll, setW, wipeG, idxW, slcW, itemsE, zipW, SS, List.map_cons, List.map_nil, List.length_cons, List.length_nil, Nat.zero_add, List.getElem?_cons_zero, List.getElem?_cons_succ, List.set_cons_zero, List.set_cons_succ, List.append_nil, List.nil_append, List.cons_append, List.replicate_zero, List.replicate_succ, Nat.sub_self, Nat.reduceSub, Nat.reduceAdd, Option.map_some, Option.map_none, List.take_length, wIf_dec, wIf_t, wIf_f, true_and, and_true, Nat.lt_irrefl, if_false, if_true, decide_eq_true_eq, decide_eq_false_iff_not, Bool.not_true, Bool.not_false, bne_self_eq_false, sz_le, Nat.reduceLeDiff, true_implies, not_true_eq_false, false_implies, implies_true, and_self, not_false_eq_true, wIf_not, at0, at1, at2, ix20, ix21, get_app, take_app, set_app, set_set, take_set, List.take_length, Int.reduceToNat, Int.reducePow, Int.reduceAdd, Int.reduceSub, Int.reduceMul, Int.reduceNeg, sp_first_legs_in, len_app, List.append_assoc]
    refine ⟨g1, g2, ?_⟩
    refine whl_of (fun k Γ s => ∃ (fd : List PyData) (ln : List (Int × Int)) (x : Option W), Γ = [some (.d (.int g)), some (.d (.int m)), some (.p st.length), some (.p (st.length + 1)), x] ∧ s = st ++ [.lst fd, .lst (ln.map (t3g g))] ∧ (∀ p, p ∈ ln → Tg g p.1 p.2) ∧ fd ++ rest g m ln = rest g m l0 ∧ ln.length ≤ 3000 ∧ k = (rest g m ln).length + ln.length) _
      ⟨[], l0, none, rfl, by rw [e0], t0, rfl, len0, rfl⟩ ?_
    rintro k Γ s ⟨fd, ln, x, rfl, rfl, t, e, hl, rfl⟩
    have hfd : fd.length ≤ 39000 := by
      have := congrArg List.length e
      rw [List.length_append] at this
      omega
    have plain : PyData.plainAll (ln.map (t3g g)) = true := t3_all fun x hx => by
      obtain ⟨p, _, rfl⟩ := List.mem_map.mp hx
      exact ⟨_, _, _, rfl⟩
    rcases List.eq_nil_or_concat ln with rfl | ⟨l1, p, rfl⟩
    · simp only [l_all_legs_0, env0, wSs, wS, wE, wAs, wCh, wO, wC, wIt, en0, exitOk, ex0, onD, asD, asL, asQ, onL, onQ, onI, onB, onC, onV, onS, onDL, on2I, bop, bAdd, bMul, cop, cEq, cLt, cLe, cGt, cGe, cIn, cIs, isN, wTr, blt, bLen, lenQ, bAbs, bMin, bMax, bSum, bAll, bAny, bSorted, bTuple, bList, bInt, nonE, mkT, mkL, dats, fns, wTg, setAll, setW, wipeG, idxW, slcW, itemsE, zipW, SS, List.map_cons, List.map_nil, List.length_cons, List.length_nil, Nat.zero_add, List.getElem?_cons_zero, List.getElem?_cons_succ, List.set_cons_zero, List.set_cons_succ, List.append_nil, List.nil_append, List.cons_append, List.replicate_zero, List.replicate_succ, Nat.sub_self, Nat.reduceSub, Nat.reduceAdd, Option.map_some, Option.map_none, List.take_length, wIf_dec, wIf_t, wIf_f, true_and, and_true, Nat.lt_irrefl, if_false, if_true, decide_eq_true_eq, decide_eq_false_iff_not, Bool.not_true, Bool.not_false, bne_self_eq_false, sz_le, Nat.reduceLeDiff, true_implies, not_true_eq_false, false_implies, implies_true, and_self, not_false_eq_true, wIf_not, at0, at1, at2, ix20, ix21, get_app, take_app, set_app, set_set, take_set, List.take_length, Int.reduceToNat, Int.reducePow, Int.reduceAdd, Int.reduceSub, Int.reduceMul, Int.reduceNeg, get_app1]
      refine ⟨eq_nil.1, ?_⟩
      rw [eq_nil.2]
      simp only [env0, wSs, wS, wE, wAs, wCh, wO, wC, wIt, en0, exitOk, ex0, onD, asD, asL, asQ, onL, onQ, onI, onB, onC, onV, onS, onDL, on2I, bop, bAdd, bMul, cop, cEq, cLt, cLe, cGt, cGe, cIn, cIs, isN, wTr, blt, bLen, lenQ, bAbs, bMin, bMax, bSum, bAll, bAny, bSorted, bTuple, bList, bInt, nonE, mkT, mkL, dats, fns, wTg, setAll, setW, wipeG, idxW, slcW, itemsE, zipW, SS, List.map_cons, List.map_nil, List.length_cons, List.length_nil, Nat.zero_add, List.getElem?_cons_zero, List.getElem?_cons_succ, List.set_cons_zero, List.set_cons_succ, List.append_nil, List.nil_append, List.cons_append, List.replicate_zero, List.replicate_succ, Nat.sub_self, Nat.reduceSub, Nat.reduceAdd, Option.map_some, Option.map_none, List.take_length, wIf_dec, wIf_t, wIf_f, true_and, and_true, Nat.lt_irrefl, if_false, if_true, decide_eq_true_eq, decide_eq_false_iff_not, Bool.not_true, Bool.not_false, bne_self_eq_false, sz_le, Nat.reduceLeDiff, true_implies, not_true_eq_false, false_implies, implies_true, and_self, not_false_eq_true, wIf_not, at0, at1, at2, ix20, ix21, get_app, take_app, set_app, set_set, take_set, List.take_length, Int.reduceToNat, Int.reducePow, Int.reduceAdd, Int.reduceSub, Int.reduceMul, Int.reduceNeg]
      have ef : fd = rest g m l0 := by rw [← e]; simp [rest]
      rw [ef, tot]
      refine ⟨?_, ?_⟩
      · refine sortOk_t3 _ ?_ fun x hx => ?_
        · rw [← tot]; omega
        · obtain ⟨a, c, rfl, _⟩ := (legsL_mem hg).mp ((chains_perm hg).mem_iff.mp hx)
          exact ⟨_, _, _, rfl⟩
      · rw [chains_srt hg]; exact h
    · simp only [List.concat_eq_append] at t e hl plain ⊢
      have tp := t p (by simp)
      obtain ⟨pa, pc⟩ := p
      have e2 : (List.map (t3g g) (l1 ++ [(pa, pc)])).getLast? = some (T3 pa (pa + g) pc) := by rw [List.map_append]; simp [t3g]
      have e3 : (List.map (t3g g) (l1 ++ [(pa, pc)])).dropLast = l1.map (t3g g) := by rw [List.map_append]; simp
      have ev : PyData.eqv (.list (List.map (t3g g) (l1 ++ [(pa, pc)]))) (.list []) = false := by
        rw [List.map_append]
        cases l1 <;> simp [PyData.eqv, PyData.eqvAll]
      have eo : eqOk (.list (List.map (t3g g) (l1 ++ [(pa, pc)]))) (.list []) := ⟨plain, rfl, by simp [PyData.depth, PyData.depthAll]⟩
      have hl2 : l1.length + 1 ≤ 3000 := by simpa using hl
      rw [rest_snoc] at e
      simp only [l_all_legs_0, env0, wSs, wS, wE, wAs, wCh, wO, wC, wIt, en0, exitOk, ex0, onD, asD, asL, asQ, onL, onQ, onI, onB, onC, onV, onS, onDL, on2I, bop, bAdd, bMul, cop, cEq, cLt, cLe, cGt, cGe, cIn, cIs, isN, wTr, blt, bLen, lenQ, bAbs, bMin, bMax, bSum, bAll, bAny, bSorted, bTuple, bList, bInt, nonE, mkT, mkL, dats, fns, wTg, setAll, setW, wipeG, idxW, slcW, itemsE, zipW, SS, List.map_cons, List.map_nil, List.length_cons, List.length_nil, Nat.zero_add, List.getElem?_cons_zero, List.getElem?_cons_succ, List.set_cons_zero, List.set_cons_succ, List.append_nil, List.nil_append, List.cons_append, List.replicate_zero, List.replicate_succ, Nat.sub_self, Nat.reduceSub, Nat.reduceAdd, Option.map_some, Option.map_none, List.take_length, wIf_dec, wIf_t, wIf_f, true_and, and_true, Nat.lt_irrefl, if_false, if_true, decide_eq_true_eq, decide_eq_false_iff_not, Bool.not_true, Bool.not_false, bne_self_eq_false, sz_le, Nat.reduceLeDiff, true_implies, not_true_eq_false, false_implies, implies_true, and_self, not_false_eq_true, wIf_not, at0, at1, at2, ix20, ix21, get_app, take_app, set_app, set_set, take_set, List.take_length, Int.reduceToNat, Int.reducePow, Int.reduceAdd, Int.reduceSub, Int.reduceMul, Int.reduceNeg, get_app1, set_app1, e2, e3, ev, T3]
      refine ⟨eo, fun z => ⟨by omega, ?_⟩, fun z => ?_⟩
      · obtain ⟨q1, q2, _⟩ := id tp
        have ec := chain_cons (m := m) q1 (show 0 < pa + g by omega) q2 z
        have f1 : 2 * pa + (pa + g) + 2 * pc = 3 * pa + g + 2 * pc := by omega
        have f2 : pa + 2 * (pa + g) + 2 * pc = 3 * pa + g + 2 * pc + g := by omega
        have f3 : 2 * pa + 2 * (pa + g) + 3 * pc = 4 * pa + 2 * g + 3 * pc := by omega
        rw [f1, f2, f3] at ec
        simp only [env0, wSs, wS, wE, wAs, wCh, wO, wC, wIt, en0, exitOk, ex0, onD, asD, asL, asQ, onL, onQ, onI, onB, onC, onV, onS, onDL, on2I, bop, bAdd, bMul, cop, cEq, cLt, cLe, cGt, cGe, cIn, cIs, isN, wTr, blt, bLen, lenQ, bAbs, bMin, bMax, bSum, bAll, bAny, bSorted, bTuple, bList, bInt, nonE, mkT, mkL, dats, fns, wTg, setAll, setW, wipeG, idxW, slcW, itemsE, zipW, SS, List.map_cons, List.map_nil, List.length_cons, List.length_nil, Nat.zero_add, List.getElem?_cons_zero, List.getElem?_cons_succ, List.set_cons_zero, List.set_cons_succ, List.append_nil, List.nil_append, List.cons_append, List.replicate_zero, List.replicate_succ, Nat.sub_self, Nat.reduceSub, Nat.reduceAdd, Option.map_some, Option.map_none, List.take_length, wIf_dec, wIf_t, wIf_f, true_and, and_true, Nat.lt_irrefl, if_false, if_true, decide_eq_true_eq, decide_eq_false_iff_not, Bool.not_true, Bool.not_false, bne_self_eq_false, sz_le, Nat.reduceLeDiff, true_implies, not_true_eq_false, false_implies, implies_true, and_self, not_false_eq_true, wIf_not, at0, at1, at2, ix20, ix21, get_app, take_app, set_app, set_set, take_set, List.take_length, Int.reduceToNat, Int.reducePow, Int.reduceAdd, Int.reduceSub, Int.reduceMul, Int.reduceNeg, sp_on_legs, get_app1, set_app1, T3, f1, f2, f3, List.length_map]
        refine ⟨by omega, _, ?_, fd ++ [T3 pa (pa + g) pc], l1 ++ [(3 * pa + g + 2 * pc, 4 * pa + 2 * g + 3 * pc)], _, rfl, ?_, ?_, ?_, ?_, rfl⟩
        · rw [rest_snoc, rest_snoc, ec]
          simp only [List.length_append, List.length_cons, List.length_nil]
          omega
        · rw [List.map_append]; rfl
        · intro p hp
          rcases List.mem_append.mp hp with hp | hp
          · exact t p (List.mem_append_left _ hp)
          · rw [List.mem_singleton.mp hp]
            exact tp.on (by omega)
        · rw [rest_snoc, ← e, ec, List.append_assoc]; rfl
        · simpa using hl2
      · have ec := chain_nil (a := pa) (b := pa + g) (show m < pc by omega)
        rw [ec] at e
        refine ⟨_, ?_, fd, l1, _, rfl, rfl, fun p hp => t p (List.mem_append_left _ hp), e, by omega, rfl⟩
        rw [rest_snoc, ec]
        simp only [List.length_append, List.length_cons, List.length_nil]
        omega
  · exact h.elim
theorem ok_law_later : Does SS 5 b_law_later sp_law_later := by
  intro ws st P R h
  unfold sp_law_later at h
  split at h
  · rename_i a b c
    obtain ⟨h1, h2, h3, h⟩ := h
    have hp : L2.CPow 10 9 := ⟨by decide, by decide, by decide⟩
    simp only [b_law_later, env0, wSs, wS, wE, wAs, wCh, wO, wC, wIt, en0, exitOk, ex0, onD, asD, asL, asQ, onL, onQ, onI, onB, onC, onV, onS, onDL, on2I, bop, bAdd, bMul, cop, cEq, cLt, cLe, cGt, cGe, cIn, cIs, isN, wTr, blt, bLen, lenQ, bAbs, bMin, bMax, bSum, bAll, bAny, bSorted, bTuple, bList, bInt, nonE, mkT, mkL, dats, fns, wTg, setAll, setW, wipeG, idxW, slcW, itemsE, zipW, SS, List.map_cons, List.map_nil, List.length_cons, List.length_nil, Nat.zero_add, List.getElem?_cons_zero, List.getElem?_cons_succ, List.set_cons_zero, List.set_cons_succ, List.append_nil, List.nil_append, List.cons_append, List.replicate_zero, List.replicate_succ, Nat.sub_self, Nat.reduceSub, Nat.reduceAdd, Option.map_some, Option.map_none, List.take_length, wIf_dec, wIf_t, wIf_f, true_and, and_true, Nat.lt_irrefl, if_false, if_true, decide_eq_true_eq, decide_eq_false_iff_not, Bool.not_true, Bool.not_false, bne_self_eq_false, sz_le, Nat.reduceLeDiff, true_implies, not_true_eq_false, false_implies, implies_true, and_self, not_false_eq_true, wIf_not, at0, at1, at2, ix20, ix21, get_app, take_app, set_app, set_set, take_set, List.take_length, Int.reduceToNat, Int.reducePow, Int.reduceAdd, Int.reduceSub, Int.reduceMul, Int.reduceNeg, m2, m3]
    refine ⟨sortOk3 _ _ _, ?_⟩
    rw [srt3 _ _ _ (by omega) (by omega), if_pos (by omega), if_pos (by omega)]
    simp only [env0, wSs, wS, wE, wAs, wCh, wO, wC, wIt, en0, exitOk, ex0, onD, asD, asL, asQ, onL, onQ, onI, onB, onC, onV, onS, onDL, on2I, bop, bAdd, bMul, cop, cEq, cLt, cLe, cGt, cGe, cIn, cIs, isN, wTr, blt, bLen, lenQ, bAbs, bMin, bMax, bSum, bAll, bAny, bSorted, bTuple, bList, bInt, nonE, mkT, mkL, dats, fns, wTg, setAll, setW, wipeG, idxW, slcW, itemsE, zipW, SS, List.map_cons, List.map_nil, List.length_cons, List.length_nil, Nat.zero_add, List.getElem?_cons_zero, List.getElem?_cons_succ, List.set_cons_zero, List.set_cons_succ, List.append_nil, List.nil_append, List.cons_append, List.replicate_zero, List.replicate_succ, Nat.sub_self, Nat.reduceSub, Nat.reduceAdd, Option.map_some, Option.map_none, List.take_length, wIf_dec, wIf_t, wIf_f, true_and, and_true, Nat.lt_irrefl, if_false, if_true, decide_eq_true_eq, decide_eq_false_iff_not, Bool.not_true, Bool.not_false, bne_self_eq_false, sz_le, Nat.reduceLeDiff, true_implies, not_true_eq_false, false_implies, implies_true, and_self, not_false_eq_true, wIf_not, at0, at1, at2, ix20, ix21, get_app, take_app, set_app, set_set, take_set, List.take_length, Int.reduceToNat, Int.reducePow, Int.reduceAdd, Int.reduceSub, Int.reduceMul, Int.reduceNeg, hp]
    refine ⟨fun z => ?_, fun z => ?_⟩
    · simpa only [onT, z, if_true] using h
    · simpa only [onT, z, if_false] using h
  · exact h.elim
end Q81
namespace Q81
open PySem Z
theorem ok_law_all : Does SS 6 b_law_all sp_law_all := by
  intro ws st P R h
  unfold sp_law_all at h
  split at h
  · rename_i g m
    obtain ⟨g1, g2, h1, h2, h⟩ := h
    have hs : 1000001 ≤ sizeLine := by rw [sizeLine_eq]; decide
    simp only [b_law_all, env0, wSs, wS, wE, wAs, wCh, wO, wC, wIt, en0, exitOk, ex0, onD, asD, asL, asQ, onL, onQ, onI, onB, onC, onV, onS, onDL, on2I, bop, bAdd, bMul, cop, cEq, cLt, cLe, cGt, cGe, cIn, cIs, isN, wTr, blt, bLen, lenQ, bAbs, bMin, bMax, bSum, bAll, bAny, bSorted, bTuple, bList, bInt, nonE, mkT, mkL, dats, fns, wTg, setAll, setW, wipeG, idxW, slcW, itemsE, zipW, SS, List.map_cons, List.map_nil, List.length_cons, List.length_nil, Nat.zero_add, List.getElem?_cons_zero, List.getElem?_cons_succ, List.set_cons_zero, List.set_cons_succ, List.append_nil, List.nil_append, List.cons_append, List.replicate_zero, List.replicate_succ, Nat.sub_self, Nat.reduceSub, Nat.reduceAdd, Option.map_some, Option.map_none, List.take_length, wIf_dec, wIf_t, wIf_f, true_and, and_true, Nat.lt_irrefl, if_false, if_true, decide_eq_true_eq, decide_eq_false_iff_not, Bool.not_true, Bool.not_false, bne_self_eq_false, sz_le, Nat.reduceLeDiff, true_implies, not_true_eq_false, false_implies, implies_true, and_self, not_false_eq_true, wIf_not, at0, at1, at2, ix20, ix21, get_app, take_app, set_app, set_set, take_set, List.take_length, Int.reduceToNat, Int.reducePow, Int.reduceAdd, Int.reduceSub, Int.reduceMul, Int.reduceNeg]
    refine whl_of (fun k Γ s => ∃ (L : Int) (x y : Option W), Γ = [some (.d (.int g)), some (.d (.int m)), some (.p st.length), some (.d (.int L)), x, y] ∧ s = st ++ [.lst ((rng 1 L).filterMap (rowM g m))] ∧ 1 ≤ L ∧ L ≤ m + 1 ∧ k = (m + 2 - L).toNat) _
      ⟨1, none, none, rfl, by rw [rng_nil]; rfl, by omega, by omega, rfl⟩ ?_
    rintro k Γ s ⟨L, x, y, rfl, rfl, a1, a2, rfl⟩
    have ms : ∀ i j : Int, -100000000 < i → i < 100000000 → MulOk i j := fun i j z1 z2 => mul_l _ (by omega) (by omega)
    have hlen : ((rng 1 L).filterMap (rowM g m)).length ≤ 1000000 := by
      have := List.length_filterMap_le (rowM g m) (rng 1 L)
      rw [rng_len] at this
      omega
    have n0 : 0 ≤ leg2 g L := by
      have q1 := Int.mul_nonneg (show 0 ≤ L by omega) (show 0 ≤ L by omega)
      have q2 := Int.mul_nonneg (show 0 ≤ L + g by omega) (show 0 ≤ L + g by omega)
      unfold leg2; omega
    have n1 : leg2 g L < 2 ^ 80 := by
      have q1 := Int.mul_le_mul (show L ≤ 10000000 by omega) (show L ≤ 10000000 by omega) (by omega) (by omega)
      have q2 := Int.mul_le_mul (show L + g ≤ 10000000 by omega) (show L + g ≤ 10000000 by omega) (by omega) (by omega)
      unfold leg2; omega
    have e3 : L * L + (L + g) * (L + g) = leg2 g L := rfl
    simp only [l_law_all_0, env0, wSs, wS, wE, wAs, wCh, wO, wC, wIt, en0, exitOk, ex0, onD, asD, asL, asQ, onL, onQ, onI, onB, onC, onV, onS, onDL, on2I, bop, bAdd, bMul, cop, cEq, cLt, cLe, cGt, cGe, cIn, cIs, isN, wTr, blt, bLen, lenQ, bAbs, bMin, bMax, bSum, bAll, bAny, bSorted, bTuple, bList, bInt, nonE, mkT, mkL, dats, fns, wTg, setAll, setW, wipeG, idxW, slcW, itemsE, zipW, SS, List.map_cons, List.map_nil, List.length_cons, List.length_nil, Nat.zero_add, List.getElem?_cons_zero, List.getElem?_cons_succ, List.set_cons_zero, List.set_cons_succ, List.append_nil, List.nil_append, List.cons_append, List.replicate_zero, List.replicate_succ, Nat.sub_self, Nat.reduceSub, Nat.reduceAdd, Option.map_some, Option.map_none, List.take_length, wIf_dec, wIf_t, wIf_f, true_and, and_true, Nat.lt_irrefl, if_false, if_true, decide_eq_true_eq, decide_eq_false_iff_not, Bool.not_true, Bool.not_false, bne_self_eq_false, sz_le, Nat.reduceLeDiff, true_implies, not_true_eq_false, false_implies, implies_true, and_self, not_false_eq_true, wIf_not, at0, at1, at2, ix20, ix21, get_app, take_app, set_app, set_set, take_set, List.take_length, Int.reduceToNat, Int.reducePow, Int.reduceAdd, Int.reduceSub, Int.reduceMul, Int.reduceNeg, e3, sp_law_root]
    refine ⟨ms _ _ (by omega) (by omega), ms _ _ (by omega) (by omega), ms _ _ (by omega) (by omega), fun z => ?_, fun z => ?_⟩
    · have hL : L ≤ m := le_sq (by
        have q2 := Int.mul_nonneg (show 0 ≤ L + g by omega) (show 0 ≤ L + g by omega)
        unfold leg2 at z; omega) (by omega)
      have hr := rt_nn (leg2 g L)
      have hr2 : rt (leg2 g L) ≤ m := le_sq (by have := rt_sq_le n0; omega) (by omega)
      refine ⟨ms _ _ (by omega) (by omega), ms _ _ (by omega) (by omega), n0, n1, ms _ _ (by omega) (by omega), fun z2 => ?_, fun z2 => ?_⟩
      · refine ⟨by omega, _, ?_, L + 1, _, _, rfl, ?_, by omega, by omega, rfl⟩
        · omega
        · rw [rng_succ a1, List.filterMap_append]
          simp only [List.filterMap_cons, List.filterMap_nil, rowM, z2, hr2, and_self, if_true, T3]
      · refine ⟨_, ?_, L + 1, _, _, rfl, ?_, by omega, by omega, rfl⟩
        · omega
        · rw [rng_succ a1, List.filterMap_append]
          simp only [List.filterMap_cons, List.filterMap_nil, rowM, z2, false_and, if_false, List.append_nil]
    · have e : legsL g m = (rng 1 L).filterMap (rowM g m) := by
        unfold legsL
        rw [rng_app a1 a2, List.filterMap_append]
        have q : (rng L (m + 1)).filterMap (rowM g m) = [] := by
          rw [List.filterMap_eq_nil_iff]
          intro x hx
          have hx := rng_mem.mp hx
          unfold rowM
          rw [if_neg]
          rintro ⟨q1, q2⟩
          have q3 := Int.mul_le_mul q2 q2 (rt_nn _) (by omega)
          have q4 := Int.mul_le_mul hx.1 hx.1 (by omega) (by omega)
          have q5 := Int.mul_le_mul (show L + g ≤ x + g by omega) (show L + g ≤ x + g by omega) (by omega) (by omega)
          unfold leg2 at q1 q3 z
          omega
        rw [q, List.append_nil]
      rw [e] at h
      exact .inl h
  · exact h.elim
theorem wIf_K {b : Bool} {K : Option PyData → Store → Prop} {x : PyData} {s : Store} (h : K (if b = true then some x else none) s) : wIf b (K (some x) s) (K none s) := by cases b <;> simpa [wIf] using h
/-! ### small gaps -/
def onX : PyData → PyData | .tuple [.int a, .int b, .int c] => onT a b c | _ => .none
theorem Tg.rect {g a c : Int} (hg : 0 ≤ g) (t : Tg g a c) (h : c ≤ 1000000000) : Rect a (a + g) c := by
  have hl := t.lt hg
  obtain ⟨h1, h2, e⟩ := t
  exact ⟨⟨by omega, by omega, by omega, by omega, h⟩, e⟩
theorem onT_tg {g a c : Int} : onT a (a + g) c = if 4 * a + 2 * g + 3 * c ≤ 1000000000 then T3 (3 * a + g + 2 * c) (3 * a + g + 2 * c + g) (4 * a + 2 * g + 3 * c) else .none := by
  unfold onT
  have e1 : 2 * a + (a + g) + 2 * c = 3 * a + g + 2 * c := by omega
  have e2 : a + 2 * (a + g) + 2 * c = 3 * a + g + 2 * c + g := by omega
  have e3 : 2 * a + 2 * (a + g) + 3 * c = 4 * a + 2 * g + 3 * c := by omega
  rw [e1, e2, e3]
theorem flat_onT (k : Nat) (a b c : Int) : flat (k + 1) (onT a b c) = true := by
  unfold onT; split <;> simp [flat, flats]
theorem legs_t3 {g m : Int} (hg : 1 ≤ g) : ∀ x, x ∈ legsL g m → ∃ a b c, x = T3 a b c := fun x hx => by
  obtain ⟨a, c, e, _⟩ := (legsL_mem hg).mp hx
  exact ⟨_, _, _, e⟩
theorem firsts_t3 {g : Int} (hg : 1 ≤ g) : ∀ x, x ∈ firsts g → ∃ a b c, x = T3 a b c := fun x hx => by
  obtain ⟨a, c, e, _⟩ := (firsts_mem hg).mp hx
  exact ⟨_, _, _, e⟩
theorem legs_len {g m : Int} (h : m ≤ 1000000) : (legsL g m).length ≤ 1000000 := by
  have h1 := List.length_filterMap_le (rowM g m) (rng 1 (m + 1))
  rw [rng_len] at h1
  unfold legsL; omega
theorem firsts_len {g : Int} (h : g ≤ 1000) : (firsts g).length ≤ 3000 := by
  have h1 := List.length_filterMap_le (rowF g) (rng 1 (3 * g + 1))
  rw [rng_len] at h1
  unfold firsts; omega
theorem flat_t3s {k : Nat} {xs : List PyData} (h : ∀ x, x ∈ xs → ∃ a b c, x = T3 a b c) (hl : xs.length ≤ 1000000) : flat (k + 2) (.tuple xs) = true := by
  simp only [flat, Bool.and_eq_true, decide_eq_true_eq]
  refine ⟨flats_of fun x hx => ?_, hl⟩
  obtain ⟨a, b, c, rfl⟩ := h x hx
  rfl
/-- a comprehension over data -/
theorem fm_map {f : W → Option PyData} {F : PyData → PyData} : ∀ {xs : List PyData}, (∀ x, x ∈ xs → f (.d x) = some (F x)) → (xs.map W.d).filterMap f = xs.map F
  | [], _ => rfl
  | x :: xs, h => by rw [List.map_cons, List.filterMap_cons, h x List.mem_cons_self, fm_map fun y hy => h y (List.mem_cons_of_mem _ hy)]; rfl
theorem fm_filter {f : W → Option PyData} {p : PyData → Bool} : ∀ {xs : List PyData}, (∀ x, x ∈ xs → f (.d x) = if p x = true then some x else none) → (xs.map W.d).filterMap f = xs.filter p
  | [], _ => rfl
  | x :: xs, h => by
    rw [List.map_cons, List.filterMap_cons, h x List.mem_cons_self, List.filter_cons, fm_filter fun y hy => h y (List.mem_cons_of_mem _ hy)]
    cases p x <;> rfl
theorem zip_filter {F : PyData → PyData} {p : PyData → Bool} {f : W → Option PyData} : ∀ {xs : List PyData}, (∀ x, x ∈ xs → f (.d (.tuple [x, F x])) = if p x = true then some x else none) → (zipD xs (xs.map F)).filterMap f = xs.filter p
  | [], _ => rfl
  | x :: xs, h => by
    show ((W.d (.tuple [x, F x])) :: zipD xs (xs.map F)).filterMap f = _
    rw [List.filterMap_cons, h x List.mem_cons_self, List.filter_cons, zip_filter fun y hy => h y (List.mem_cons_of_mem _ hy)]
    cases p x <;> rfl
theorem filter_one {xs : List PyData} {p : PyData → Bool} {x : PyData} (nd : xs.Nodup) (hx : x ∈ xs) (hp : ∀ y, y ∈ xs → (p y = true ↔ y = x)) : xs.filter p = [x] := by
  have pm : (xs.filter p).Perm [x] := (List.perm_ext_iff_of_nodup (nd.filter _) (by simp)).mpr fun y => by
    rw [List.mem_filter, List.mem_singleton]
    constructor
    · rintro ⟨h1, h2⟩; exact (hp y h1).mp h2
    · rintro rfl; exact ⟨hx, (hp _ hx).mpr rfl⟩
  exact List.perm_singleton.mp pm
/-- which of all hands on to this one -/
theorem ahead_is {g m a c : Int} (hg : 1 ≤ g) (hm : m ≤ 1000000) (t : Tg g a c) (hc : c ≤ m) : (legsL g m).filter (fun x => PyData.eqv (onX x) (T3 a (a + g) c)) = if 0 < 3 * a + g - 2 * c then [T3 (3 * a + g - 2 * c) (3 * a + g - 2 * c + g) (3 * c - 4 * a - 2 * g)] else [] := by
  have nd : (legsL g m).Nodup := (legsL_pw hg).imp fun {x y} q e => by subst e; omega
  have key : ∀ {a' c' : Int}, Tg g a' c' → c' ≤ m → PyData.eqv (onT a' (a' + g) c') (T3 a (a + g) c) = decide (3 * a' + g + 2 * c' = a ∧ 4 * a' + 2 * g + 3 * c' = c) := fun {a' c'} t' h' => by
    rw [onT_tg, if_pos (by have := t'.lt (by omega); omega), t3_eqv]
    congr 1
    apply propext
    constructor
    · rintro ⟨q1, _, q3⟩; exact ⟨q1, q3⟩
    · rintro ⟨q1, q3⟩; exact ⟨q1, by omega, q3⟩
  split
  · rename_i q
    have tb := t.back hg ((t.low hg).mp q)
    have hl := t.lt (by omega)
    refine filter_one nd ((legsL_mem hg).mpr ⟨_, _, rfl, tb, by omega⟩) fun y hy => ?_
    obtain ⟨a', c', rfl, t', h'⟩ := (legsL_mem hg).mp hy
    show PyData.eqv (onT a' (a' + g) c') _ = true ↔ _
    rw [key t' h', decide_eq_true_eq, t3_inj]
    constructor
    · rintro ⟨q1, q2⟩; omega
    · rintro ⟨q1, q2, q3⟩; omega
  · rename_i q
    rw [List.filter_eq_nil_iff]
    intro y hy
    obtain ⟨a', c', rfl, t', h'⟩ := (legsL_mem hg).mp hy
    show ¬ PyData.eqv (onT a' (a' + g) c') _ = true
    rw [key t' h', decide_eq_true_eq]
    rintro ⟨q1, q2⟩
    have := t'.1
    omega
theorem firsts_are {g : Int} (hg : 1 ≤ g) : (legsL g (5 * g)).filter (fun x => match x with | .tuple [.int a, .int b, .int c] => isN (.d (backD a b c)) | _ => false) = firsts g := by
  refine rising_eq (f := first1) ((legsL_pw hg).filter _) (firsts_pw hg) fun x => ?_
  rw [List.mem_filter, legsL_mem hg, firsts_mem hg]
  constructor
  · rintro ⟨⟨a, c, rfl, t, h⟩, h2⟩
    refine ⟨a, c, rfl, t, ?_⟩
    have h2 : isN (.d (backD a (a + g) c)) = true := h2
    rw [backD_tg] at h2
    split at h2
    · cases h2
    · rename_i q
      have := mt (t.low hg).mpr q
      omega
  · rintro ⟨a, c, rfl, t, h⟩
    have q : ¬ 0 < 3 * a + g - 2 * c := fun q => by have := (t.low hg).mp q; omega
    refine ⟨⟨a, c, rfl, t, ?_⟩, ?_⟩
    · refine le_sq ?_ (by omega)
      have q1 := Int.mul_le_mul h h (by have := t.1; omega) (by omega)
      have q2 := Int.mul_le_mul (show a + g ≤ 4 * g by omega) (show a + g ≤ 4 * g by omega) (by have := t.1; omega) (by omega)
      have e := t.2.2
      grind
    · show isN (.d (backD a (a + g) c)) = true
      rw [backD_tg, if_neg q]; rfl
theorem ok_law_small_right : Does SS 9 b_law_small_right sp_law_small_right := by
  intro ws st P R h
  unfold sp_law_small_right at h
  split at h
  · rename_i g m
    obtain ⟨g1, g2, h1, h2, h⟩ := h
    have hg : 1 ≤ g := g1
    have hs : 1000000 ≤ sizeLine := by rw [sizeLine_eq]; decide
    have len := legs_len (g := g) (m := m) (by omega)
    have len5 := legs_len (g := g) (m := 5 * g) (by omega)
    have tg : ∀ {M : Int}, M ≤ 1000 → ∀ x, x ∈ legsL g M → ∃ a c, x = T3 a (a + g) c ∧ Tg g a c ∧ c ≤ M ∧ Rect a (a + g) c ∧ a < a + g := fun {M} hM x hx => by
      obtain ⟨a, c, e, t, hc⟩ := (legsL_mem hg).mp hx
      exact ⟨a, c, e, t, hc, t.rect (by omega) (by omega), by omega⟩
    have c0 : ∀ (Γ : Env') (s : Store) (Q : Post) (R' : XP), Γ[2]? = some (some (.d (.list (legsL g m)))) → Γ.length = 9 → Q (.d (.list ((legsL g m).map onX))) s → wE SS c_law_small_right_0 Γ s Q R' := by
      intro Γ s Q R' hG hl hQ
      unfold c_law_small_right_0
      simp only [wE, wIt, hG, itemsE]
      refine wLoop_map (fun w => match w with | .d x => some (onX x) | _ => none) _ _ (fun w hw K hK => ?_) (by simp; omega) (by rw [fm_map (F := onX) (fun _ _ => rfl)]; exact hQ)
      obtain ⟨x, hx, rfl⟩ := List.mem_map.mp hw
      obtain ⟨a, c, rfl, t, hc, hr, hab⟩ := tg h2 x hx
      match Γ, hl with
      | [_, _, _, _, _, _, _, _, _], _ =>
        simp only [env0, wSs, wS, wE, wAs, wCh, wO, wC, wIt, en0, exitOk, ex0, onD, asD, asL, asQ, onL, onQ, onI, onB, onC, onV, onS, onDL, on2I, bop, bAdd, bMul, cop, cEq, cLt, cLe, cGt, cGe, cIn, cIs, isN, wTr, blt, bLen, lenQ, bAbs, bMin, bMax, bSum, bAll, bAny, bSorted, bTuple, bList, bInt, nonE, mkT, mkL, dats, fns, wTg, setAll, setW, wipeG, idxW, slcW, itemsE, zipW, SS, List.map_cons, List.map_nil, List.length_cons, List.length_nil, Nat.zero_add, List.getElem?_cons_zero, List.getElem?_cons_succ, List.set_cons_zero, List.set_cons_succ, List.append_nil, List.nil_append, List.cons_append, List.replicate_zero, List.replicate_succ, Nat.sub_self, Nat.reduceSub, Nat.reduceAdd, Option.map_some, Option.map_none, List.take_length, wIf_dec, wIf_t, wIf_f, true_and, and_true, Nat.lt_irrefl, if_false, if_true, decide_eq_true_eq, decide_eq_false_iff_not, Bool.not_true, Bool.not_false, bne_self_eq_false, sz_le, Nat.reduceLeDiff, true_implies, not_true_eq_false, false_implies, implies_true, and_self, not_false_eq_true, wIf_not, at0, at1, at2, ix20, ix21, get_app, take_app, set_app, set_set, take_set, List.take_length, Int.reduceToNat, Int.reducePow, Int.reduceAdd, Int.reduceSub, Int.reduceMul, Int.reduceNeg, sp_law_later, T3]
        exact ⟨t.1, hab, t.2.1, hK⟩
    have c1 : ∀ (Γ : Env') (s : Store) (Q : Post) (R' : XP), Γ[2]? = some (some (.d (.list (legsL g m)))) → Γ.length = 9 → Q (.d (.list ((legsL g m).map onX))) s → wE SS c_law_small_right_1 Γ s Q R' := by
      intro Γ s Q R' hG hl hQ
      unfold c_law_small_right_1
      simp only [wE, wIt, hG, itemsE]
      refine wLoop_map (fun w => match w with | .d x => some (onX x) | _ => none) _ _ (fun w hw K hK => ?_) (by simp; omega) (by rw [fm_map (F := onX) (fun _ _ => rfl)]; exact hQ)
      obtain ⟨x, hx, rfl⟩ := List.mem_map.mp hw
      obtain ⟨a, c, rfl, t, hc, hr, hab⟩ := tg h2 x hx
      match Γ, hl with
      | [_, _, _, _, _, _, _, _, _], _ =>
        simp only [env0, wSs, wS, wE, wAs, wCh, wO, wC, wIt, en0, exitOk, ex0, onD, asD, asL, asQ, onL, onQ, onI, onB, onC, onV, onS, onDL, on2I, bop, bAdd, bMul, cop, cEq, cLt, cLe, cGt, cGe, cIn, cIs, isN, wTr, blt, bLen, lenQ, bAbs, bMin, bMax, bSum, bAll, bAny, bSorted, bTuple, bList, bInt, nonE, mkT, mkL, dats, fns, wTg, setAll, setW, wipeG, idxW, slcW, itemsE, zipW, SS, List.map_cons, List.map_nil, List.length_cons, List.length_nil, Nat.zero_add, List.getElem?_cons_zero, List.getElem?_cons_succ, List.set_cons_zero, List.set_cons_succ, List.append_nil, List.nil_append, List.cons_append, List.replicate_zero, List.replicate_succ, Nat.sub_self, Nat.reduceSub, Nat.reduceAdd, Option.map_some, Option.map_none, List.take_length, wIf_dec, wIf_t, wIf_f, true_and, and_true, Nat.lt_irrefl, if_false, if_true, decide_eq_true_eq, decide_eq_false_iff_not, Bool.not_true, Bool.not_false, bne_self_eq_false, sz_le, Nat.reduceLeDiff, true_implies, not_true_eq_false, false_implies, implies_true, and_self, not_false_eq_true, wIf_not, at0, at1, at2, ix20, ix21, get_app, take_app, set_app, set_set, take_set, List.take_length, Int.reduceToNat, Int.reducePow, Int.reduceAdd, Int.reduceSub, Int.reduceMul, Int.reduceNeg, sp_legs_on, T3]
        exact ⟨hr, hK⟩
    have c2 : ∀ (Γ : Env') (s : Store) (Q : Post) (R' : XP) (a c : Int), Tg g a c → c ≤ m → Γ[2]? = some (some (.d (.list (legsL g m)))) → Γ[3]? = some (some (.d (.list ((legsL g m).map onX)))) → Γ[4]? = some (some (.d (T3 a (a + g) c))) → Γ.length = 9 →
        Q (.d (.list (if 0 < 3 * a + g - 2 * c then [T3 (3 * a + g - 2 * c) (3 * a + g - 2 * c + g) (3 * c - 4 * a - 2 * g)] else []))) s → wE SS c_law_small_right_2 Γ s Q R' := by
      intro Γ s Q R' a c t hc hG hG3 hG4 hl hQ
      unfold c_law_small_right_2
      simp only [wE, wIt, hG, hG3, zipW]
      refine wLoop_map (fun w => match w with | .d (.tuple [x, y]) => if PyData.eqv y (T3 a (a + g) c) = true then some x else none | _ => none) _ _ (fun w hw K hK => ?_) (by simp [zipD]; omega)
        (by rw [zip_filter (F := onX) (p := fun x => PyData.eqv (onX x) (T3 a (a + g) c)) (fun _ _ => rfl), ahead_is hg (by omega) t hc]; exact hQ)
      have : ∃ x, x ∈ legsL g m ∧ w = .d (.tuple [x, onX x]) := by
        have gen : ∀ (xs : List PyData) (w : W), w ∈ zipD xs (xs.map onX) → ∃ x, x ∈ xs ∧ w = .d (.tuple [x, onX x]) := by
          intro xs
          induction xs with
          | nil => intro w hw; simp [zipD] at hw
          | cons x xs ih =>
            intro w hw
            rw [show zipD (x :: xs) ((x :: xs).map onX) = (W.d (.tuple [x, onX x])) :: zipD xs (xs.map onX) from rfl] at hw
            rcases List.mem_cons.mp hw with rfl | hw
            · exact ⟨x, List.mem_cons_self, rfl⟩
            · obtain ⟨y, hy, e⟩ := ih w hw
              exact ⟨y, List.mem_cons_of_mem _ hy, e⟩
        exact gen _ _ hw
      obtain ⟨x, hx, rfl⟩ := this
      obtain ⟨a', c', rfl, t', hc', hr', hab'⟩ := tg h2 x hx
      have eo : eqOk (onX (T3 a' (a' + g) c')) (T3 a (a + g) c) := by
        show eqOk (onT a' (a' + g) c') _
        rw [onT_tg]
        split
        · exact eq_t3 ..
        · exact (eq_non ..).1
      have hcase : (∃ p q r, onX (T3 a' (a' + g) c') = T3 p q r) ∨ onX (T3 a' (a' + g) c') = .none := by
        show (∃ p q r, onT a' (a' + g) c' = T3 p q r) ∨ onT a' (a' + g) c' = .none
        rw [onT_tg]
        split
        · exact .inl ⟨_, _, _, rfl⟩
        · exact .inr rfl
      match Γ, hl with
      | [_, _, _, _, x4, _, _, _, _], _ =>
        have hG4 : x4 = some (.d (T3 a (a + g) c)) := by simpa using hG4
        subst hG4
        rcases hcase with ⟨p, q, r, e⟩ | e
        · rw [e] at eo hK ⊢
          simp only [env0, wSs, wS, wE, wAs, wCh, wO, wC, wIt, en0, exitOk, ex0, onD, asD, asL, asQ, onL, onQ, onI, onB, onC, onV, onS, onDL, on2I, bop, bAdd, bMul, cop, cEq, cLt, cLe, cGt, cGe, cIn, cIs, isN, wTr, blt, bLen, lenQ, bAbs, bMin, bMax, bSum, bAll, bAny, bSorted, bTuple, bList, bInt, nonE, mkT, mkL, dats, fns, wTg, setAll, setW, wipeG, idxW, slcW, itemsE, zipW, SS, List.map_cons, List.map_nil, List.length_cons, List.length_nil, Nat.zero_add, List.getElem?_cons_zero, List.getElem?_cons_succ, List.set_cons_zero, List.set_cons_succ, List.append_nil, List.nil_append, List.cons_append, List.replicate_zero, List.replicate_succ, Nat.sub_self, Nat.reduceSub, Nat.reduceAdd, Option.map_some, Option.map_none, List.take_length, wIf_dec, wIf_t, wIf_f, true_and, and_true, Nat.lt_irrefl, if_false, if_true, decide_eq_true_eq, decide_eq_false_iff_not, Bool.not_true, Bool.not_false, bne_self_eq_false, sz_le, Nat.reduceLeDiff, true_implies, not_true_eq_false, false_implies, implies_true, and_self, not_false_eq_true, wIf_not, at0, at1, at2, ix20, ix21, get_app, take_app, set_app, set_set, take_set, List.take_length, Int.reduceToNat, Int.reducePow, Int.reduceAdd, Int.reduceSub, Int.reduceMul, Int.reduceNeg, T3]
          exact ⟨eo, wIf_K hK⟩
        · rw [e] at eo hK ⊢
          simp only [env0, wSs, wS, wE, wAs, wCh, wO, wC, wIt, en0, exitOk, ex0, onD, asD, asL, asQ, onL, onQ, onI, onB, onC, onV, onS, onDL, on2I, bop, bAdd, bMul, cop, cEq, cLt, cLe, cGt, cGe, cIn, cIs, isN, wTr, blt, bLen, lenQ, bAbs, bMin, bMax, bSum, bAll, bAny, bSorted, bTuple, bList, bInt, nonE, mkT, mkL, dats, fns, wTg, setAll, setW, wipeG, idxW, slcW, itemsE, zipW, SS, List.map_cons, List.map_nil, List.length_cons, List.length_nil, Nat.zero_add, List.getElem?_cons_zero, List.getElem?_cons_succ, List.set_cons_zero, List.set_cons_succ, List.append_nil, List.nil_append, List.cons_append, List.replicate_zero, List.replicate_succ, Nat.sub_self, Nat.reduceSub, Nat.reduceAdd, Option.map_some, Option.map_none, List.take_length, wIf_dec, wIf_t, wIf_f, true_and, and_true, Nat.lt_irrefl, if_false, if_true, decide_eq_true_eq, decide_eq_false_iff_not, Bool.not_true, Bool.not_false, bne_self_eq_false, sz_le, Nat.reduceLeDiff, true_implies, not_true_eq_false, false_implies, implies_true, and_self, not_false_eq_true, wIf_not, at0, at1, at2, ix20, ix21, get_app, take_app, set_app, set_set, take_set, List.take_length, Int.reduceToNat, Int.reducePow, Int.reduceAdd, Int.reduceSub, Int.reduceMul, Int.reduceNeg, T3]
          exact ⟨eo, wIf_K hK⟩
    have c3 : ∀ (Γ : Env') (s : Store) (Q : Post) (R' : XP), Γ[0]? = some (some (.d (.int g))) → Γ.length = 9 → Q (.d (.list (firsts g))) s → wE SS c_law_small_right_3 Γ s Q R' := by
      intro Γ s Q R' hG hl hQ
      unfold c_law_small_right_3
      match Γ, hl with
      | [x0, _, _, _, _, _, _, _, _], _ =>
        have hG : x0 = some (.d (.int g)) := by simpa using hG
        subst hG
        simp only [env0, wSs, wS, wE, wAs, wCh, wO, wC, wIt, en0, exitOk, ex0, onD, asD, asL, asQ, onL, onQ, onI, onB, onC, onV, onS, onDL, on2I, bop, bAdd, bMul, cop, cEq, cLt, cLe, cGt, cGe, cIn, cIs, isN, wTr, blt, bLen, lenQ, bAbs, bMin, bMax, bSum, bAll, bAny, bSorted, bTuple, bList, bInt, nonE, mkT, mkL, dats, fns, wTg, setAll, setW, wipeG, idxW, slcW, itemsE, zipW, SS, List.map_cons, List.map_nil, List.length_cons, List.length_nil, Nat.zero_add, List.getElem?_cons_zero, List.getElem?_cons_succ, List.set_cons_zero, List.set_cons_succ, List.append_nil, List.nil_append, List.cons_append, List.replicate_zero, List.replicate_succ, Nat.sub_self, Nat.reduceSub, Nat.reduceAdd, Option.map_some, Option.map_none, List.take_length, wIf_dec, wIf_t, wIf_f, true_and, and_true, Nat.lt_irrefl, if_false, if_true, decide_eq_true_eq, decide_eq_false_iff_not, Bool.not_true, Bool.not_false, bne_self_eq_false, sz_le, Nat.reduceLeDiff, true_implies, not_true_eq_false, false_implies, implies_true, and_self, not_false_eq_true, wIf_not, at0, at1, at2, ix20, ix21, get_app, take_app, set_app, set_set, take_set, List.take_length, Int.reduceToNat, Int.reducePow, Int.reduceAdd, Int.reduceSub, Int.reduceMul, Int.reduceNeg, sp_law_all]
        refine ⟨mul_l _ (by omega) (by omega), g1, by omega, by omega, by omega, ?_⟩
        refine wLoop_map (fun w => match w with | .d x => if (match x with | .tuple [.int a, .int b, .int c] => isN (.d (backD a b c)) | _ => false) = true then some x else none | _ => none) _ _ (fun w hw K hK => ?_) (by simp; omega)
          (by rw [fm_filter (p := fun x => match x with | .tuple [.int a, .int b, .int c] => isN (.d (backD a b c)) | _ => false) (fun _ _ => rfl), firsts_are hg]; exact hQ)
        obtain ⟨x, hx, rfl⟩ := List.mem_map.mp hw
        obtain ⟨a, c, rfl, t, hc, hr, hab⟩ := tg (M := 5 * g) (by omega) x hx
        simp only [env0, wSs, wS, wE, wAs, wCh, wO, wC, wIt, en0, exitOk, ex0, onD, asD, asL, asQ, onL, onQ, onI, onB, onC, onV, onS, onDL, on2I, bop, bAdd, bMul, cop, cEq, cLt, cLe, cGt, cGe, cIn, cIs, isN, wTr, blt, bLen, lenQ, bAbs, bMin, bMax, bSum, bAll, bAny, bSorted, bTuple, bList, bInt, nonE, mkT, mkL, dats, fns, wTg, setAll, setW, wipeG, idxW, slcW, itemsE, zipW, SS, List.map_cons, List.map_nil, List.length_cons, List.length_nil, Nat.zero_add, List.getElem?_cons_zero, List.getElem?_cons_succ, List.set_cons_zero, List.set_cons_succ, List.append_nil, List.nil_append, List.cons_append, List.replicate_zero, List.replicate_succ, Nat.sub_self, Nat.reduceSub, Nat.reduceAdd, Option.map_some, Option.map_none, List.take_length, wIf_dec, wIf_t, wIf_f, true_and, and_true, Nat.lt_irrefl, if_false, if_true, decide_eq_true_eq, decide_eq_false_iff_not, Bool.not_true, Bool.not_false, bne_self_eq_false, sz_le, Nat.reduceLeDiff, true_implies, not_true_eq_false, false_implies, implies_true, and_self, not_false_eq_true, wIf_not, at0, at1, at2, ix20, ix21, get_app, take_app, set_app, set_set, take_set, List.take_length, Int.reduceToNat, Int.reducePow, Int.reduceAdd, Int.reduceSub, Int.reduceMul, Int.reduceNeg, sp_legs_back, T3]
        refine ⟨hr, ?_⟩
        have hK : K (if isN (.d (backD a (a + g) c)) = true then some (T3 a (a + g) c) else none) s := hK
        have := wIf_K hK
        cases hb : backD a (a + g) c <;> rw [hb] at this <;> exact this
    have f1 : flat 3 (.list [.tuple (legsL g m), .list ((legsL g m).map onX)]) = true := by
      have q1 : flat 2 (.tuple (legsL g m)) = true := flat_t3s (k := 0) (legs_t3 hg) len
      have q2 : flat 2 (.list ((legsL g m).map onX)) = true := by
        simp only [flat, Bool.and_eq_true, decide_eq_true_eq, List.length_map]
        refine ⟨flats_of fun x hx => ?_, len⟩
        obtain ⟨y, hy, rfl⟩ := List.mem_map.mp hx
        obtain ⟨a, c, rfl, _⟩ := tg h2 y hy
        exact flat_onT 0 ..
      unfold flat
      simp only [flats, q1, q2, Bool.and_self, Bool.true_and, List.length_cons, List.length_nil]
      rfl
    have f2 : flat 3 (.tuple (firsts g)) = true := flat_t3s (k := 1) (firsts_t3 hg) (by have := firsts_len (g := g) (by omega); omega)
    simp only [b_law_small_right, env0, wSs, wS, wE, wAs, wCh, wO, wC, wIt, en0, exitOk, ex0, onD, asD, asL, asQ, onL, onQ, onI, onB, onC, onV, onS, onDL, on2I, bop, bAdd, bMul, cop, cEq, cLt, cLe, cGt, cGe, cIn, cIs, isN, wTr, blt, bLen, lenQ, bAbs, bMin, bMax, bSum, bAll, bAny, bSorted, bTuple, bList, bInt, nonE, mkT, mkL, dats, fns, wTg, setAll, setW, wipeG, idxW, slcW, itemsE, zipW, SS, List.map_cons, List.map_nil, List.length_cons, List.length_nil, Nat.zero_add, List.getElem?_cons_zero, List.getElem?_cons_succ, List.set_cons_zero, List.set_cons_succ, List.append_nil, List.nil_append, List.cons_append, List.replicate_zero, List.replicate_succ, Nat.sub_self, Nat.reduceSub, Nat.reduceAdd, Option.map_some, Option.map_none, List.take_length, wIf_dec, wIf_t, wIf_f, true_and, and_true, Nat.lt_irrefl, if_false, if_true, decide_eq_true_eq, decide_eq_false_iff_not, Bool.not_true, Bool.not_false, bne_self_eq_false, sz_le, Nat.reduceLeDiff, true_implies, not_true_eq_false, false_implies, implies_true, and_self, not_false_eq_true, wIf_not, at0, at1, at2, ix20, ix21, get_app, take_app, set_app, set_set, take_set, List.take_length, Int.reduceToNat, Int.reducePow, Int.reduceAdd, Int.reduceSub, Int.reduceMul, Int.reduceNeg, sp_law_all]
    refine ⟨g1, by omega, h1, by omega, ?_⟩
    refine c0 _ _ _ _ rfl rfl ?_
    simp only [env0, wSs, wS, wE, wAs, wCh, wO, wC, wIt, en0, exitOk, ex0, onD, asD, asL, asQ, onL, onQ, onI, onB, onC, onV, onS, onDL, on2I, bop, bAdd, bMul, cop, cEq, cLt, cLe, cGt, cGe, cIn, cIs, isN, wTr, blt, bLen, lenQ, bAbs, bMin, bMax, bSum, bAll, bAny, bSorted, bTuple, bList, bInt, nonE, mkT, mkL, dats, fns, wTg, setAll, setW, wipeG, idxW, slcW, itemsE, zipW, SS, List.map_cons, List.map_nil, List.length_cons, List.length_nil, Nat.zero_add, List.getElem?_cons_zero, List.getElem?_cons_succ, List.set_cons_zero, List.set_cons_succ, List.append_nil, List.nil_append, List.cons_append, List.replicate_zero, List.replicate_succ, Nat.sub_self, Nat.reduceSub, Nat.reduceAdd, Option.map_some, Option.map_none, List.take_length, wIf_dec, wIf_t, wIf_f, true_and, and_true, Nat.lt_irrefl, if_false, if_true, decide_eq_true_eq, decide_eq_false_iff_not, Bool.not_true, Bool.not_false, bne_self_eq_false, sz_le, Nat.reduceLeDiff, true_implies, not_true_eq_false, false_implies, implies_true, and_self, not_false_eq_true, wIf_not, at0, at1, at2, ix20, ix21, get_app, take_app, set_app, set_set, take_set, List.take_length, Int.reduceToNat, Int.reducePow, Int.reduceAdd, Int.reduceSub, Int.reduceMul, Int.reduceNeg, sp_legs_up_to]
    refine ⟨g1, by omega, h1, by omega, ?_⟩
    refine c1 _ _ _ _ rfl rfl ?_
    simp only [env0, wSs, wS, wE, wAs, wCh, wO, wC, wIt, en0, exitOk, ex0, onD, asD, asL, asQ, onL, onQ, onI, onB, onC, onV, onS, onDL, on2I, bop, bAdd, bMul, cop, cEq, cLt, cLe, cGt, cGe, cIn, cIs, isN, wTr, blt, bLen, lenQ, bAbs, bMin, bMax, bSum, bAll, bAny, bSorted, bTuple, bList, bInt, nonE, mkT, mkL, dats, fns, wTg, setAll, setW, wipeG, idxW, slcW, itemsE, zipW, SS, List.map_cons, List.map_nil, List.length_cons, List.length_nil, Nat.zero_add, List.getElem?_cons_zero, List.getElem?_cons_succ, List.set_cons_zero, List.set_cons_succ, List.append_nil, List.nil_append, List.cons_append, List.replicate_zero, List.replicate_succ, Nat.sub_self, Nat.reduceSub, Nat.reduceAdd, Option.map_some, Option.map_none, List.take_length, wIf_dec, wIf_t, wIf_f, true_and, and_true, Nat.lt_irrefl, if_false, if_true, decide_eq_true_eq, decide_eq_false_iff_not, Bool.not_true, Bool.not_false, bne_self_eq_false, sz_le, Nat.reduceLeDiff, true_implies, not_true_eq_false, false_implies, implies_true, and_self, not_false_eq_true, wIf_not, at0, at1, at2, ix20, ix21, get_app, take_app, set_app, set_set, take_set, List.take_length, Int.reduceToNat, Int.reducePow, Int.reduceAdd, Int.reduceSub, Int.reduceMul, Int.reduceNeg, sp_law_like, f1, f_law_small_right_0]
    refine wFor_inv (fun ws Γ s => (∀ w, w ∈ ws → ∃ x, x ∈ legsL g m ∧ w = .d x) ∧ s = st ∧ ∃ y z : Option W, Γ = [some (.d (.int g)), some (.d (.int m)), some (.d (.list (legsL g m))), some (.d (.list ((legsL g m).map onX))), y, z, none, none, none]) ?_ ?_ _ _ _ ⟨fun w hw => ?_, rfl, none, none, rfl⟩
    · rintro Γ s ⟨_, rfl, y, z, rfl⟩
      simp only [env0, wSs, wS, wE, wAs, wCh, wO, wC, wIt, en0, exitOk, ex0, onD, asD, asL, asQ, onL, onQ, onI, onB, onC, onV, onS, onDL, on2I, bop, bAdd, bMul, cop, cEq, cLt, cLe, cGt, cGe, cIn, cIs, isN, wTr, blt, bLen, lenQ, bAbs, bMin, bMax, bSum, bAll, bAny, bSorted, bTuple, bList, bInt, nonE, mkT, mkL, dats, fns, wTg, setAll, setW, wipeG, idxW, slcW, itemsE, zipW, SS, List.map_cons, List.map_nil, List.length_cons, List.length_nil, Nat.zero_add, List.getElem?_cons_zero, List.getElem?_cons_succ, List.set_cons_zero, List.set_cons_succ, List.append_nil, List.nil_append, List.cons_append, List.replicate_zero, List.replicate_succ, Nat.sub_self, Nat.reduceSub, Nat.reduceAdd, Option.map_some, Option.map_none, List.take_length, wIf_dec, wIf_t, wIf_f, true_and, and_true, Nat.lt_irrefl, if_false, if_true, decide_eq_true_eq, decide_eq_false_iff_not, Bool.not_true, Bool.not_false, bne_self_eq_false, sz_le, Nat.reduceLeDiff, true_implies, not_true_eq_false, false_implies, implies_true, and_self, not_false_eq_true, wIf_not, at0, at1, at2, ix20, ix21, get_app, take_app, set_app, set_set, take_set, List.take_length, Int.reduceToNat, Int.reducePow, Int.reduceAdd, Int.reduceSub, Int.reduceMul, Int.reduceNeg]
      refine c3 _ _ _ _ rfl rfl ?_
      simp only [env0, wSs, wS, wE, wAs, wCh, wO, wC, wIt, en0, exitOk, ex0, onD, asD, asL, asQ, onL, onQ, onI, onB, onC, onV, onS, onDL, on2I, bop, bAdd, bMul, cop, cEq, cLt, cLe, cGt, cGe, cIn, cIs, isN, wTr, blt, bLen, lenQ, bAbs, bMin, bMax, bSum, bAll, bAny, bSorted, bTuple, bList, bInt, nonE, mkT, mkL, dats, fns, wTg, setAll, setW, wipeG, idxW, slcW, itemsE, zipW, SS, List.map_cons, List.map_nil, List.length_cons, List.length_nil, Nat.zero_add, List.getElem?_cons_zero, List.getElem?_cons_succ, List.set_cons_zero, List.set_cons_succ, List.append_nil, List.nil_append, List.cons_append, List.replicate_zero, List.replicate_succ, Nat.sub_self, Nat.reduceSub, Nat.reduceAdd, Option.map_some, Option.map_none, List.take_length, wIf_dec, wIf_t, wIf_f, true_and, and_true, Nat.lt_irrefl, if_false, if_true, decide_eq_true_eq, decide_eq_false_iff_not, Bool.not_true, Bool.not_false, bne_self_eq_false, sz_le, Nat.reduceLeDiff, true_implies, not_true_eq_false, false_implies, implies_true, and_self, not_false_eq_true, wIf_not, at0, at1, at2, ix20, ix21, get_app, take_app, set_app, set_set, take_set, List.take_length, Int.reduceToNat, Int.reducePow, Int.reduceAdd, Int.reduceSub, Int.reduceMul, Int.reduceNeg, sp_first_legs, sp_law_like, f2]
      exact ⟨g1, by omega, h⟩
    · rintro w ws Γ s K ⟨hw, rfl, y, z, rfl⟩ hK
      obtain ⟨x, hx, rfl⟩ := hw w List.mem_cons_self
      obtain ⟨a, c, rfl, t, hc, hr, hab⟩ := tg h2 x hx
      have ek : kindS a (a + g) c = "right" := by unfold kindS; rw [if_pos (by have := hr.2; omega)]
      simp only [l_law_small_right_0, env0, wSs, wS, wE, wAs, wCh, wO, wC, wIt, en0, exitOk, ex0, onD, asD, asL, asQ, onL, onQ, onI, onB, onC, onV, onS, onDL, on2I, bop, bAdd, bMul, cop, cEq, cLt, cLe, cGt, cGe, cIn, cIs, isN, wTr, blt, bLen, lenQ, bAbs, bMin, bMax, bSum, bAll, bAny, bSorted, bTuple, bList, bInt, nonE, mkT, mkL, dats, fns, wTg, setAll, setW, wipeG, idxW, slcW, itemsE, zipW, SS, List.map_cons, List.map_nil, List.length_cons, List.length_nil, Nat.zero_add, List.getElem?_cons_zero, List.getElem?_cons_succ, List.set_cons_zero, List.set_cons_succ, List.append_nil, List.nil_append, List.cons_append, List.replicate_zero, List.replicate_succ, Nat.sub_self, Nat.reduceSub, Nat.reduceAdd, Option.map_some, Option.map_none, List.take_length, wIf_dec, wIf_t, wIf_f, true_and, and_true, Nat.lt_irrefl, if_false, if_true, decide_eq_true_eq, decide_eq_false_iff_not, Bool.not_true, Bool.not_false, bne_self_eq_false, sz_le, Nat.reduceLeDiff, true_implies, not_true_eq_false, false_implies, implies_true, and_self, not_false_eq_true, wIf_not, at0, at1, at2, ix20, ix21, get_app, take_app, set_app, set_set, take_set, List.take_length, Int.reduceToNat, Int.reducePow, Int.reduceAdd, Int.reduceSub, Int.reduceMul, Int.reduceNeg]
      refine c2 _ _ _ _ a c t hc rfl rfl rfl rfl ?_
      have eg : a + g - a = g := by omega
      simp only [env0, wSs, wS, wE, wAs, wCh, wO, wC, wIt, en0, exitOk, ex0, onD, asD, asL, asQ, onL, onQ, onI, onB, onC, onV, onS, onDL, on2I, bop, bAdd, bMul, cop, cEq, cLt, cLe, cGt, cGe, cIn, cIs, isN, wTr, blt, bLen, lenQ, bAbs, bMin, bMax, bSum, bAll, bAny, bSorted, bTuple, bList, bInt, nonE, mkT, mkL, dats, fns, wTg, setAll, setW, wipeG, idxW, slcW, itemsE, zipW, SS, List.map_cons, List.map_nil, List.length_cons, List.length_nil, Nat.zero_add, List.getElem?_cons_zero, List.getElem?_cons_succ, List.set_cons_zero, List.set_cons_succ, List.append_nil, List.nil_append, List.cons_append, List.replicate_zero, List.replicate_succ, Nat.sub_self, Nat.reduceSub, Nat.reduceAdd, Option.map_some, Option.map_none, List.take_length, wIf_dec, wIf_t, wIf_f, true_and, and_true, Nat.lt_irrefl, if_false, if_true, decide_eq_true_eq, decide_eq_false_iff_not, Bool.not_true, Bool.not_false, bne_self_eq_false, sz_le, Nat.reduceLeDiff, true_implies, not_true_eq_false, false_implies, implies_true, and_self, not_false_eq_true, wIf_not, at0, at1, at2, ix20, ix21, get_app, take_app, set_app, set_set, take_set, List.take_length, Int.reduceToNat, Int.reducePow, Int.reduceAdd, Int.reduceSub, Int.reduceMul, Int.reduceNeg, sp_legs_back, sp_leg_gap, sp_kind_of, sp_kind_in, T3, ek, eg]
      refine ⟨hr, hr, hr.1, ?_⟩
      rw [backD_tg]
      have next : ∀ z : Option W, K [some (.d (.int g)), some (.d (.int m)), some (.d (.list (legsL g m))), some (.d (.list ((legsL g m).map onX))), some (.d (T3 a (a + g) c)), z, none, none, none] s := fun z => hK _ _ ⟨fun w q => hw w (List.mem_cons_of_mem _ q), rfl, _, z, rfl⟩
      by_cases q : 0 < 3 * a + g - 2 * c
      · simp only [if_pos q]
        have e1 : eqOk (.list [T3 (3 * a + g - 2 * c) (3 * a + g - 2 * c + g) (3 * c - 4 * a - 2 * g)]) (.list []) ∧ PyData.eqv (.list [T3 (3 * a + g - 2 * c) (3 * a + g - 2 * c + g) (3 * c - 4 * a - 2 * g)]) (.list []) = false := by
          simp [eqOk, PyData.plain, PyData.plainAll, PyData.depth, PyData.depthAll, PyData.eqv, PyData.eqvAll]
        simp only [T3] at e1
        simp only [env0, wSs, wS, wE, wAs, wCh, wO, wC, wIt, en0, exitOk, ex0, onD, asD, asL, asQ, onL, onQ, onI, onB, onC, onV, onS, onDL, on2I, bop, bAdd, bMul, cop, cEq, cLt, cLe, cGt, cGe, cIn, cIs, isN, wTr, blt, bLen, lenQ, bAbs, bMin, bMax, bSum, bAll, bAny, bSorted, bTuple, bList, bInt, nonE, mkT, mkL, dats, fns, wTg, setAll, setW, wipeG, idxW, slcW, itemsE, zipW, SS, List.map_cons, List.map_nil, List.length_cons, List.length_nil, Nat.zero_add, List.getElem?_cons_zero, List.getElem?_cons_succ, List.set_cons_zero, List.set_cons_succ, List.append_nil, List.nil_append, List.cons_append, List.replicate_zero, List.replicate_succ, Nat.sub_self, Nat.reduceSub, Nat.reduceAdd, Option.map_some, Option.map_none, List.take_length, wIf_dec, wIf_t, wIf_f, true_and, and_true, Nat.lt_irrefl, if_false, if_true, decide_eq_true_eq, decide_eq_false_iff_not, Bool.not_true, Bool.not_false, bne_self_eq_false, sz_le, Nat.reduceLeDiff, true_implies, not_true_eq_false, false_implies, implies_true, and_self, not_false_eq_true, wIf_not, at0, at1, at2, ix20, ix21, get_app, take_app, set_app, set_set, take_set, List.take_length, Int.reduceToNat, Int.reducePow, Int.reduceAdd, Int.reduceSub, Int.reduceMul, Int.reduceNeg, e1, sp_law_like]
        exact ⟨rfl, next _⟩
      · simp only [if_neg q]
        simp only [env0, wSs, wS, wE, wAs, wCh, wO, wC, wIt, en0, exitOk, ex0, onD, asD, asL, asQ, onL, onQ, onI, onB, onC, onV, onS, onDL, on2I, bop, bAdd, bMul, cop, cEq, cLt, cLe, cGt, cGe, cIn, cIs, isN, wTr, blt, bLen, lenQ, bAbs, bMin, bMax, bSum, bAll, bAny, bSorted, bTuple, bList, bInt, nonE, mkT, mkL, dats, fns, wTg, setAll, setW, wipeG, idxW, slcW, itemsE, zipW, SS, List.map_cons, List.map_nil, List.length_cons, List.length_nil, Nat.zero_add, List.getElem?_cons_zero, List.getElem?_cons_succ, List.set_cons_zero, List.set_cons_succ, List.append_nil, List.nil_append, List.cons_append, List.replicate_zero, List.replicate_succ, Nat.sub_self, Nat.reduceSub, Nat.reduceAdd, Option.map_some, Option.map_none, List.take_length, wIf_dec, wIf_t, wIf_f, true_and, and_true, Nat.lt_irrefl, if_false, if_true, decide_eq_true_eq, decide_eq_false_iff_not, Bool.not_true, Bool.not_false, bne_self_eq_false, sz_le, Nat.reduceLeDiff, true_implies, not_true_eq_false, false_implies, implies_true, and_self, not_false_eq_true, wIf_not, at0, at1, at2, ix20, ix21, get_app, take_app, set_app, set_set, take_set, List.take_length, Int.reduceToNat, Int.reducePow, Int.reduceAdd, Int.reduceSub, Int.reduceMul, Int.reduceNeg, eq_nil, sp_law_like]
        exact ⟨rfl, next _⟩
    · obtain ⟨x, hx, rfl⟩ := List.mem_map.mp hw
      exact ⟨x, hx, rfl⟩
  · exact h.elim
end Q81
namespace Q81
open PySem Z
theorem root_t3 {g a c : Int} (hg : 1 ≤ g) (t : Tg g a c) : ∃ f fc, rootT a (a + g) c = T3 f (f + g) fc ∧ Tg g f fc ∧ f ≤ 3 * g := by
  obtain ⟨f, fc, tf, hf, hin⟩ := chain_all (m := c) hg _ a c (Nat.le_refl _) t (Int.le_refl _)
  obtain ⟨a', c', e, _, _, _, r⟩ := chain_mem hg _ _ _ (Nat.le_refl _) tf _ hin
  obtain ⟨rfl, _, rfl⟩ := t3_inj.mp e
  exact ⟨f, fc, by rw [r, root_first hg tf hf], tf, hf⟩
theorem root_on {g a c : Int} (hg : 1 ≤ g) (t : Tg g a c) : rootT (3 * a + g + 2 * c) (3 * a + g + 2 * c + g) (4 * a + 2 * g + 3 * c) = rootT a (a + g) c := by
  have h2 := (t.on (show 0 ≤ g by omega)).lt (by omega)
  have h1 := t.1
  have h3 := t.2.1
  rw [rootT, dif_pos (by omega)]
  congr 1 <;> omega
theorem back_on {g a c : Int} (h : 0 < a) : backD (3 * a + g + 2 * c) (3 * a + g + 2 * c + g) (4 * a + 2 * g + 3 * c) = T3 a (a + g) c := by
  rw [backD_tg, if_pos (by omega), t3_inj]
  omega
theorem ok_law_any_right : Does SS 7 b_law_any_right sp_law_any_right := by
  intro ws st P R h
  unfold sp_law_any_right at h
  split at h
  · rename_i cc a b c
    obtain ⟨hr, hab, h⟩ := h
    obtain ⟨t, eb⟩ := hr.tg
    have hg : 1 ≤ b - a := by omega
    generalize b - a = g at t eb hg
    subst eb
    have eg : a + g - a = g := by omega
    have h1 := t.1
    have h2 := t.2.1
    have hl := t.lt (by omega)
    obtain ⟨f, fc, er, tf, hf⟩ := root_t3 hg t
    have flat1 : flat 3 (.list [.int g, onT a (a + g) c]) = true := by
      have := flat_onT 1 a (a + g) c
      unfold flat
      simp only [flats, this, Bool.and_true]
      rfl
    have tail : ∀ (E : En) (R' : XPS) (x y : Option W) (a' c' : Int), Tg g a' c' → a' ≤ 3 * g → c' ≤ c → rootT a (a + g) c = T3 a' (a' + g) c' → E.rt (.d (.bool true)) st →
        wSs SS t_law_any_right_0 [some (.p cc), some (.d (T3 a (a + g) c)), some (.d (onT a (a + g) c)), some (.d (.int g)), some (.d (T3 a' (a' + g) c')), x, y] st E R' := by
      intro E R' x y a' c' t' hf' hc' erf hE
      have h1' := t'.1
      have h2' := t'.2.1
      have el : ¬ 0 < 3 * a' + g - 2 * c' := fun q => by have := (t'.low hg).mp q; omega
      have eb : backD a' (a' + g) c' = .none := by rw [backD_tg, if_neg el]
      have hl' := t'.lt (show 0 ≤ g by omega)
      have hr' : Rect a' (a' + g) c' := t'.rect (by omega) (by have := hr.1.2.2.2.2; omega)
      have ev : PyData.eqv (T3 a' (a' + g) c') (T3 a' (a' + g) c') = true := by rw [t3_eqv]; simp
      have eo := eq_t3 a' (a' + g) c' a' (a' + g) c'
      simp only [T3] at ev eo
      simp only [t_law_any_right_0, env0, wSs, wS, wE, wAs, wCh, wO, wC, wIt, en0, exitOk, ex0, onD, asD, asL, asQ, onL, onQ, onI, onB, onC, onV, onS, onDL, on2I, bop, bAdd, bMul, cop, cEq, cLt, cLe, cGt, cGe, cIn, cIs, isN, wTr, blt, bLen, lenQ, bAbs, bMin, bMax, bSum, bAll, bAny, bSorted, bTuple, bList, bInt, nonE, mkT, mkL, dats, fns, wTg, setAll, setW, wipeG, idxW, slcW, itemsE, zipW, SS, List.map_cons, List.map_nil, List.length_cons, List.length_nil, Nat.zero_add, List.getElem?_cons_zero, List.getElem?_cons_succ, List.set_cons_zero, List.set_cons_succ, List.append_nil, List.nil_append, List.cons_append, List.replicate_zero, List.replicate_succ, Nat.sub_self, Nat.reduceSub, Nat.reduceAdd, Option.map_some, Option.map_none, List.take_length, wIf_dec, wIf_t, wIf_f, true_and, and_true, Nat.lt_irrefl, if_false, if_true, decide_eq_true_eq, decide_eq_false_iff_not, Bool.not_true, Bool.not_false, bne_self_eq_false, sz_le, Nat.reduceLeDiff, true_implies, not_true_eq_false, false_implies, implies_true, and_self, not_false_eq_true, wIf_not, at0, at1, at2, ix20, ix21, get_app, take_app, set_app, set_set, take_set, List.take_length, Int.reduceToNat, Int.reducePow, Int.reduceAdd, Int.reduceSub, Int.reduceMul, Int.reduceNeg, sp_legs_back, sp_first_legs_of, eb, erf, T3, ev, show ¬ 3 * g < a' by omega, m3]
      refine ⟨hr', hr, hab, eo, ?_⟩
      by_cases q : 1000 < g
      · simp only [q, env0, wSs, wS, wE, wAs, wCh, wO, wC, wIt, en0, exitOk, ex0, onD, asD, asL, asQ, onL, onQ, onI, onB, onC, onV, onS, onDL, on2I, bop, bAdd, bMul, cop, cEq, cLt, cLe, cGt, cGe, cIn, cIs, isN, wTr, blt, bLen, lenQ, bAbs, bMin, bMax, bSum, bAll, bAny, bSorted, bTuple, bList, bInt, nonE, mkT, mkL, dats, fns, wTg, setAll, setW, wipeG, idxW, slcW, itemsE, zipW, SS, List.map_cons, List.map_nil, List.length_cons, List.length_nil, Nat.zero_add, List.getElem?_cons_zero, List.getElem?_cons_succ, List.set_cons_zero, List.set_cons_succ, List.append_nil, List.nil_append, List.cons_append, List.replicate_zero, List.replicate_succ, Nat.sub_self, Nat.reduceSub, Nat.reduceAdd, Option.map_some, Option.map_none, List.take_length, wIf_dec, wIf_t, wIf_f, true_and, and_true, Nat.lt_irrefl, if_false, if_true, decide_eq_true_eq, decide_eq_false_iff_not, Bool.not_true, Bool.not_false, bne_self_eq_false, sz_le, Nat.reduceLeDiff, true_implies, not_true_eq_false, false_implies, implies_true, and_self, not_false_eq_true, wIf_not, at0, at1, at2, ix20, ix21, get_app, take_app, set_app, set_set, take_set, List.take_length, Int.reduceToNat, Int.reducePow, Int.reduceAdd, Int.reduceSub, Int.reduceMul, Int.reduceNeg]
        exact hE
      · have i1 : T3 a' (a' + g) c' ∈ firsts g := (firsts_mem hg).mpr ⟨_, _, rfl, t', hf'⟩
        have i2 : T3 a (a + g) c ∈ legsL g c := (legsL_mem hg).mpr ⟨_, _, rfl, t, Int.le_refl _⟩
        have o1 := in_t3 (a := a') (b := a' + g) (c := c') (firsts_t3 hg)
        have o2 := in_t3 (a := a) (b := a + g) (c := c) (legs_t3 (m := c) hg)
        have j1 := any_t3 i1
        have j2 := any_t3 i2
        simp only [T3] at o1 o2 j1 j2
        simp only [q, env0, wSs, wS, wE, wAs, wCh, wO, wC, wIt, en0, exitOk, ex0, onD, asD, asL, asQ, onL, onQ, onI, onB, onC, onV, onS, onDL, on2I, bop, bAdd, bMul, cop, cEq, cLt, cLe, cGt, cGe, cIn, cIs, isN, wTr, blt, bLen, lenQ, bAbs, bMin, bMax, bSum, bAll, bAny, bSorted, bTuple, bList, bInt, nonE, mkT, mkL, dats, fns, wTg, setAll, setW, wipeG, idxW, slcW, itemsE, zipW, SS, List.map_cons, List.map_nil, List.length_cons, List.length_nil, Nat.zero_add, List.getElem?_cons_zero, List.getElem?_cons_succ, List.set_cons_zero, List.set_cons_succ, List.append_nil, List.nil_append, List.cons_append, List.replicate_zero, List.replicate_succ, Nat.sub_self, Nat.reduceSub, Nat.reduceAdd, Option.map_some, Option.map_none, List.take_length, wIf_dec, wIf_t, wIf_f, true_and, and_true, Nat.lt_irrefl, if_false, if_true, decide_eq_true_eq, decide_eq_false_iff_not, Bool.not_true, Bool.not_false, bne_self_eq_false, sz_le, Nat.reduceLeDiff, true_implies, not_true_eq_false, false_implies, implies_true, and_self, not_false_eq_true, wIf_not, at0, at1, at2, ix20, ix21, get_app, take_app, set_app, set_set, take_set, List.take_length, Int.reduceToNat, Int.reducePow, Int.reduceAdd, Int.reduceSub, Int.reduceMul, Int.reduceNeg, sp_first_legs, sp_legs_up_to, j1, j2]
        exact ⟨by omega, by omega, o1, by omega, by omega, by omega, hr.1.2.2.2.2, o2, hE⟩
    have loop : ∀ (E : En) (R' : XPS), (∀ (x y : Option W) (a' c' : Int), Tg g a' c' → a' ≤ 3 * g → c' ≤ c → rootT a (a + g) c = T3 a' (a' + g) c' → E.nx [some (.p cc), some (.d (T3 a (a + g) c)), some (.d (onT a (a + g) c)), some (.d (.int g)), some (.d (T3 a' (a' + g) c')), x, y] st) →
        wS SS f_law_any_right_0 [some (.p cc), some (.d (T3 a (a + g) c)), some (.d (onT a (a + g) c)), some (.d (.int g)), some (.d (T3 a (a + g) c)), none, none] st E R' := by
      intro E R' hE
      unfold f_law_any_right_0
      simp only [wS, wIt, wE, onI, rngD_eq]
      refine ⟨by decide, by decide, ?_⟩
      refine wFor_inv (fun ws Γ s => s = st ∧ ∃ (k : Nat) (a' c' : Int) (x y : Option W), ws.length + k = 20 ∧ Γ = [some (.p cc), some (.d (T3 a (a + g) c)), some (.d (onT a (a + g) c)), some (.d (.int g)), some (.d (T3 a' (a' + g) c')), x, y] ∧ Tg g a' c' ∧ rootT a' (a' + g) c' = rootT a (a + g) c ∧ c' ≤ c ∧ (c' * 5 ^ k ≤ c ∨ a' ≤ 3 * g)) ?_ ?_ _ _ _ ⟨rfl, 0, a, c, none, none, by rw [List.length_map, rng_len]; rfl, rfl, t, rfl, Int.le_refl _, .inl (by omega)⟩
      · rintro Γ s ⟨rfl, k, a', c', x, y, hk, rfl, t', r', hc', hd⟩
        have hk : k = 20 := by simpa using hk
        subst hk
        have h2' := t'.2.1
        have hf' : a' ≤ 3 * g := by
          rcases hd with hd | hd
          · have := hr.1.2.2.2.2; omega
          · exact hd
        exact hE x y a' c' t' hf' hc' (by rw [← r', root_first hg t' hf'])
      · rintro w ws Γ s K ⟨rfl, k, a', c', x, y, hk, rfl, t', r', hc', hd⟩ hK
        have hk2 : ws.length + (k + 1) = 20 := by rw [List.length_cons] at hk; omega
        have h1' := t'.1
        have h2' := t'.2.1
        have hl' := t'.lt (show 0 ≤ g by omega)
        have hr' : Rect a' (a' + g) c' := t'.rect (by omega) (by have := hr.1.2.2.2.2; omega)
        by_cases q : 0 < 3 * a' + g - 2 * c'
        · have tb := t'.back hg ((t'.low hg).mp q)
          have eb : backD a' (a' + g) c' = T3 (3 * a' + g - 2 * c') (3 * a' + g - 2 * c' + g) (3 * c' - 4 * a' - 2 * g) := by rw [backD_tg, if_pos q]
          have hlb := tb.lt (show 0 ≤ g by omega)
          have hrb : Rect (3 * a' + g - 2 * c') (3 * a' + g - 2 * c' + g) (3 * c' - 4 * a' - 2 * g) := tb.rect (by omega) (by have := hr.1.2.2.2.2; omega)
          have eo : onT (3 * a' + g - 2 * c') (3 * a' + g - 2 * c' + g) (3 * c' - 4 * a' - 2 * g) = T3 a' (a' + g) c' := by
            rw [onT_tg, if_pos (by have := hr.1.2.2.2.2; omega), t3_inj]
            omega
          have e1 : 3 * a' + g - 2 * c' + g - (3 * a' + g - 2 * c') = g := by omega
          have ev : PyData.eqv (T3 a' (a' + g) c') (T3 a' (a' + g) c') = true := by rw [t3_eqv]; simp
          have eq := eq_t3 a' (a' + g) c' a' (a' + g) c'
          simp only [T3] at ev eq
          simp only [l_law_any_right_0, env0, wSs, wS, wE, wAs, wCh, wO, wC, wIt, en0, exitOk, ex0, onD, asD, asL, asQ, onL, onQ, onI, onB, onC, onV, onS, onDL, on2I, bop, bAdd, bMul, cop, cEq, cLt, cLe, cGt, cGe, cIn, cIs, isN, wTr, blt, bLen, lenQ, bAbs, bMin, bMax, bSum, bAll, bAny, bSorted, bTuple, bList, bInt, nonE, mkT, mkL, dats, fns, wTg, setAll, setW, wipeG, idxW, slcW, itemsE, zipW, SS, List.map_cons, List.map_nil, List.length_cons, List.length_nil, Nat.zero_add, List.getElem?_cons_zero, List.getElem?_cons_succ, List.set_cons_zero, List.set_cons_succ, List.append_nil, List.nil_append, List.cons_append, List.replicate_zero, List.replicate_succ, Nat.sub_self, Nat.reduceSub, Nat.reduceAdd, Option.map_some, Option.map_none, List.take_length, wIf_dec, wIf_t, wIf_f, true_and, and_true, Nat.lt_irrefl, if_false, if_true, decide_eq_true_eq, decide_eq_false_iff_not, Bool.not_true, Bool.not_false, bne_self_eq_false, sz_le, Nat.reduceLeDiff, true_implies, not_true_eq_false, false_implies, implies_true, and_self, not_false_eq_true, wIf_not, at0, at1, at2, ix20, ix21, get_app, take_app, set_app, set_set, take_set, List.take_length, Int.reduceToNat, Int.reducePow, Int.reduceAdd, Int.reduceSub, Int.reduceMul, Int.reduceNeg, sp_legs_back, eb, T3, sp_law_is_right, e1, sp_law_later, eo, ev]
          refine ⟨hr', hrb, tb.1, by omega, tb.2.1, eq, hK _ _ ⟨rfl, k + 1, _, _, _, _, hk2, rfl, tb, ?_, by omega, ?_⟩⟩
          · rw [← r', rootT.eq_def a' (a' + g) c', dif_pos (by omega)]
            congr 1 <;> omega
          · rcases hd with hd | hd
            · left
              have p : (0 : Int) ≤ 5 ^ k := Int.le_of_lt (Int.pow_pos (by decide))
              have := Int.mul_le_mul_of_nonneg_right (a := 5 * (3 * c' - 4 * a' - 2 * g)) (b := c') (c := (5 : Int) ^ k) (by omega) p
              have e : (3 * c' - 4 * a' - 2 * g) * 5 ^ (k + 1) = 5 * (3 * c' - 4 * a' - 2 * g) * 5 ^ k := by rw [Int.pow_succ]; grind
              omega
            · exfalso
              have := (t'.low hg).mp q
              omega
        · have eb : backD a' (a' + g) c' = .none := by rw [backD_tg, if_neg q]
          simp only [l_law_any_right_0, env0, wSs, wS, wE, wAs, wCh, wO, wC, wIt, en0, exitOk, ex0, onD, asD, asL, asQ, onL, onQ, onI, onB, onC, onV, onS, onDL, on2I, bop, bAdd, bMul, cop, cEq, cLt, cLe, cGt, cGe, cIn, cIs, isN, wTr, blt, bLen, lenQ, bAbs, bMin, bMax, bSum, bAll, bAny, bSorted, bTuple, bList, bInt, nonE, mkT, mkL, dats, fns, wTg, setAll, setW, wipeG, idxW, slcW, itemsE, zipW, SS, List.map_cons, List.map_nil, List.length_cons, List.length_nil, Nat.zero_add, List.getElem?_cons_zero, List.getElem?_cons_succ, List.set_cons_zero, List.set_cons_succ, List.append_nil, List.nil_append, List.cons_append, List.replicate_zero, List.replicate_succ, Nat.sub_self, Nat.reduceSub, Nat.reduceAdd, Option.map_some, Option.map_none, List.take_length, wIf_dec, wIf_t, wIf_f, true_and, and_true, Nat.lt_irrefl, if_false, if_true, decide_eq_true_eq, decide_eq_false_iff_not, Bool.not_true, Bool.not_false, bne_self_eq_false, sz_le, Nat.reduceLeDiff, true_implies, not_true_eq_false, false_implies, implies_true, and_self, not_false_eq_true, wIf_not, at0, at1, at2, ix20, ix21, get_app, take_app, set_app, set_set, take_set, List.take_length, Int.reduceToNat, Int.reducePow, Int.reduceAdd, Int.reduceSub, Int.reduceMul, Int.reduceNeg, sp_legs_back, eb, T3]
          refine ⟨hr', hK _ _ ⟨rfl, k + 1, a', c', _, _, hk2, rfl, t', r', hc', .inr ?_⟩⟩
          have := mt (t'.low hg).mpr q
          omega
    have eon : onT a (a + g) c = if 4 * a + 2 * g + 3 * c ≤ 1000000000 then T3 (3 * a + g + 2 * c) (3 * a + g + 2 * c + g) (4 * a + 2 * g + 3 * c) else .none := onT_tg
    have out : (en0 st.length P).rt (.d (.bool true)) st := by
      show P (.d (.bool true)) (st.take st.length)
      rw [List.take_length]; exact h
    by_cases q : 4 * a + 2 * g + 3 * c ≤ 1000000000
    · rw [if_pos q] at eon
      rw [eon] at loop tail flat1
      have to := t.on (show 0 ≤ g by omega)
      have hro : Rect (3 * a + g + 2 * c) (3 * a + g + 2 * c + g) (4 * a + 2 * g + 3 * c) := to.rect (by omega) q
      have l1 : ∀ s P R, sp_law_later [.d (.tuple [.int a, .int (a + g), .int c])] s P R = (0 < a ∧ a < a + g ∧ 0 < c ∧ P (.d (.tuple [.int (3 * a + g + 2 * c), .int (3 * a + g + 2 * c + g), .int (4 * a + 2 * g + 3 * c)])) s) := fun s P R => by
        simp only [sp_law_later, eon, T3]
      have l2 : ∀ s P R, sp_legs_on [.d (.tuple [.int a, .int (a + g), .int c])] s P R = (Rect a (a + g) c ∧ P (.d (.tuple [.int (3 * a + g + 2 * c), .int (3 * a + g + 2 * c + g), .int (4 * a + 2 * g + 3 * c)])) s) := fun s P R => by
        simp only [sp_legs_on, eon, T3]
      simp only [b_law_any_right, env0, List.map_cons, List.map_nil, List.cons_append, List.nil_append, List.length_cons, List.length_nil, Nat.zero_add, Nat.reduceAdd, Nat.reduceSub, List.replicate_succ, List.replicate_zero, List.set_cons_zero, List.set_cons_succ, setW, isN, true_and, Bool.not_true, Bool.not_false, vt_true, vt_false, wIf_dec, sz_le, Nat.reduceLeDiff, ↓SS, ↓ev_var0, ↓ev_varS, ↓ev_con, ↓ev_glob, ↓ev_fnv, ↓ev_bin, ↓ev_neg, ↓ev_not, ↓ev_cmp, ↓ev_and, ↓ev_or, ↓ev_ite, ↓ev_tup, ↓ev_lst, ↓ev_idx, ↓ev_call, ↓ev_blt, ↓ev_isi, ↓ev_new, ↓ev_slc, ↓ev_nil, ↓ev_cons, ↓ev_last, ↓ev_link, ↓ev_none, ↓ev_some, ↓sv_nil, ↓sv_cons, ↓sv_set, ↓sv_par, ↓sv_unp, ↓sv_put, ↓sv_app, ↓sv_ret, ↓sv_ex, ↓sv_ite, ↓sv_pass, ↓sv_raise, ↓vo_add, ↓vo_addL, ↓vo_addT, ↓vo_sub, ↓vo_mul, ↓vo_div, ↓vo_mod, ↓vo_pow, ↓vi_int, ↓vi_bool, ↓vi_dat, ↓vi_d, ↓vi_lst, ↓vt_bool, ↓vt_true, ↓vt_false, ↓vc_eq, ↓vc_ne, ↓vc_lt, ↓vc_le, ↓vc_gt, ↓vc_ge, ↓vc_is, ↓vc_isn, ↓vc_isnone, ↓vc_tt, ↓vc_ntt, ↓vc_ss, ↓vc_nss, ↓vc_in, ↓vc_inl, ↓vc_nin, ↓vx_0, ↓vx_1, ↓vx_2, ↓vm_1, ↓vm_2, ↓vm_3, ↓vl_0, ↓vl_1, ↓vl_2, ↓vl_3, eg, ↓l1, ↓l2, ↓sp_leg_gap, ↓sp_law_like, ↓sp_legs_back, ↓sp_first_legs_of]
      refine ⟨h1, hab, h2, hr, hr, flat1, hro, hro, by omega, hr, hab, ?_, ?_, loop _ _ fun x y a' c' q1 q2 q3 q4 => tail _ _ x y a' c' q1 q2 q3 q4 out⟩
      · rw [back_on h1, root_on hg t]
      · rw [back_on h1, root_on hg t, er]; rfl
    · rw [if_neg q] at eon
      rw [eon] at loop tail flat1
      have l1 : ∀ s P R, sp_law_later [.d (.tuple [.int a, .int (a + g), .int c])] s P R = (0 < a ∧ a < a + g ∧ 0 < c ∧ P (.d .none) s) := fun s P R => by
        simp only [sp_law_later, eon]
      have l2 : ∀ s P R, sp_legs_on [.d (.tuple [.int a, .int (a + g), .int c])] s P R = (Rect a (a + g) c ∧ P (.d .none) s) := fun s P R => by
        simp only [sp_legs_on, eon]
      simp only [b_law_any_right, env0, List.map_cons, List.map_nil, List.cons_append, List.nil_append, List.length_cons, List.length_nil, Nat.zero_add, Nat.reduceAdd, Nat.reduceSub, List.replicate_succ, List.replicate_zero, List.set_cons_zero, List.set_cons_succ, setW, isN, true_and, Bool.not_true, Bool.not_false, vt_true, vt_false, wIf_dec, sz_le, Nat.reduceLeDiff, ↓SS, ↓ev_var0, ↓ev_varS, ↓ev_con, ↓ev_glob, ↓ev_fnv, ↓ev_bin, ↓ev_neg, ↓ev_not, ↓ev_cmp, ↓ev_and, ↓ev_or, ↓ev_ite, ↓ev_tup, ↓ev_lst, ↓ev_idx, ↓ev_call, ↓ev_blt, ↓ev_isi, ↓ev_new, ↓ev_slc, ↓ev_nil, ↓ev_cons, ↓ev_last, ↓ev_link, ↓ev_none, ↓ev_some, ↓sv_nil, ↓sv_cons, ↓sv_set, ↓sv_par, ↓sv_unp, ↓sv_put, ↓sv_app, ↓sv_ret, ↓sv_ex, ↓sv_ite, ↓sv_pass, ↓sv_raise, ↓vo_add, ↓vo_addL, ↓vo_addT, ↓vo_sub, ↓vo_mul, ↓vo_div, ↓vo_mod, ↓vo_pow, ↓vi_int, ↓vi_bool, ↓vi_dat, ↓vi_d, ↓vi_lst, ↓vt_bool, ↓vt_true, ↓vt_false, ↓vc_eq, ↓vc_ne, ↓vc_lt, ↓vc_le, ↓vc_gt, ↓vc_ge, ↓vc_is, ↓vc_isn, ↓vc_isnone, ↓vc_tt, ↓vc_ntt, ↓vc_ss, ↓vc_nss, ↓vc_in, ↓vc_inl, ↓vc_nin, ↓vx_0, ↓vx_1, ↓vx_2, ↓vm_1, ↓vm_2, ↓vm_3, ↓vl_0, ↓vl_1, ↓vl_2, ↓vl_3, eg, ↓l1, ↓l2, ↓sp_leg_gap, ↓sp_law_like, ↓sp_legs_back, ↓sp_first_legs_of]
      exact ⟨h1, hab, h2, hr, hr, flat1, loop _ _ fun x y a' c' q1 q2 q3 q4 => tail _ _ x y a' c' q1 q2 q3 q4 out⟩
  · exact h.elim
end Q81
namespace Q81
open PySem Z
theorem law_right_rect {u v : Int} (h1 : 0 < v) (h2 : v < u) (h3 : u ≤ 20000) : Rect (mn (u * u - v * v) (2 * u * v)) (mx (u * u - v * v) (2 * u * v)) (u * u + v * v) := by
  have q1 : v * v < u * u := by
    have := Int.mul_lt_mul' (Int.le_of_lt h2) h2 (by omega) (by omega)
    exact this
  have q2 : 0 < u * v := Int.mul_pos (by omega) h1
  have q3 : 0 < v * v := Int.mul_pos h1 h1
  have q4 : u * u ≤ 20000 * 20000 := Int.mul_le_mul h3 h3 (by omega) (by omega)
  have q5 : 0 < (u - v) * (u - v) := Int.mul_pos (by omega) (by omega)
  have q6 : v * v < u * v := Int.mul_lt_mul_of_pos_right h2 h1
  have e1 : 2 * u * v = 2 * (u * v) := by grind
  have e2 : (u - v) * (u - v) = u * u + v * v - 2 * (u * v) := by grind
  have e3 : (u * u - v * v) * (u * u - v * v) + 2 * u * v * (2 * u * v) = (u * u + v * v) * (u * u + v * v) := by grind
  unfold Rect Fits mn mx
  by_cases c : 2 * u * v < u * u - v * v
  · simp only [if_pos c]
    refine ⟨⟨?_, ?_, ?_, ?_, ?_⟩, ?_⟩ <;> omega
  · simp only [if_neg c]
    refine ⟨⟨?_, ?_, ?_, ?_, ?_⟩, ?_⟩ <;> omega
theorem no_root2 : ∀ (n : Nat) (x y : Int), x.toNat ≤ n → 0 < x → 0 < y → x * x = 2 * (y * y) → False := by
  intro n
  induction n with
  | zero => intro x y h1 h2; omega
  | succ n ih =>
    intro x y h1 h2 h3 e
    obtain ⟨k, rfl | rfl⟩ : ∃ k, x = 2 * k ∨ x = 2 * k + 1 := ⟨x / 2, by omega⟩
    · have e2 : y * y = 2 * (k * k) := by grind
      have hk : 0 < k := by omega
      have : y < 2 * k := lt_sq (by have := Int.mul_pos h3 h3; omega) (by omega)
      exact ih y k (by omega) h3 hk e2
    · have : (2 * k + 1) * (2 * k + 1) = 2 * (2 * (k * k) + 2 * k) + 1 := by grind
      omega
theorem law_right_lt {u v : Int} (h1 : 0 < v) (h2 : v < u) : mn (u * u - v * v) (2 * u * v) < mx (u * u - v * v) (2 * u * v) := by
  have ne : u * u - v * v ≠ 2 * u * v := fun e => no_root2 _ (u - v) v (Nat.le_refl _) (by omega) h1 (by grind)
  unfold mn mx
  split <;> omega
def rows : List Int := [1, 5, 29, 169, 985, 5741, 33461, 195025, 1136689, 6625109, 38613965, 225058681]
def E11 : List PyData := [T3 3 4 5, T3 20 21 29, T3 119 120 169, T3 696 697 985, T3 4059 4060 5741, T3 23660 23661 33461, T3 137903 137904 195025, T3 803760 803761 1136689, T3 4684659 4684660 6625109, T3 27304196 27304197 38613965, T3 159140519 159140520 225058681]
theorem fs1 : firsts 1 = [T3 3 4 5] := eqPDs_of (by decide +kernel)
theorem fs2 : firsts 2 = [T3 6 8 10] := eqPDs_of (by decide +kernel)
theorem fs7 : firsts 7 = [T3 5 12 13, T3 8 15 17, T3 21 28 35] := eqPDs_of (by decide +kernel)
theorem ls1 : legsL 1 1000 = [T3 3 4 5, T3 20 21 29, T3 119 120 169, T3 696 697 985] := eqPDs_of (by decide +kernel)
theorem ls7 : legsL 7 100 = [T3 5 12 13, T3 8 15 17, T3 21 28 35, T3 48 55 73, T3 65 72 97] := eqPDs_of (by decide +kernel)
theorem ls2 : legsL 2 9 = [] := eqPDs_of (by decide +kernel)
theorem lsG : legsL 1 1000000000 = E11 := by
  rw [← chains_srt (by decide), fs1]
  have e : ([T3 3 4 5] : List PyData).reverse.flatMap (chainD 1000000000) = E11 := by
    show chain 1000000000 3 4 5 ++ [] = E11
    rw [List.append_nil, chain_cons (by decide) (by decide) (by decide) (by decide), chain_cons (by decide) (by decide) (by decide) (by decide), chain_cons (by decide) (by decide) (by decide) (by decide), chain_cons (by decide) (by decide) (by decide) (by decide), chain_cons (by decide) (by decide) (by decide) (by decide), chain_cons (by decide) (by decide) (by decide) (by decide), chain_cons (by decide) (by decide) (by decide) (by decide), chain_cons (by decide) (by decide) (by decide) (by decide), chain_cons (by decide) (by decide) (by decide) (by decide), chain_cons (by decide) (by decide) (by decide) (by decide), chain_cons (by decide) (by decide) (by decide) (by decide), chain_nil (by decide)]
    exact eqPDs_of (by decide +kernel)
  rw [e]
  exact srt_id (by unfold E11; simp only [List.pairwise_cons]; simp [dle_t3])
theorem bk1 : backD 20 21 29 = T3 3 4 5 := by simp [backD]
theorem bk2 : backD 3 4 5 = .none := by simp [backD]
theorem on1 : onT 3 4 5 = T3 20 21 29 := by simp [onT]
theorem on2 : onT 300000000 400000000 500000000 = .none := by simp [onT]
theorem ro1 : rootT 119 120 169 = T3 3 4 5 := by
  rw [rootT, dif_pos (by omega), rootT, dif_pos (by omega), rootT, dif_neg (by omega)]
  rfl
theorem rects : Rect 3 4 5 ∧ Rect 20 21 29 ∧ Rect 119 120 169 ∧ Rect 300000000 400000000 500000000 := by unfold Rect Fits; omega
theorem get_app2 {α : Type} {l r : List α} {x y z : α} : (l ++ x :: y :: z :: r)[l.length + 2]? = some z := by
  rw [List.getElem?_append_right (by omega)]; simp
theorem set_app2 {α : Type} {l r : List α} {x y z v : α} : (l ++ x :: y :: z :: r).set (l.length + 2) v = l ++ x :: y :: v :: r := by
  rw [List.set_append_right _ _ (by omega)]; simp
theorem tl0 {x0 x1 x2 x4 x6 x7 x8 x11 x12 x13 x14 x15 : Option W} {st : Store} {c0 : Cell} {E : En} {R : XPS} {g : Int} (g1 : 1 ≤ g) (g2 : g ≤ 1000) (h : E.rt (.d (.bool true)) (st ++ [c0, .lst (rows.map .int), .lst (firsts g)])) :
    wSs SS t_law_0 [x0, x1, x2, some (.d (.tuple E11)), x4, some (.d (.int g)), x6, x7, x8, some (.p (st.length + 1)), some (.p (st.length + 2)), x11, x12, x13, x14, x15] (st ++ [c0, .lst (rows.map .int), .lst (firsts g)]) E R := by
  have f2 : flat 3 (.tuple (firsts g)) = true := flat_t3s (k := 1) (firsts_t3 g1) (by have := firsts_len g2; omega)
  have t : Tg g (3 * g) (5 * g) := ⟨by omega, by omega, by grind⟩
  have i1 : T3 (3 * g) (4 * g) (5 * g) ∈ firsts g := (firsts_mem g1).mpr ⟨3 * g, 5 * g, by rw [t3_inj]; omega, t, by omega⟩
  have o1 := in_t3 (a := 3 * g) (b := 4 * g) (c := 5 * g) (firsts_t3 g1)
  have j1 := any_t3 i1
  simp only [T3] at o1 j1
  have cut : cutD (rows.map PyData.int) (some 1) none = [.int 5, .int 29, .int 169, .int 985, .int 5741, .int 33461, .int 195025, .int 1136689, .int 6625109, .int 38613965, .int 225058681] := rfl
  have m4 : MulOk 4 g := mul_l g (by decide) (by decide)
  have m5 : MulOk 5 g := mul_l g (by decide) (by decide)
  simp only [t_law_0, c_law_0, env0, wSs, wS, wE, wAs, wCh, wO, wC, wIt, en0, exitOk, ex0, onD, asD, asL, asQ, onL, onQ, onI, onB, onC, onV, onS, onDL, on2I, bop, bAdd, bMul, cop, cEq, cLt, cLe, cGt, cGe, cIn, cIs, isN, wTr, blt, bLen, lenQ, bAbs, bMin, bMax, bSum, bAll, bAny, bSorted, bTuple, bList, bInt, nonE, mkT, mkL, dats, fns, wTg, setAll, setW, wipeG, idxW, slcW, itemsE, zipW, SS, List.map_cons, List.map_nil, List.length_cons, List.length_nil, Nat.zero_add, List.getElem?_cons_zero, List.getElem?_cons_succ, List.set_cons_zero, List.set_cons_succ, List.append_nil, List.nil_append, List.cons_append, List.replicate_zero, List.replicate_succ, Nat.sub_self, Nat.reduceSub, Nat.reduceAdd, Option.map_some, Option.map_none, List.take_length, wIf_dec, wIf_t, wIf_f, true_and, and_true, Nat.lt_irrefl, if_false, if_true, decide_eq_true_eq, decide_eq_false_iff_not, Bool.not_true, Bool.not_false, bne_self_eq_false, sz_le, Nat.reduceLeDiff, true_implies, not_true_eq_false, false_implies, implies_true, and_self, not_false_eq_true, wIf_not, at0, at1, at2, ix20, ix21, get_app, take_app, set_app, set_set, take_set, List.take_length, Int.reduceToNat, Int.reducePow, Int.reduceAdd, Int.reduceSub, Int.reduceMul, Int.reduceNeg, get_app1, get_app2, sp_first_legs, sp_law_like, f2, E11, wLoop, cut, m3, m4, m5, j1]
  have hs : 100 < sizeLine := by rw [sizeLine_eq]; decide
  exact ⟨g1, g2, by omega, by omega, by omega, by omega, by omega, by omega, by omega, by omega, by omega, by omega, by omega, rfl, g1, g2, o1, h⟩
theorem tl1 {x0 x2 x3 x4 x5 x6 x7 x8 x10 x11 x12 x13 x14 x15 : Option W} {st : Store} {a b : Int} {E : En} {R : XPS} (hc : cupOk a b) (h : ∀ s', E.rt (.d (.bool true)) (st ++ s')) :
    wSs SS t_law_1 [x0, some (.p st.length), x2, x3, x4, x5, x6, x7, x8, some (.p (st.length + 1)), x10, x11, x12, x13, x14, x15] (st ++ [.lst [.int a, .int b], .lst (rows.map .int)]) E R := by
  have hp : L2.CPow 10 9 := ⟨by decide, by decide, by decide⟩
  have len2 : ∀ (l : Store) (x y : Cell), (l ++ [x, y]).length = l.length + 2 := fun l x y => by simp
  have app3 : ∀ (l : Store) (x y z : Cell), l ++ [x, y] ++ [z] = l ++ [x, y, z] := fun l x y z => by simp
  simp only [t_law_1, env0, List.map_cons, List.map_nil, List.cons_append, List.nil_append, List.length_cons, List.length_nil, Nat.zero_add, Nat.reduceAdd, Nat.reduceSub, List.replicate_succ, List.replicate_zero, List.set_cons_zero, List.set_cons_succ, setW, isN, true_and, Bool.not_true, Bool.not_false, vt_true, vt_false, wIf_dec, sz_le, Nat.reduceLeDiff, ↓SS, ↓ev_var0, ↓ev_varS, ↓ev_con, ↓ev_glob, ↓ev_fnv, ↓ev_bin, ↓ev_neg, ↓ev_not, ↓ev_cmp, ↓ev_and, ↓ev_or, ↓ev_ite, ↓ev_tup, ↓ev_lst, ↓ev_idx, ↓ev_call, ↓ev_blt, ↓ev_isi, ↓ev_new, ↓ev_slc, ↓ev_nil, ↓ev_cons, ↓ev_last, ↓ev_link, ↓ev_none, ↓ev_some, ↓sv_nil, ↓sv_cons, ↓sv_set, ↓sv_par, ↓sv_unp, ↓sv_put, ↓sv_app, ↓sv_ret, ↓sv_ex, ↓sv_ite, ↓sv_pass, ↓sv_raise, ↓vo_add, ↓vo_addL, ↓vo_addT, ↓vo_sub, ↓vo_mul, ↓vo_div, ↓vo_mod, ↓vo_pow, ↓vi_int, ↓vi_bool, ↓vi_dat, ↓vi_d, ↓vi_lst, ↓vt_bool, ↓vt_true, ↓vt_false, ↓vc_eq, ↓vc_ne, ↓vc_lt, ↓vc_le, ↓vc_gt, ↓vc_ge, ↓vc_is, ↓vc_isn, ↓vc_isnone, ↓vc_tt, ↓vc_ntt, ↓vc_ss, ↓vc_nss, ↓vc_in, ↓vc_inl, ↓vc_nin, ↓vx_0, ↓vx_1, ↓vx_2, ↓vm_1, ↓vm_2, ↓vm_3, ↓vl_0, ↓vl_1, ↓vl_2, ↓vl_3, ↓sp_legs_up_to, ↓sp_law_roll, get_app, set_app, hp, Int.reduceToNat, Int.reducePow, lsG, len2, app3]
  refine ⟨by decide, by decide, by decide, by decide, ⟨a, b, hc, rfl⟩, by decide, by decide, fun a b r hc p q => ?_⟩
  have g1 : 1 ≤ 1 + r := by omega
  have g2 : 1 + r ≤ 1000 := by omega
  generalize 1 + r = g at g1 g2
  have hs : 10000 ≤ sizeLine := by rw [sizeLine_eq]; decide
  unfold f_law_2
  simp only [env0, wSs, wS, wE, wAs, wCh, wO, wC, wIt, en0, exitOk, ex0, onD, asD, asL, asQ, onL, onQ, onI, onB, onC, onV, onS, onDL, on2I, bop, bAdd, bMul, cop, cEq, cLt, cLe, cGt, cGe, cIn, cIs, isN, wTr, blt, bLen, lenQ, bAbs, bMin, bMax, bSum, bAll, bAny, bSorted, bTuple, bList, bInt, nonE, mkT, mkL, dats, fns, wTg, setAll, setW, wipeG, idxW, slcW, itemsE, zipW, SS, List.map_cons, List.map_nil, List.length_cons, List.length_nil, Nat.zero_add, List.getElem?_cons_zero, List.getElem?_cons_succ, List.set_cons_zero, List.set_cons_succ, List.append_nil, List.nil_append, List.cons_append, List.replicate_zero, List.replicate_succ, Nat.sub_self, Nat.reduceSub, Nat.reduceAdd, Option.map_some, Option.map_none, List.take_length, wIf_dec, wIf_t, wIf_f, true_and, and_true, Nat.lt_irrefl, if_false, if_true, decide_eq_true_eq, decide_eq_false_iff_not, Bool.not_true, Bool.not_false, bne_self_eq_false, sz_le, Nat.reduceLeDiff, true_implies, not_true_eq_false, false_implies, implies_true, and_self, not_false_eq_true, wIf_not, at0, at1, at2, ix20, ix21, get_app, take_app, set_app, set_set, take_set, List.take_length, Int.reduceToNat, Int.reducePow, Int.reduceAdd, Int.reduceSub, Int.reduceMul, Int.reduceNeg, rngD_eq, m3, len2, app3]
  refine ⟨by omega, by omega, by omega, by omega, ?_⟩
  refine wFor_inv (fun ws Γ s => ∃ pre rest : List Int, pre ++ rest = rng 1 (3 * g + 1) ∧ ws = rest.map (fun i => W.d (.int i)) ∧ s = st ++ [.lst [.int a, .int b], .lst (rows.map .int), .lst (pre.filterMap (rowF g))] ∧ ∃ x11 x12 : Option W, Γ = [x0, some (.p st.length), x2, some (.d (.tuple E11)), x4, some (.d (.int g)), x6, x7, x8, some (.p (st.length + 1)), some (.p (st.length + 2)), x11, x12, x13, x14, x15]) ?_ ?_ _ _ _ ⟨[], _, rfl, rfl, rfl, x11, x12, rfl⟩
  · rintro Γ s ⟨pre, rest, e1, e2, rfl, x, y, rfl⟩
    have : rest = [] := List.map_eq_nil_iff.mp e2.symm
    subst this
    rw [List.append_nil] at e1
    subst e1
    exact tl0 g1 g2 (h _)
  · rintro w ws Γ s K ⟨pre, rest, e1, e2, rfl, x, y, rfl⟩ hK
    cases rest with
    | nil => cases e2
    | cons i rest =>
      rw [List.map_cons] at e2
      injection e2 with e2 e3
      subst e2
      have hi : i ∈ rng 1 (3 * g + 1) := by rw [← e1]; simp
      obtain ⟨i1, i2⟩ := rng_mem.mp hi
      have hlen : (pre.filterMap (rowF g)).length ≤ 3000 := by
        have h1 := List.length_filterMap_le (rowF g) pre
        have h2 : pre.length ≤ (rng 1 (3 * g + 1)).length := by rw [← e1]; simp
        rw [rng_len] at h2
        omega
      have next : ∀ (s' : Store) (y : Option W), s' = st ++ [.lst [.int a, .int b], .lst (rows.map .int), .lst ((pre ++ [i]).filterMap (rowF g))] → K [x0, some (.p st.length), x2, some (.d (.tuple E11)), x4, some (.d (.int g)), x6, x7, x8, some (.p (st.length + 1)), some (.p (st.length + 2)), some (.d (.int i)), y, x13, x14, x15] s' := fun s' y e =>
        hK _ _ ⟨pre ++ [i], rest, by rw [List.append_assoc]; exact e1, e3, e, _, _, rfl⟩
      have n0 : 0 ≤ leg2 g i := by
        have q1 := Int.mul_nonneg (show 0 ≤ i by omega) (show 0 ≤ i by omega)
        have q2 := Int.mul_nonneg (show 0 ≤ i + g by omega) (show 0 ≤ i + g by omega)
        unfold leg2; omega
      have n1 : leg2 g i < 2 ^ 80 := by
        have q1 := Int.mul_le_mul (show i ≤ 10000 by omega) (show i ≤ 10000 by omega) (by omega) (by omega)
        have q2 := Int.mul_le_mul (show i + g ≤ 10000 by omega) (show i + g ≤ 10000 by omega) (by omega) (by omega)
        unfold leg2; omega
      have e4 : i * i + (i + g) * (i + g) = leg2 g i := rfl
      have ms : ∀ i j : Int, -100000000 < i → i < 100000000 → MulOk i j := fun i j z1 z2 => mul_l _ (by omega) (by omega)
      have hr := rt_nn (leg2 g i)
      have hr2 := rt_lt n0 n1
      simp only [l_law_3, env0, wSs, wS, wE, wAs, wCh, wO, wC, wIt, en0, exitOk, ex0, onD, asD, asL, asQ, onL, onQ, onI, onB, onC, onV, onS, onDL, on2I, bop, bAdd, bMul, cop, cEq, cLt, cLe, cGt, cGe, cIn, cIs, isN, wTr, blt, bLen, lenQ, bAbs, bMin, bMax, bSum, bAll, bAny, bSorted, bTuple, bList, bInt, nonE, mkT, mkL, dats, fns, wTg, setAll, setW, wipeG, idxW, slcW, itemsE, zipW, SS, List.map_cons, List.map_nil, List.length_cons, List.length_nil, Nat.zero_add, List.getElem?_cons_zero, List.getElem?_cons_succ, List.set_cons_zero, List.set_cons_succ, List.append_nil, List.nil_append, List.cons_append, List.replicate_zero, List.replicate_succ, Nat.sub_self, Nat.reduceSub, Nat.reduceAdd, Option.map_some, Option.map_none, List.take_length, wIf_dec, wIf_t, wIf_f, true_and, and_true, Nat.lt_irrefl, if_false, if_true, decide_eq_true_eq, decide_eq_false_iff_not, Bool.not_true, Bool.not_false, bne_self_eq_false, sz_le, Nat.reduceLeDiff, true_implies, not_true_eq_false, false_implies, implies_true, and_self, not_false_eq_true, wIf_not, at0, at1, at2, ix20, ix21, get_app, take_app, set_app, set_set, take_set, List.take_length, Int.reduceToNat, Int.reducePow, Int.reduceAdd, Int.reduceSub, Int.reduceMul, Int.reduceNeg, sp_law_root, e4, get_app2, set_app2]
      refine ⟨ms _ _ (by omega) (by omega), ms _ _ (by omega) (by omega), n0, n1, mul_l _ (by omega) (by omega), ms _ _ (by omega) (by omega), ms _ _ (by omega) (by omega), fun z => ⟨by omega, next _ _ ?_⟩, fun z => next _ _ ?_⟩
      · rw [List.filterMap_append]
        simp only [List.filterMap_cons, List.filterMap_nil, rowF, z, if_true, T3]
      · rw [List.filterMap_append]
        simp only [List.filterMap_cons, List.filterMap_nil, rowF, z, if_false, List.append_nil]
theorem tlw {x0 x1 x2 x3 x4 x5 x6 x7 x8 x10 x11 x12 x13 x14 x15 : Option W} {st : Store} {c0 : Cell} {E : En} {R : XPS} (h : E.nx [x0, x1, x2, x3, x4, x5, x6, x7, x8, some (.p (st.length + 1)), x10, x11, x12, x13, x14, x15] (st ++ [c0, .lst (rows.map .int)])) :
    wS SS w_law_0 [x0, x1, x2, x3, x4, x5, x6, x7, x8, some (.p (st.length + 1)), x10, x11, x12, x13, x14, x15] (st ++ [c0, .lst [.int 1, .int 5]]) E R := by
  have hp : L2.CPow 10 9 := ⟨by decide, by decide, by decide⟩
  have hs : 100 < sizeLine := by rw [sizeLine_eq]; decide
  have m6 : ∀ i : Int, MulOk 6 i := fun i => mul_l i (by decide) (by decide)
  refine whl_of (fun k Γ s => ∃ j : Nat, j ≤ 10 ∧ s = st ++ [c0, .lst ((rows.take (j + 2)).map .int)] ∧ Γ = [x0, x1, x2, x3, x4, x5, x6, x7, x8, some (.p (st.length + 1)), x10, x11, x12, x13, x14, x15] ∧ k = 10 - j) _ ⟨0, by omega, rfl, rfl, rfl⟩ ?_
  rintro k Γ s ⟨j, hj, rfl, rfl, rfl⟩
  have all : ∀ (last prev : Int) (n : Nat), ((rows.take (j + 2)).map PyData.int).length = n → n ≤ 12 → L2.atI ((rows.take (j + 2)).map PyData.int) (-1) = some (.int last) → L2.atI ((rows.take (j + 2)).map PyData.int) (-2) = some (.int prev) →
      ((6 * last - prev ≤ 1000000000 ∧ j < 10 ∧ (rows.take (j + 2)).map PyData.int ++ [.int (6 * last - prev)] = (rows.take (j + 1 + 2)).map PyData.int) ∨ (¬ 6 * last - prev ≤ 1000000000 ∧ rows.take (j + 2) = rows)) →
      wE SS (.cmp (.bin .Sub (.bin .Mult (.con (.int 6)) (.idx (.var 9) (.neg (.con (.int 1))))) (.idx (.var 9) (.neg (.con (.int 2))))) (.last .LtE (.bin .Pow (.con (.int 10)) (.con (.int 9))))) [x0, x1, x2, x3, x4, x5, x6, x7, x8, some (.p (st.length + 1)), x10, x11, x12, x13, x14, x15] (st ++ [c0, .lst ((rows.take (j + 2)).map .int)])
        (fun x s1 => wTr x s1 fun t => wIf t (wSs SS l_law_2 [x0, x1, x2, x3, x4, x5, x6, x7, x8, some (.p (st.length + 1)), x10, x11, x12, x13, x14, x15] s1 ⟨fun Γ' s' => ∃ m', m' < 10 - j ∧ ∃ j : Nat, j ≤ 10 ∧ s' = st ++ [c0, .lst ((rows.take (j + 2)).map .int)] ∧ Γ' = [x0, x1, x2, x3, x4, x5, x6, x7, x8, some (.p (st.length + 1)), x10, x11, x12, x13, x14, x15] ∧ m' = 10 - j, E.rt, E.nx, fun Γ' s' => ∃ m', m' < 10 - j ∧ ∃ j : Nat, j ≤ 10 ∧ s' = st ++ [c0, .lst ((rows.take (j + 2)).map .int)] ∧ Γ' = [x0, x1, x2, x3, x4, x5, x6, x7, x8, some (.p (st.length + 1)), x10, x11, x12, x13, x14, x15] ∧ m' = 10 - j⟩ R) (E.nx [x0, x1, x2, x3, x4, x5, x6, x7, x8, some (.p (st.length + 1)), x10, x11, x12, x13, x14, x15] s1)) fun x s1 => R x [x0, x1, x2, x3, x4, x5, x6, x7, x8, some (.p (st.length + 1)), x10, x11, x12, x13, x14, x15] s1 := by
    intro last prev n hn hn2 e1 e2 hcase
    generalize hL : (rows.take (j + 2)).map PyData.int = L at *
    have i1 : (- (1 : Int)) = -1 := rfl
    simp only [l_law_2, env0, wSs, wS, wE, wAs, wCh, wO, wC, wIt, en0, exitOk, ex0, onD, asD, asL, asQ, onL, onQ, onI, onB, onC, onV, onS, onDL, on2I, bop, bAdd, bMul, cop, cEq, cLt, cLe, cGt, cGe, cIn, cIs, isN, wTr, blt, bLen, lenQ, bAbs, bMin, bMax, bSum, bAll, bAny, bSorted, bTuple, bList, bInt, nonE, mkT, mkL, dats, fns, wTg, setAll, setW, wipeG, idxW, slcW, itemsE, zipW, SS, List.map_cons, List.map_nil, List.length_cons, List.length_nil, Nat.zero_add, List.getElem?_cons_zero, List.getElem?_cons_succ, List.set_cons_zero, List.set_cons_succ, List.append_nil, List.nil_append, List.cons_append, List.replicate_zero, List.replicate_succ, Nat.sub_self, Nat.reduceSub, Nat.reduceAdd, Option.map_some, Option.map_none, List.take_length, wIf_dec, wIf_t, wIf_f, true_and, and_true, Nat.lt_irrefl, if_false, if_true, decide_eq_true_eq, decide_eq_false_iff_not, Bool.not_true, Bool.not_false, bne_self_eq_false, sz_le, Nat.reduceLeDiff, true_implies, not_true_eq_false, false_implies, implies_true, and_self, not_false_eq_true, wIf_not, at0, at1, at2, ix20, ix21, get_app, take_app, set_app, set_set, take_set, List.take_length, Int.reduceToNat, Int.reducePow, Int.reduceAdd, Int.reduceSub, Int.reduceMul, Int.reduceNeg, get_app1, set_app1, e1, e2, hp, m6]
    rcases hcase with ⟨q, hj2, e⟩ | ⟨q, e⟩
    · refine ⟨fun _ => ⟨by omega, _, ?_, j + 1, by omega, by rw [e], rfl⟩, fun z => absurd q z⟩
      omega
    · refine ⟨fun z => absurd z q, fun _ => ?_⟩
      rw [← hL, e]; exact h
  have hj' : j = 0 ∨ j = 1 ∨ j = 2 ∨ j = 3 ∨ j = 4 ∨ j = 5 ∨ j = 6 ∨ j = 7 ∨ j = 8 ∨ j = 9 ∨ j = 10 := by omega
  rcases hj' with rfl | rfl | rfl | rfl | rfl | rfl | rfl | rfl | rfl | rfl | rfl
  · exact all 5 1 2 rfl (by decide) rfl rfl (.inl ⟨by decide, by decide, rfl⟩)
  · exact all 29 5 3 rfl (by decide) rfl rfl (.inl ⟨by decide, by decide, rfl⟩)
  · exact all 169 29 4 rfl (by decide) rfl rfl (.inl ⟨by decide, by decide, rfl⟩)
  · exact all 985 169 5 rfl (by decide) rfl rfl (.inl ⟨by decide, by decide, rfl⟩)
  · exact all 5741 985 6 rfl (by decide) rfl rfl (.inl ⟨by decide, by decide, rfl⟩)
  · exact all 33461 5741 7 rfl (by decide) rfl rfl (.inl ⟨by decide, by decide, rfl⟩)
  · exact all 195025 33461 8 rfl (by decide) rfl rfl (.inl ⟨by decide, by decide, rfl⟩)
  · exact all 1136689 195025 9 rfl (by decide) rfl rfl (.inl ⟨by decide, by decide, rfl⟩)
  · exact all 6625109 1136689 10 rfl (by decide) rfl rfl (.inl ⟨by decide, by decide, rfl⟩)
  · exact all 38613965 6625109 11 rfl (by decide) rfl rfl (.inl ⟨by decide, by decide, rfl⟩)
  · exact all 225058681 38613965 12 rfl (by decide) rfl rfl (.inr ⟨by decide, rfl⟩)
end Q81
namespace Q81
open PySem Z
section
variable {d1 d2 d3 d4 d5 d6 d7 : PyData} {K : W → Prop}
theorem vm_0 : mkT [] K = K (.d (.tuple [])) := by simp only [mkT, dats, Option.map_some, List.length_cons, List.length_nil, sz_le, Nat.zero_add, Nat.reduceAdd, Nat.reduceLeDiff, Nat.zero_le, true_and]
theorem vm_4 : mkT [.d d1, .d d2, .d d3, .d d4] K = K (.d (.tuple [d1, d2, d3, d4])) := by simp only [mkT, dats, Option.map_some, List.length_cons, List.length_nil, sz_le, Nat.zero_add, Nat.reduceAdd, Nat.reduceLeDiff, Nat.zero_le, true_and]
theorem vm_5 : mkT [.d d1, .d d2, .d d3, .d d4, .d d5] K = K (.d (.tuple [d1, d2, d3, d4, d5])) := by simp only [mkT, dats, Option.map_some, List.length_cons, List.length_nil, sz_le, Nat.zero_add, Nat.reduceAdd, Nat.reduceLeDiff, Nat.zero_le, true_and]
theorem vl_4 : mkL [.d d1, .d d2, .d d3, .d d4] K = K (.d (.list [d1, d2, d3, d4])) := by simp only [mkL, dats, Option.map_some, List.length_cons, List.length_nil, sz_le, Nat.zero_add, Nat.reduceAdd, Nat.reduceLeDiff, Nat.zero_le, true_and]
theorem vl_5 : mkL [.d d1, .d d2, .d d3, .d d4, .d d5] K = K (.d (.list [d1, d2, d3, d4, d5])) := by simp only [mkL, dats, Option.map_some, List.length_cons, List.length_nil, sz_le, Nat.zero_add, Nat.reduceAdd, Nat.reduceLeDiff, Nat.zero_le, true_and]
theorem vl_6 : mkL [.d d1, .d d2, .d d3, .d d4, .d d5, .d d6] K = K (.d (.list [d1, d2, d3, d4, d5, d6])) := by simp only [mkL, dats, Option.map_some, List.length_cons, List.length_nil, sz_le, Nat.zero_add, Nat.reduceAdd, Nat.reduceLeDiff, Nat.zero_le, true_and]
theorem vl_7 : mkL [.d d1, .d d2, .d d3, .d d4, .d d5, .d d6, .d d7] K = K (.d (.list [d1, d2, d3, d4, d5, d6, d7])) := by simp only [mkL, dats, Option.map_some, List.length_cons, List.length_nil, sz_le, Nat.zero_add, Nat.reduceAdd, Nat.reduceLeDiff, Nat.zero_le, true_and]
end
theorem Rect.times {a b c k : Int} (h : Rect a b c) (h1 : 1 ≤ k) (h2 : c * k ≤ 1000000000) (hlt : a < b) : Rect (a * k) (b * k) (c * k) ∧ a * k < b * k := by
  obtain ⟨⟨f1, f2, f3, f4, f5⟩, e⟩ := h
  have m : ∀ {x y : Int}, x ≤ y → x * k ≤ y * k := fun q => Int.mul_le_mul_of_nonneg_right q (by omega)
  have m2 : ∀ {x y : Int}, x < y → x * k < y * k := fun q => Int.mul_lt_mul_of_pos_right q (by omega)
  have q1 := m f1
  have q4 := m2 f4
  rw [Int.add_mul] at q4
  exact ⟨⟨⟨by omega, m f2, m f3, by omega, h2⟩, by grind⟩, m2 hlt⟩
theorem law_f0 {x0 x2 x3 x4 x5 x6 x7 x8 x9 x10 x11 x12 x13 x14 x15 : Option W} {st : Store} {E : En} {R : XPS} {a b : Int} (hc : cupOk a b)
    (h : ∀ a b y, cupOk a b → E.nx [x0, some (.p st.length), x2, x3, x4, y, x6, x7, x8, x9, x10, x11, x12, x13, x14, x15] (st ++ [.lst [.int a, .int b]])) :
    wS SS f_law_0 [x0, some (.p st.length), x2, x3, x4, x5, x6, x7, x8, x9, x10, x11, x12, x13, x14, x15] (st ++ [.lst [.int a, .int b]]) E R := by
  unfold f_law_0
  simp only [env0, wSs, wS, wE, wAs, wCh, wO, wC, wIt, en0, exitOk, ex0, onD, asD, asL, asQ, onL, onQ, onI, onB, onC, onV, onS, onDL, on2I, bop, bAdd, bMul, cop, cEq, cLt, cLe, cGt, cGe, cIn, cIs, isN, wTr, blt, bLen, lenQ, bAbs, bMin, bMax, bSum, bAll, bAny, bSorted, bTuple, bList, bInt, nonE, mkT, mkL, dats, fns, wTg, setAll, setW, wipeG, idxW, slcW, itemsE, zipW, SS, List.map_cons, List.map_nil, List.length_cons, List.length_nil, Nat.zero_add, List.getElem?_cons_zero, List.getElem?_cons_succ, List.set_cons_zero, List.set_cons_succ, List.append_nil, List.nil_append, List.cons_append, List.replicate_zero, List.replicate_succ, Nat.sub_self, Nat.reduceSub, Nat.reduceAdd, Option.map_some, Option.map_none, List.take_length, wIf_dec, wIf_t, wIf_f, true_and, and_true, Nat.lt_irrefl, if_false, if_true, decide_eq_true_eq, decide_eq_false_iff_not, Bool.not_true, Bool.not_false, bne_self_eq_false, sz_le, Nat.reduceLeDiff, true_implies, not_true_eq_false, false_implies, implies_true, and_self, not_false_eq_true, wIf_not, at0, at1, at2, ix20, ix21, get_app, take_app, set_app, set_set, take_set, List.take_length, Int.reduceToNat, Int.reducePow, Int.reduceAdd, Int.reduceSub, Int.reduceMul, Int.reduceNeg, sp_law_roll]
  refine ⟨⟨a, b, hc, rfl⟩, by omega, by omega, fun a1 b1 r1 hc1 p1 q1 => ?_⟩
  try simp only [env0, wSs, wS, wE, wAs, wCh, wO, wC, wIt, en0, exitOk, ex0, onD, asD, asL, asQ, onL, onQ, onI, onB, onC, onV, onS, onDL, on2I, bop, bAdd, bMul, cop, cEq, cLt, cLe, cGt, cGe, cIn, cIs, isN, wTr, blt, bLen, lenQ, bAbs, bMin, bMax, bSum, bAll, bAny, bSorted, bTuple, bList, bInt, nonE, mkT, mkL, dats, fns, wTg, setAll, setW, wipeG, idxW, slcW, itemsE, zipW, SS, List.map_cons, List.map_nil, List.length_cons, List.length_nil, Nat.zero_add, List.getElem?_cons_zero, List.getElem?_cons_succ, List.set_cons_zero, List.set_cons_succ, List.append_nil, List.nil_append, List.cons_append, List.replicate_zero, List.replicate_succ, Nat.sub_self, Nat.reduceSub, Nat.reduceAdd, Option.map_some, Option.map_none, List.take_length, wIf_dec, wIf_t, wIf_f, true_and, and_true, Nat.lt_irrefl, if_false, if_true, decide_eq_true_eq, decide_eq_false_iff_not, Bool.not_true, Bool.not_false, bne_self_eq_false, sz_le, Nat.reduceLeDiff, true_implies, not_true_eq_false, false_implies, implies_true, and_self, not_false_eq_true, wIf_not, at0, at1, at2, ix20, ix21, get_app, take_app, set_app, set_set, take_set, List.take_length, Int.reduceToNat, Int.reducePow, Int.reduceAdd, Int.reduceSub, Int.reduceMul, Int.reduceNeg]
  refine ⟨⟨a1, b1, hc1, rfl⟩, by omega, by omega, fun a2 b2 r2 hc2 p2 q2 => ?_⟩
  try simp only [env0, wSs, wS, wE, wAs, wCh, wO, wC, wIt, en0, exitOk, ex0, onD, asD, asL, asQ, onL, onQ, onI, onB, onC, onV, onS, onDL, on2I, bop, bAdd, bMul, cop, cEq, cLt, cLe, cGt, cGe, cIn, cIs, isN, wTr, blt, bLen, lenQ, bAbs, bMin, bMax, bSum, bAll, bAny, bSorted, bTuple, bList, bInt, nonE, mkT, mkL, dats, fns, wTg, setAll, setW, wipeG, idxW, slcW, itemsE, zipW, SS, List.map_cons, List.map_nil, List.length_cons, List.length_nil, Nat.zero_add, List.getElem?_cons_zero, List.getElem?_cons_succ, List.set_cons_zero, List.set_cons_succ, List.append_nil, List.nil_append, List.cons_append, List.replicate_zero, List.replicate_succ, Nat.sub_self, Nat.reduceSub, Nat.reduceAdd, Option.map_some, Option.map_none, List.take_length, wIf_dec, wIf_t, wIf_f, true_and, and_true, Nat.lt_irrefl, if_false, if_true, decide_eq_true_eq, decide_eq_false_iff_not, Bool.not_true, Bool.not_false, bne_self_eq_false, sz_le, Nat.reduceLeDiff, true_implies, not_true_eq_false, false_implies, implies_true, and_self, not_false_eq_true, wIf_not, at0, at1, at2, ix20, ix21, get_app, take_app, set_app, set_set, take_set, List.take_length, Int.reduceToNat, Int.reducePow, Int.reduceAdd, Int.reduceSub, Int.reduceMul, Int.reduceNeg]
  refine wFor_inv (fun ws Γ s => (∀ w, w ∈ ws → ∃ g, w = .d (.int g) ∧ 1 ≤ g ∧ g ≤ 60) ∧ (∃ a b, cupOk a b ∧ s = st ++ [.lst [.int a, .int b]]) ∧ ∃ y : Option W, Γ = [x0, some (.p st.length), x2, x3, x4, y, x6, x7, x8, x9, x10, x11, x12, x13, x14, x15]) ?_ ?_ _ _ _ ⟨?_, ⟨_, _, hc2, rfl⟩, _, rfl⟩
  · rintro Γ s ⟨_, ⟨a, b, hc, rfl⟩, y, rfl⟩
    exact h _ _ _ hc
  · rintro w ws Γ s K ⟨hw, ⟨a, b, hc, rfl⟩, y, rfl⟩ hK
    obtain ⟨g, rfl, g1, g2⟩ := hw w List.mem_cons_self
    simp only [l_law_0, env0, wSs, wS, wE, wAs, wCh, wO, wC, wIt, en0, exitOk, ex0, onD, asD, asL, asQ, onL, onQ, onI, onB, onC, onV, onS, onDL, on2I, bop, bAdd, bMul, cop, cEq, cLt, cLe, cGt, cGe, cIn, cIs, isN, wTr, blt, bLen, lenQ, bAbs, bMin, bMax, bSum, bAll, bAny, bSorted, bTuple, bList, bInt, nonE, mkT, mkL, dats, fns, wTg, setAll, setW, wipeG, idxW, slcW, itemsE, zipW, SS, List.map_cons, List.map_nil, List.length_cons, List.length_nil, Nat.zero_add, List.getElem?_cons_zero, List.getElem?_cons_succ, List.set_cons_zero, List.set_cons_succ, List.append_nil, List.nil_append, List.cons_append, List.replicate_zero, List.replicate_succ, Nat.sub_self, Nat.reduceSub, Nat.reduceAdd, Option.map_some, Option.map_none, List.take_length, wIf_dec, wIf_t, wIf_f, true_and, and_true, Nat.lt_irrefl, if_false, if_true, decide_eq_true_eq, decide_eq_false_iff_not, Bool.not_true, Bool.not_false, bne_self_eq_false, sz_le, Nat.reduceLeDiff, true_implies, not_true_eq_false, false_implies, implies_true, and_self, not_false_eq_true, wIf_not, at0, at1, at2, ix20, ix21, get_app, take_app, set_app, set_set, take_set, List.take_length, Int.reduceToNat, Int.reducePow, Int.reduceAdd, Int.reduceSub, Int.reduceMul, Int.reduceNeg, sp_law_roll, sp_law_small_right]
    refine ⟨mul_l _ (by omega) (by omega), ⟨a, b, hc, rfl⟩, by omega, by omega, fun a1 b1 r1 hc1 p1 q1 => ?_⟩
    try simp only [env0, wSs, wS, wE, wAs, wCh, wO, wC, wIt, en0, exitOk, ex0, onD, asD, asL, asQ, onL, onQ, onI, onB, onC, onV, onS, onDL, on2I, bop, bAdd, bMul, cop, cEq, cLt, cLe, cGt, cGe, cIn, cIs, isN, wTr, blt, bLen, lenQ, bAbs, bMin, bMax, bSum, bAll, bAny, bSorted, bTuple, bList, bInt, nonE, mkT, mkL, dats, fns, wTg, setAll, setW, wipeG, idxW, slcW, itemsE, zipW, SS, List.map_cons, List.map_nil, List.length_cons, List.length_nil, Nat.zero_add, List.getElem?_cons_zero, List.getElem?_cons_succ, List.set_cons_zero, List.set_cons_succ, List.append_nil, List.nil_append, List.cons_append, List.replicate_zero, List.replicate_succ, Nat.sub_self, Nat.reduceSub, Nat.reduceAdd, Option.map_some, Option.map_none, List.take_length, wIf_dec, wIf_t, wIf_f, true_and, and_true, Nat.lt_irrefl, if_false, if_true, decide_eq_true_eq, decide_eq_false_iff_not, Bool.not_true, Bool.not_false, bne_self_eq_false, sz_le, Nat.reduceLeDiff, true_implies, not_true_eq_false, false_implies, implies_true, and_self, not_false_eq_true, wIf_not, at0, at1, at2, ix20, ix21, get_app, take_app, set_app, set_set, take_set, List.take_length, Int.reduceToNat, Int.reducePow, Int.reduceAdd, Int.reduceSub, Int.reduceMul, Int.reduceNeg]
    exact ⟨g1, g2, by omega, by omega, hK _ _ ⟨fun w q => hw w (List.mem_cons_of_mem _ q), ⟨_, _, hc1, rfl⟩, _, rfl⟩⟩
  · intro w hw
    simp only [List.mem_cons, List.not_mem_nil, or_false] at hw
    rcases hw with rfl | rfl | rfl <;> exact ⟨_, rfl, by omega, by omega⟩
theorem law_f1 {x0 x2 x3 x4 x5 x6 x7 x8 x9 x10 x11 x12 x13 x14 x15 : Option W} {st : Store} {E : En} {R : XPS} {a b : Int} (hc : cupOk a b)
    (h : ∀ a b x6 x7 x8, cupOk a b → E.nx [x0, some (.p st.length), x2, x3, x4, x5, x6, x7, x8, x9, x10, x11, x12, x13, x14, x15] (st ++ [.lst [.int a, .int b]])) :
    wS SS f_law_1 [x0, some (.p st.length), x2, x3, x4, x5, x6, x7, x8, x9, x10, x11, x12, x13, x14, x15] (st ++ [.lst [.int a, .int b]]) E R := by
  unfold f_law_1
  simp only [env0, wSs, wS, wE, wAs, wCh, wO, wC, wIt, en0, exitOk, ex0, onD, asD, asL, asQ, onL, onQ, onI, onB, onC, onV, onS, onDL, on2I, bop, bAdd, bMul, cop, cEq, cLt, cLe, cGt, cGe, cIn, cIs, isN, wTr, blt, bLen, lenQ, bAbs, bMin, bMax, bSum, bAll, bAny, bSorted, bTuple, bList, bInt, nonE, mkT, mkL, dats, fns, wTg, setAll, setW, wipeG, idxW, slcW, itemsE, zipW, SS, List.map_cons, List.map_nil, List.length_cons, List.length_nil, Nat.zero_add, List.getElem?_cons_zero, List.getElem?_cons_succ, List.set_cons_zero, List.set_cons_succ, List.append_nil, List.nil_append, List.cons_append, List.replicate_zero, List.replicate_succ, Nat.sub_self, Nat.reduceSub, Nat.reduceAdd, Option.map_some, Option.map_none, List.take_length, wIf_dec, wIf_t, wIf_f, true_and, and_true, Nat.lt_irrefl, if_false, if_true, decide_eq_true_eq, decide_eq_false_iff_not, Bool.not_true, Bool.not_false, bne_self_eq_false, sz_le, Nat.reduceLeDiff, true_implies, not_true_eq_false, false_implies, implies_true, and_self, not_false_eq_true, wIf_not, at0, at1, at2, ix20, ix21, get_app, take_app, set_app, set_set, take_set, List.take_length, Int.reduceToNat, Int.reducePow, Int.reduceAdd, Int.reduceSub, Int.reduceMul, Int.reduceNeg]
  refine wFor_inv (fun ws Γ s => (∀ w, w ∈ ws → ∃ m, w = .d (.int m) ∧ 1 ≤ m ∧ m ≤ 9000) ∧ (∃ a b, cupOk a b ∧ s = st ++ [.lst [.int a, .int b]]) ∧ ∃ x6 x7 x8 : Option W, Γ = [x0, some (.p st.length), x2, x3, x4, x5, x6, x7, x8, x9, x10, x11, x12, x13, x14, x15]) ?_ ?_ _ _ _ ⟨?_, ⟨_, _, hc, rfl⟩, _, _, _, rfl⟩
  · rintro Γ s ⟨_, ⟨a, b, hc, rfl⟩, y, z, u, rfl⟩
    exact h _ _ _ _ _ hc
  · rintro w ws Γ s K ⟨hw, ⟨a, b, hc, rfl⟩, y, z, u, rfl⟩ hK
    obtain ⟨m, rfl, m1, m2⟩ := hw w List.mem_cons_self
    simp only [l_law_1, env0, List.map_cons, List.map_nil, List.cons_append, List.nil_append, List.length_cons, List.length_nil, Nat.zero_add, Nat.reduceAdd, Nat.reduceSub, List.replicate_succ, List.replicate_zero, List.set_cons_zero, List.set_cons_succ, setW, isN, true_and, Bool.not_true, Bool.not_false, vt_true, vt_false, wIf_dec, sz_le, Nat.reduceLeDiff, ↓SS, ↓ev_var0, ↓ev_varS, ↓ev_con, ↓ev_glob, ↓ev_fnv, ↓ev_bin, ↓ev_neg, ↓ev_not, ↓ev_cmp, ↓ev_and, ↓ev_or, ↓ev_ite, ↓ev_tup, ↓ev_lst, ↓ev_idx, ↓ev_call, ↓ev_blt, ↓ev_isi, ↓ev_new, ↓ev_slc, ↓ev_nil, ↓ev_cons, ↓ev_last, ↓ev_link, ↓ev_none, ↓ev_some, ↓sv_nil, ↓sv_cons, ↓sv_set, ↓sv_par, ↓sv_unp, ↓sv_put, ↓sv_app, ↓sv_ret, ↓sv_ex, ↓sv_ite, ↓sv_pass, ↓sv_raise, ↓vo_add, ↓vo_addL, ↓vo_addT, ↓vo_sub, ↓vo_mul, ↓vo_div, ↓vo_mod, ↓vo_pow, ↓vi_int, ↓vi_bool, ↓vi_dat, ↓vi_d, ↓vi_lst, ↓vt_bool, ↓vt_true, ↓vt_false, ↓vc_eq, ↓vc_ne, ↓vc_lt, ↓vc_le, ↓vc_gt, ↓vc_ge, ↓vc_is, ↓vc_isn, ↓vc_isnone, ↓vc_tt, ↓vc_ntt, ↓vc_ss, ↓vc_nss, ↓vc_in, ↓vc_inl, ↓vc_nin, ↓vx_0, ↓vx_1, ↓vx_2, ↓vm_1, ↓vm_2, ↓vm_3, ↓vl_0, ↓vl_1, ↓vl_2, ↓vl_3, ↓sp_law_roll, get_app, set_app, ↓sp_law_right, ↓sp_law_any_right, ↓sp_times_of]
    refine ⟨⟨a, b, hc, rfl⟩, by omega, by omega, fun a1 b1 r1 hc1 p1 q1 => ⟨⟨a1, b1, hc1, rfl⟩, by omega, by omega, fun a2 b2 r2 hc2 p2 q2 => ?_⟩⟩
    have hr := law_right_rect (u := 1 + r1 + 1 + r2) (v := 1 + r1) (by omega) (by omega) (by omega)
    have hlt := law_right_lt (u := 1 + r1 + 1 + r2) (v := 1 + r1) (by omega) (by omega)
    have hC : (1 + r1 + 1 + r2) * (1 + r1 + 1 + r2) + (1 + r1) * (1 + r1) ≤ 500000000 := by
      have q1 := Int.mul_le_mul (show 1 + r1 + 1 + r2 ≤ 18001 by omega) (show 1 + r1 + 1 + r2 ≤ 18001 by omega) (by omega) (by omega)
      have q2 := Int.mul_le_mul (show 1 + r1 ≤ 9000 by omega) (show 1 + r1 ≤ 9000 by omega) (by omega) (by omega)
      omega
    revert hr hlt hC
    generalize mn ((1 + r1 + 1 + r2) * (1 + r1 + 1 + r2) - (1 + r1) * (1 + r1)) (2 * (1 + r1 + 1 + r2) * (1 + r1)) = A
    generalize mx ((1 + r1 + 1 + r2) * (1 + r1 + 1 + r2) - (1 + r1) * (1 + r1)) (2 * (1 + r1 + 1 + r2) * (1 + r1)) = B
    generalize (1 + r1 + 1 + r2) * (1 + r1 + 1 + r2) + (1 + r1) * (1 + r1) = C
    intro hr hlt hC
    refine ⟨by omega, by omega, by omega, hr, hlt, ⟨a2, b2, hc2, rfl⟩, by omega, by omega, fun a3 b3 r3 hc3 p3 q3 => ?_⟩
    have hk : C * (1 + r3) ≤ 1000000000 := by
      have q1 := Int.mul_le_mul (show C ≤ 500000000 from hC) (show 1 + r3 ≤ 2 by omega) (by omega) (by omega)
      omega
    obtain ⟨t1, t2⟩ := hr.times (show 1 ≤ 1 + r3 by omega) hk hlt
    exact ⟨hr.1, by omega, by omega, hk, t1, t2, hK _ _ ⟨fun w q => hw w (List.mem_cons_of_mem _ q), ⟨_, _, hc3, rfl⟩, _, _, _, rfl⟩⟩
  · intro w hw
    simp only [List.mem_cons, List.not_mem_nil, or_false] at hw
    rcases hw with rfl | rfl | rfl <;> exact ⟨_, rfl, by omega, by omega⟩
theorem ok_law : Does SS 16 b_law sp_law := by
  intro ws st P R h
  unfold sp_law at h
  split at h
  · rename_i xs
    obtain ⟨hn, h⟩ := h
    have out : ∀ s', (en0 st.length P).rt (.d (.bool true)) (st ++ s') := fun s' => by
      show P (.d (.bool true)) ((st ++ s').take st.length)
      rw [take_app]; exact h
    have len1 : ∀ (l : Store) (x : Cell), (l ++ [x]).length = l.length + 1 := fun l x => by simp
    have app2 : ∀ (l : Store) (x y : Cell), l ++ [x] ++ [y] = l ++ [x, y] := fun l x y => by simp
    obtain ⟨r1, r2, r3, r4⟩ := rects
    simp only [b_law, env0, List.map_cons, List.map_nil, List.cons_append, List.nil_append, List.length_cons, List.length_nil, Nat.zero_add, Nat.reduceAdd, Nat.reduceSub, List.replicate_succ, List.replicate_zero, List.set_cons_zero, List.set_cons_succ, setW, isN, true_and, Bool.not_true, Bool.not_false, vt_true, vt_false, wIf_dec, sz_le, Nat.reduceLeDiff, ↓SS, ↓ev_var0, ↓ev_varS, ↓ev_con, ↓ev_glob, ↓ev_fnv, ↓ev_bin, ↓ev_neg, ↓ev_not, ↓ev_cmp, ↓ev_and, ↓ev_or, ↓ev_ite, ↓ev_tup, ↓ev_lst, ↓ev_idx, ↓ev_call, ↓ev_blt, ↓ev_isi, ↓ev_new, ↓ev_slc, ↓ev_nil, ↓ev_cons, ↓ev_last, ↓ev_link, ↓ev_none, ↓ev_some, ↓sv_nil, ↓sv_cons, ↓sv_set, ↓sv_par, ↓sv_unp, ↓sv_put, ↓sv_app, ↓sv_ret, ↓sv_ex, ↓sv_ite, ↓sv_pass, ↓sv_raise, ↓vo_add, ↓vo_addL, ↓vo_addT, ↓vo_sub, ↓vo_mul, ↓vo_div, ↓vo_mod, ↓vo_pow, ↓vi_int, ↓vi_bool, ↓vi_dat, ↓vi_d, ↓vi_lst, ↓vt_bool, ↓vt_true, ↓vt_false, ↓vc_eq, ↓vc_ne, ↓vc_lt, ↓vc_le, ↓vc_gt, ↓vc_ge, ↓vc_is, ↓vc_isn, ↓vc_isnone, ↓vc_tt, ↓vc_ntt, ↓vc_ss, ↓vc_nss, ↓vc_in, ↓vc_inl, ↓vc_nin, ↓vx_0, ↓vx_1, ↓vx_2, ↓vm_1, ↓vm_2, ↓vm_3, ↓vl_0, ↓vl_1, ↓vl_2, ↓vl_3, ↓vl_5, ↓vl_7, ↓vm_0, ↓vm_4, ↓vm_5, ↓vl_4, ↓vl_6, ↓sp_law_cup, ↓sp_leg_gap, ↓sp_legs_on, ↓sp_legs_back, ↓sp_first_legs_of, ↓sp_first_legs, ↓sp_legs_up_to, ↓sp_law_like]
    refine ⟨hn, fun a b hc => ?_⟩
    simp only [fs1, fs2, fs7, ls1, ls7, ls2, bk1, bk2, on1, on2, ro1, T3, Int.reduceSub]
    refine ⟨r1, r1, r2, r1, r3, by decide, by decide, by decide, by decide, by decide, trivial, rfl, by decide, by decide, by decide, by decide, by decide, by decide, by decide, by decide, r4, by decide, by decide, by decide, by decide, by decide, by decide, trivial, rfl, law_f0 hc fun a b y hc => ?_⟩
    simp only [t_law_3, env0, List.map_cons, List.map_nil, List.cons_append, List.nil_append, List.length_cons, List.length_nil, Nat.zero_add, Nat.reduceAdd, Nat.reduceSub, List.replicate_succ, List.replicate_zero, List.set_cons_zero, List.set_cons_succ, setW, isN, true_and, Bool.not_true, Bool.not_false, vt_true, vt_false, wIf_dec, sz_le, Nat.reduceLeDiff, ↓SS, ↓ev_var0, ↓ev_varS, ↓ev_con, ↓ev_glob, ↓ev_fnv, ↓ev_bin, ↓ev_neg, ↓ev_not, ↓ev_cmp, ↓ev_and, ↓ev_or, ↓ev_ite, ↓ev_tup, ↓ev_lst, ↓ev_idx, ↓ev_call, ↓ev_blt, ↓ev_isi, ↓ev_new, ↓ev_slc, ↓ev_nil, ↓ev_cons, ↓ev_last, ↓ev_link, ↓ev_none, ↓ev_some, ↓sv_nil, ↓sv_cons, ↓sv_set, ↓sv_par, ↓sv_unp, ↓sv_put, ↓sv_app, ↓sv_ret, ↓sv_ex, ↓sv_ite, ↓sv_pass, ↓sv_raise, ↓vo_add, ↓vo_addL, ↓vo_addT, ↓vo_sub, ↓vo_mul, ↓vo_div, ↓vo_mod, ↓vo_pow, ↓vi_int, ↓vi_bool, ↓vi_dat, ↓vi_d, ↓vi_lst, ↓vt_bool, ↓vt_true, ↓vt_false, ↓vc_eq, ↓vc_ne, ↓vc_lt, ↓vc_le, ↓vc_gt, ↓vc_ge, ↓vc_is, ↓vc_isn, ↓vc_isnone, ↓vc_tt, ↓vc_ntt, ↓vc_ss, ↓vc_nss, ↓vc_in, ↓vc_inl, ↓vc_nin, ↓vx_0, ↓vx_1, ↓vx_2, ↓vm_1, ↓vm_2, ↓vm_3, ↓vl_0, ↓vl_1, ↓vl_2, ↓vl_3]
    refine law_f1 hc fun a b x6 x7 x8 hc => ?_
    simp only [t_law_2, env0, List.map_cons, List.map_nil, List.cons_append, List.nil_append, List.length_cons, List.length_nil, Nat.zero_add, Nat.reduceAdd, Nat.reduceSub, List.replicate_succ, List.replicate_zero, List.set_cons_zero, List.set_cons_succ, setW, isN, true_and, Bool.not_true, Bool.not_false, vt_true, vt_false, wIf_dec, sz_le, Nat.reduceLeDiff, ↓SS, ↓ev_var0, ↓ev_varS, ↓ev_con, ↓ev_glob, ↓ev_fnv, ↓ev_bin, ↓ev_neg, ↓ev_not, ↓ev_cmp, ↓ev_and, ↓ev_or, ↓ev_ite, ↓ev_tup, ↓ev_lst, ↓ev_idx, ↓ev_call, ↓ev_blt, ↓ev_isi, ↓ev_new, ↓ev_slc, ↓ev_nil, ↓ev_cons, ↓ev_last, ↓ev_link, ↓ev_none, ↓ev_some, ↓sv_nil, ↓sv_cons, ↓sv_set, ↓sv_par, ↓sv_unp, ↓sv_put, ↓sv_app, ↓sv_ret, ↓sv_ex, ↓sv_ite, ↓sv_pass, ↓sv_raise, ↓vo_add, ↓vo_addL, ↓vo_addT, ↓vo_sub, ↓vo_mul, ↓vo_div, ↓vo_mod, ↓vo_pow, ↓vi_int, ↓vi_bool, ↓vi_dat, ↓vi_d, ↓vi_lst, ↓vt_bool, ↓vt_true, ↓vt_false, ↓vc_eq, ↓vc_ne, ↓vc_lt, ↓vc_le, ↓vc_gt, ↓vc_ge, ↓vc_is, ↓vc_isn, ↓vc_isnone, ↓vc_tt, ↓vc_ntt, ↓vc_ss, ↓vc_nss, ↓vc_in, ↓vc_inl, ↓vc_nin, ↓vx_0, ↓vx_1, ↓vx_2, ↓vm_1, ↓vm_2, ↓vm_3, ↓vl_0, ↓vl_1, ↓vl_2, ↓vl_3, ↓vl_2, len1, app2]
    exact tlw (tl1 hc out)
  · exact h.elim
end Q81
namespace Q81
open PySem Z
theorem ari_is_integer : Ari 1 (sp_is_integer) := by
  intro ws st P R h
  simp only [sp_is_integer] at h
  split at h <;> first | rfl | exact h.elim
theorem ari_is_whole : Ari 3 (sp_is_whole) := by
  intro ws st P R h
  simp only [sp_is_whole] at h
  split at h <;> first | rfl | exact h.elim
theorem ari_need_whole : Ari 3 (sp_need_whole) := by
  intro ws st P R h
  simp only [sp_need_whole] at h
  split at h <;> first | rfl | exact h.elim
theorem ari_is_tuple_of : Ari 3 (sp_is_tuple_of) := by
  intro ws st P R h
  simp only [sp_is_tuple_of] at h
  split at h <;> first | rfl | exact h.elim
theorem ari_root_in : Ari 1 (sp_root_in) := by
  intro ws st P R h
  simp only [sp_root_in, sp_law_root] at h
  split at h <;> first | rfl | exact h.elim
theorem ari_is_square_in : Ari 1 (sp_is_square_in) := by
  intro ws st P R h
  simp only [sp_is_square_in] at h
  split at h <;> first | rfl | exact h.elim
theorem ari_is_side : Ari 1 (sp_is_side) := by
  intro ws st P R h
  simp only [sp_is_side] at h
  split at h <;> first | rfl | exact h.elim
theorem ari_fits_triangle : Ari 1 (sp_fits_triangle) := by
  intro ws st P R h
  simp only [sp_fits_triangle] at h
  split at h <;> first | rfl | exact h.elim
theorem ari_need_triangle : Ari 1 (sp_need_triangle) := by
  intro ws st P R h
  simp only [sp_need_triangle] at h
  split at h <;> first | rfl | exact h.elim
theorem ari_need_side : Ari 1 (sp_need_side) := by
  intro ws st P R h
  simp only [sp_need_side] at h
  split at h <;> first | rfl | exact h.elim
theorem ari_kind_in : Ari 1 (sp_kind_in) := by
  intro ws st P R h
  simp only [sp_kind_in] at h
  split at h <;> first | rfl | exact h.elim
theorem ari_times_in : Ari 2 (sp_times_in) := by
  intro ws st P R h
  simp only [sp_times_in] at h
  split at h <;> first | rfl | exact h.elim
theorem ari_kind_of : Ari 1 (sp_kind_of) := by
  intro ws st P R h
  simp only [sp_kind_of, sp_kind_in] at h
  split at h <;> first | rfl | exact h.elim
theorem ari_times_of : Ari 2 (sp_times_of) := by
  intro ws st P R h
  simp only [sp_times_of] at h
  split at h <;> first | rfl | exact h.elim
theorem ari_need_right : Ari 1 (sp_need_right) := by
  intro ws st P R h
  simp only [sp_need_right] at h
  split at h <;> first | rfl | exact h.elim
theorem ari_on_legs : Ari 1 (sp_on_legs) := by
  intro ws st P R h
  simp only [sp_on_legs] at h
  split at h <;> first | rfl | exact h.elim
theorem ari_back_legs : Ari 1 (sp_back_legs) := by
  intro ws st P R h
  simp only [sp_back_legs] at h
  split at h <;> first | rfl | exact h.elim
theorem ari_first_legs_in : Ari 1 (sp_first_legs_in) := by
  intro ws st P R h
  simp only [sp_first_legs_in] at h
  split at h <;> first | rfl | exact h.elim
theorem ari_all_legs : Ari 2 (sp_all_legs) := by
  intro ws st P R h
  simp only [sp_all_legs] at h
  split at h <;> first | rfl | exact h.elim
theorem ari_leg_gap : Ari 1 (sp_leg_gap) := by
  intro ws st P R h
  simp only [sp_leg_gap] at h
  split at h <;> first | rfl | exact h.elim
theorem ari_legs_on : Ari 1 (sp_legs_on) := by
  intro ws st P R h
  simp only [sp_legs_on] at h
  split at h <;> first | rfl | exact h.elim
theorem ari_legs_back : Ari 1 (sp_legs_back) := by
  intro ws st P R h
  simp only [sp_legs_back] at h
  split at h <;> first | rfl | exact h.elim
theorem ari_first_legs_of : Ari 1 (sp_first_legs_of) := by
  intro ws st P R h
  simp only [sp_first_legs_of] at h
  split at h <;> first | rfl | exact h.elim
theorem ari_first_legs : Ari 1 (sp_first_legs) := by
  intro ws st P R h
  simp only [sp_first_legs] at h
  split at h <;> first | rfl | exact h.elim
theorem ari_legs_up_to : Ari 2 (sp_legs_up_to) := by
  intro ws st P R h
  simp only [sp_legs_up_to] at h
  split at h <;> first | rfl | exact h.elim
theorem ari_law_cup : Ari 1 (sp_law_cup) := by
  intro ws st P R h
  simp only [sp_law_cup] at h
  split at h <;> first | rfl | exact h.elim
theorem ari_law_roll : Ari 2 (sp_law_roll) := by
  intro ws st P R h
  simp only [sp_law_roll] at h
  split at h <;> first | rfl | exact h.elim
theorem ari_law_sort : Ari 1 (sp_law_sort) := by
  intro ws st P R h
  simp only [sp_law_sort] at h
  split at h <;> first | rfl | exact h.elim
theorem ari_law_like_0 : Ari 2 (sp_law_like 0) := by
  intro ws st P R h
  simp only [sp_law_like] at h
  split at h <;> first | rfl | exact h.elim
theorem ari_law_like_1 : Ari 2 (sp_law_like 1) := by
  intro ws st P R h
  simp only [sp_law_like] at h
  split at h <;> first | rfl | exact h.elim
theorem ari_law_like_2 : Ari 2 (sp_law_like 2) := by
  intro ws st P R h
  simp only [sp_law_like] at h
  split at h <;> first | rfl | exact h.elim
theorem ari_law_like_3 : Ari 2 (sp_law_like 3) := by
  intro ws st P R h
  simp only [sp_law_like] at h
  split at h <;> first | rfl | exact h.elim
theorem ari_law_root : Ari 1 (sp_law_root) := by
  intro ws st P R h
  simp only [sp_law_root] at h
  split at h <;> first | rfl | exact h.elim
theorem ari_law_right : Ari 2 (sp_law_right) := by
  intro ws st P R h
  simp only [sp_law_right] at h
  split at h <;> first | rfl | exact h.elim
theorem ari_law_is_triangle : Ari 1 (sp_law_is_triangle) := by
  intro ws st P R h
  simp only [sp_law_is_triangle] at h
  split at h <;> first | rfl | exact h.elim
theorem ari_law_is_right : Ari 1 (sp_law_is_right) := by
  intro ws st P R h
  simp only [sp_law_is_right] at h
  split at h <;> first | rfl | exact h.elim
theorem ari_law_all : Ari 2 (sp_law_all) := by
  intro ws st P R h
  simp only [sp_law_all] at h
  split at h <;> first | rfl | exact h.elim
theorem ari_law_later : Ari 1 (sp_law_later) := by
  intro ws st P R h
  simp only [sp_law_later] at h
  split at h <;> first | rfl | exact h.elim
theorem ari_law_small_right : Ari 2 (sp_law_small_right) := by
  intro ws st P R h
  simp only [sp_law_small_right] at h
  split at h <;> first | rfl | exact h.elim
theorem ari_law_any_right : Ari 2 (sp_law_any_right) := by
  intro ws st P R h
  simp only [sp_law_any_right] at h
  split at h <;> first | rfl | exact h.elim
theorem ari_law : Ari 1 (sp_law) := by
  intro ws st P R h
  simp only [sp_law] at h
  split at h <;> first | rfl | exact h.elim
theorem all_ok : ∀ k d, tx.ds[k]? = some d → DfOk tx SS k d
  | 0, _, e => by cases e; exact ⟨ck_is_integer, ari_is_integer, ok_is_integer, bd_is_integer⟩
  | 1, _, e => by cases e; exact ⟨ck_is_whole, ari_is_whole, ok_is_whole, bd_is_whole⟩
  | 2, _, e => by cases e; exact ⟨ck_need_whole, ari_need_whole, ok_need_whole, bd_need_whole⟩
  | 3, _, e => by cases e; exact ⟨ck_is_tuple_of, ari_is_tuple_of, ok_is_tuple_of, bd_is_tuple_of⟩
  | 4, _, e => by cases e; exact ⟨ck_root_in, ari_root_in, ok_root_in, bd_root_in⟩
  | 5, _, e => by cases e; exact ⟨ck_is_square_in, ari_is_square_in, ok_is_square_in, bd_is_square_in⟩
  | 6, _, e => by cases e; exact ⟨ck_is_side, ari_is_side, ok_is_side, bd_is_side⟩
  | 7, _, e => by cases e; exact ⟨ck_fits_triangle, ari_fits_triangle, ok_fits_triangle, bd_fits_triangle⟩
  | 8, _, e => by cases e; exact ⟨ck_need_triangle, ari_need_triangle, ok_need_triangle, bd_need_triangle⟩
  | 9, _, e => by cases e; exact ⟨ck_need_side, ari_need_side, ok_need_side, bd_need_side⟩
  | 10, _, e => by cases e; exact ⟨ck_kind_in, ari_kind_in, ok_kind_in, bd_kind_in⟩
  | 11, _, e => by cases e; exact ⟨ck_times_in, ari_times_in, ok_times_in, bd_times_in⟩
  | 12, _, e => by cases e; exact ⟨ck_kind_of, ari_kind_of, ok_kind_of, bd_kind_of⟩
  | 13, _, e => by cases e; exact ⟨ck_times_of, ari_times_of, ok_times_of, bd_times_of⟩
  | 14, _, e => by cases e; exact ⟨ck_need_right, ari_need_right, ok_need_right, bd_need_right⟩
  | 15, _, e => by cases e; exact ⟨ck_on_legs, ari_on_legs, ok_on_legs, bd_on_legs⟩
  | 16, _, e => by cases e; exact ⟨ck_back_legs, ari_back_legs, ok_back_legs, bd_back_legs⟩
  | 17, _, e => by cases e; exact ⟨ck_first_legs_in, ari_first_legs_in, ok_first_legs_in, bd_first_legs_in⟩
  | 18, _, e => by cases e; exact ⟨ck_all_legs, ari_all_legs, ok_all_legs, bd_all_legs⟩
  | 19, _, e => by cases e; exact ⟨ck_leg_gap, ari_leg_gap, ok_leg_gap, bd_leg_gap⟩
  | 20, _, e => by cases e; exact ⟨ck_legs_on, ari_legs_on, ok_legs_on, bd_legs_on⟩
  | 21, _, e => by cases e; exact ⟨ck_legs_back, ari_legs_back, ok_legs_back, bd_legs_back⟩
  | 22, _, e => by cases e; exact ⟨ck_first_legs_of, ari_first_legs_of, ok_first_legs_of, bd_first_legs_of⟩
  | 23, _, e => by cases e; exact ⟨ck_first_legs, ari_first_legs, ok_first_legs, bd_first_legs⟩
  | 24, _, e => by cases e; exact ⟨ck_legs_up_to, ari_legs_up_to, ok_legs_up_to, bd_legs_up_to⟩
  | 25, _, e => by cases e; exact ⟨ck_law_cup, ari_law_cup, ok_law_cup, bd_law_cup⟩
  | 26, _, e => by cases e; exact ⟨ck_law_roll, ari_law_roll, ok_law_roll, bd_law_roll⟩
  | 27, _, e => by cases e; exact ⟨ck_law_sort, ari_law_sort, ok_law_sort, bd_law_sort⟩
  | 28, _, e => by cases e; exact ⟨ck_law_like_0, ari_law_like_0, ok_law_like_0, bd_law_like_0⟩
  | 29, _, e => by cases e; exact ⟨ck_law_like_1, ari_law_like_1, ok_law_like_1, bd_law_like_1⟩
  | 30, _, e => by cases e; exact ⟨ck_law_like_2, ari_law_like_2, ok_law_like_2, bd_law_like_2⟩
  | 31, _, e => by cases e; exact ⟨ck_law_like_3, ari_law_like_3, ok_law_like_3, bd_law_like_3⟩
  | 32, _, e => by cases e; exact ⟨ck_law_root, ari_law_root, ok_law_root, bd_law_root⟩
  | 33, _, e => by cases e; exact ⟨ck_law_right, ari_law_right, ok_law_right, bd_law_right⟩
  | 34, _, e => by cases e; exact ⟨ck_law_is_triangle, ari_law_is_triangle, ok_law_is_triangle, bd_law_is_triangle⟩
  | 35, _, e => by cases e; exact ⟨ck_law_is_right, ari_law_is_right, ok_law_is_right, bd_law_is_right⟩
  | 36, _, e => by cases e; exact ⟨ck_law_all, ari_law_all, ok_law_all, bd_law_all⟩
  | 37, _, e => by cases e; exact ⟨ck_law_later, ari_law_later, ok_law_later, bd_law_later⟩
  | 38, _, e => by cases e; exact ⟨ck_law_small_right, ari_law_small_right, ok_law_small_right, bd_law_small_right⟩
  | 39, _, e => by cases e; exact ⟨ck_law_any_right, ari_law_any_right, ok_law_any_right, bd_law_any_right⟩
  | 40, _, e => by cases e; exact ⟨ck_law, ari_law, ok_law, bd_law⟩
  | k + 41, _, e => by cases e
theorem law_sp : LawSp 63 (SS 40) := fun ns hl => ⟨⟨ns, rfl, hl⟩, rfl⟩
end Q81
namespace Q81
open PySem PySem.Spec PyProof.Rows L2 Z
def loose0 : List Str := ["is_integer", "is_whole", "need_whole", "is_tuple_of", "root_in", "is_square_in", "is_side", "fits_triangle", "need_triangle", "need_side", "kind_in", "times_in", "kind_of", "times_of", "need_right", "on_legs", "back_legs", "first_legs_in", "all_legs", "leg_gap"]
def loose1 : List Str := ["legs_on", "legs_back", "first_legs_of", "first_legs", "legs_up_to", "_law_cup", "_law_roll", "_law_sort", "_law_like", "_law_root", "_law_right", "_law_is_triangle", "_law_is_right", "_law_all", "_law_later", "_law_small_right", "_law_any_right", "SideError", "InvalidTriangle", "InvalidSide"]
def loose2 : List Str := ["InvalidNumber", "MOST", "MOST_TIMES", "GAPS"]
def loose : List Str := loose0 ++ loose1 ++ loose2
abbrev hk : PySem.W.Hook := He.hookD 4 tx.fa tx.fn
def ob (s : PySem.W.SharedT) : He.AlD := He.obsDG 4 tx.fa tx.fn (HandSHeadRun.getT s)
theorem ob_eq (s : PySem.W.SharedT) : ob s = hk.obs s.abs := He.obsDG_eq (HandSHeadRun.getT_eq s)
abbrev RowOf : PySem.W.OpenRow := PySem.W.OpenLaw.row PySem.Challenge.rw_wholesides_k81_whole_leg_rows
set_option maxHeartbeats 0 in
theorem run (w : World) : HandSHeadRun.RunEq RowOf (PySem.W.view RowOf.prog [48]) hk ob 4000 loose w := by
  intro os
  kernel_rfl
end Q81
open PySem PySem.W PyProof.Rows
set_option maxRecDepth 100000 in
set_option maxHeartbeats 8000000 in
theorem PySem.Challenge.cw_wholesides_k81_whole_leg_rows_holds : PySem.Challenge.rw_wholesides_k81_whole_leg_rows.Holds := by
  w_on; o_law
  refine HandSHeadRun.head_any (r := OpenLaw.row PySem.Challenge.rw_wholesides_k81_whole_leg_rows) (q := view (OpenLaw.row PySem.Challenge.rw_wholesides_k81_whole_leg_rows).prog [48]) (H := Q81.hk) (ob := Q81.ob) (M := 4000) (loose := Q81.loose) (d := HandSHeadRun.topDef (OpenLaw.row PySem.Challenge.rw_wholesides_k81_whole_leg_rows).prog 48) (kwd := []) Q81.ob_eq
    (by kernel_rfl) (fun s => by kernel_rfl) Q81.run (by kernel_rfl) (by kernel_rfl) (by kernel_rfl) (by rfl) (by first | assumption | decide +kernel) (by decide +kernel) ⟨rfl, rfl, rfl, rfl, rfl, by decide +kernel⟩ ?hw ?hc
  case hw => w_witness2
  case hc => exact Z.Txt.end (l := Q81.tx) (S := Q81.SS) (n := 63) (k := 41) (m := 40) Q81.all_ok rfl rfl (by kernel_rfl) rfl Q81.law_sp (by rfl) (by decide) (by kernel_rfl) ⟨rfl, by decide, by decide⟩
