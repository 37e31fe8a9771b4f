import PyProof.Rows.All
import PySem.Challenge.RW_portstell_k60_walks_step_by_step
import Wide.All
import OpenK.AllK
import Wide.FinOn
import HandS.ForMost
import HandS.Wide
import HandS.IsInst
import HandS.Walk
import KE.DataCmp
import HandS.Exc
import HandS.Lambda
import HandS.TupAny
import HandS.TupMul
import HandS.Conv
import HandS.CallSlots
import KE.GoesEnum
import HandS.Zip
import HandS.NoneIn
import HandS.Small
import HandS.Defaults
import HandS.WordsExc
import OpenK.KMore
import KE.KExcIs
import KE.KTryMore
import KE.KExcSuper
import KE.KSuper
import HandS.HeadWalk
import KE.SortCalls
import KE.SortData
import KE.LtData
import HandS.More
import HandS.SetKeys
import HandS.ExcField
import HandS.HeadHook4
import HandS.Head2
section
set_option Elab.async false
set_option linter.all false
/-! MI: a small interpreter over values, its programs and its meaning. -/
namespace MI
open PySem PySem.SeqAt
open PySem.W (alike dataLt)

/-- values: tuples and settled lists by what they hold, changing things by their place -/
inductive MV where
  | non | bl (b : Bool) | int (i : Int) | str (s : Str)
  | tup (xs : List MV) | lv (xs : List MV) | loc (n : Nat)
  | exo (c : Nat) (x : MV) | thk (n : Nat) | fl (xs : List MV)
  deriving Inhabited

/-- changing things: a list, a dict -/
inductive MO where
  | lst (xs : List MV) | dic (kvs : List (L2.Key × MV))
  deriving Inhabited
abbrev Mem := List MO

mutual
def MV.beq : MV → MV → Bool
  | .non, .non => true
  | .bl a, .bl b => a == b
  | .int a, .int b => a == b
  | .str a, .str b => a == b
  | .tup a, .tup b => MV.beqs a b
  | .lv a, .lv b => MV.beqs a b
  | .loc a, .loc b => a == b
  | .exo c a, .exo d b => c == d && MV.beq a b
  | .thk a, .thk b => a == b
  | .fl a, .fl b => MV.beqs a b
  | _, _ => false
def MV.beqs : List MV → List MV → Bool
  | [], [] => true
  | x :: xs, y :: ys => MV.beq x y && MV.beqs xs ys
  | _, _ => false
end
mutual
theorem MV.beq_eq : ∀ a b : MV, MV.beq a b = true → a = b
  | .non, b, h => by cases b <;> simp [MV.beq] at h ⊢
  | .bl x, b, h => by cases b <;> simp [MV.beq] at h ⊢; exact h
  | .int x, b, h => by cases b <;> simp [MV.beq] at h ⊢; exact h
  | .str x, b, h => by cases b <;> simp [MV.beq] at h ⊢; exact h
  | .tup x, b, h => by cases b <;> simp [MV.beq] at h ⊢; exact MV.beqs_eq _ _ h
  | .lv x, b, h => by cases b <;> simp [MV.beq] at h ⊢; exact MV.beqs_eq _ _ h
  | .loc x, b, h => by cases b <;> simp [MV.beq] at h ⊢; exact h
  | .exo c x, b, h => by cases b <;> simp [MV.beq] at h ⊢; exact ⟨h.1, MV.beq_eq _ _ h.2⟩
  | .thk x, b, h => by cases b <;> simp [MV.beq] at h ⊢; exact h
  | .fl x, b, h => by cases b <;> simp [MV.beq] at h ⊢; exact MV.beqs_eq _ _ h
theorem MV.beqs_eq : ∀ a b : List MV, MV.beqs a b = true → a = b
  | [], b, h => by cases b <;> simp [MV.beqs] at h ⊢
  | x :: xs, b, h => by cases b <;> simp [MV.beqs] at h ⊢; exact ⟨MV.beq_eq _ _ h.1, MV.beqs_eq _ _ h.2⟩
end
mutual
theorem MV.beq_self : ∀ a : MV, MV.beq a a = true
  | .non | .bl x | .int x | .str x | .loc x | .thk x => by simp [MV.beq]
  | .tup x => by simp [MV.beq, MV.beqs_self x]
  | .lv x => by simp [MV.beq, MV.beqs_self x]
  | .fl x => by simp [MV.beq, MV.beqs_self x]
  | .exo c x => by simp [MV.beq, MV.beq_self x]
theorem MV.beqs_self : ∀ a : List MV, MV.beqs a a = true
  | [] => by simp [MV.beqs]
  | x :: xs => by simp [MV.beqs, MV.beq_self x, MV.beqs_self xs]
end
instance : BEq MV := ⟨MV.beq⟩
instance : DecidableEq MV := fun a b => if h : MV.beq a b = true then isTrue (MV.beq_eq a b h) else isFalse (by rintro rfl; exact h (MV.beq_self a))
instance : DecidableEq MO
  | .lst a, .lst b => if h : a = b then isTrue (by rw [h]) else isFalse (by simpa using h)
  | .dic a, .dic b => if h : a = b then isTrue (by rw [h]) else isFalse (by simpa using h)
  | .lst _, .dic _ | .dic _, .lst _ => isFalse (by simp)

/-! ### places -/
mutual
/-- all places are below n -/
def MV.lt (n : Nat) : MV → Bool
  | .loc k => decide (k < n)
  | .tup xs => MV.lts n xs
  | .lv xs => MV.lts n xs
  | .fl xs => MV.lts n xs
  | .exo _ x => MV.lt n x
  | _ => true
def MV.lts (n : Nat) : List MV → Bool
  | [] => true
  | x :: xs => MV.lt n x && MV.lts n xs
end
def MO.lt (n : Nat) : MO → Bool
  | .lst xs => MV.lts n xs
  | .dic kvs => MV.lts n (kvs.map (·.2))
mutual
/-- a value with its places read by look -/
def MV.rd (look : Nat → Option MV) : MV → Option MV
  | .loc k => look k
  | .tup xs => (MV.rds look xs).map .tup
  | .lv xs => (MV.rds look xs).map .lv
  | .fl xs => (MV.rds look xs).map .fl
  | .exo c x => (MV.rd look x).map (.exo c)
  | v => some v
def MV.rds (look : Nat → Option MV) : List MV → Option (List MV)
  | [] => some []
  | x :: xs => (MV.rd look x).bind fun y => (MV.rds look xs).map (y :: ·)
end
/-- places below n stay; a list at another place is settled, d deep at most -/
def look (n : Nat) (μ : Mem) : Nat → Nat → Option MV
  | 0, k => if k < n then some (.loc k) else none
  | d + 1, k => if k < n then some (.loc k) else match μ[k]? with
    | some (.lst xs) => (MV.rds (look n μ d) xs).map .lv
    | _ => none
def frz (n : Nat) (μ : Mem) (v : MV) : Option MV := MV.rd (look n μ 6) v
/-- what stood below may be told behind a call -/
def gcOk (n : Nat) : Mem → Mem → Bool
  | [], [] => true
  | o :: μ, o' :: μ' => (decide (o = o') || o'.lt n) && gcOk n μ μ'
  | _, _ => false

/-! ### the programs -/
inductive Bop where | add | sub | mul | fdv | mod | pow
  deriving DecidableEq
inductive Cop where | eq | ne | lt | le | gt | ge | isin | notin | isn | notn
  deriving DecidableEq
inductive Bi where | len | abs | min2 | max2 | int1 | tup1 | lst1 | srt1 | all1 | any1 | sum1 | min1 | max1 | str1
  deriving DecidableEq
inductive Me where | append | pop0 | pop1
  deriving DecidableEq
/-- a class that isinstance asks for -/
inductive Cl where | int | bool | tuple | list | str | dict | own (c : Nat)
  deriving DecidableEq
mutual
inductive E where
  | con (v : MV) | var (i : Nat) | bin (o : Bop) (a b : E) | neg (a : E) | cmp (o : Cop) (a b : E) | chn (o p : Cop) (a b c : E)
  | nt (a : E) | an (a b : E) | orr (a b : E) | ife (c a b : E)
  | tup (es : ES) | lst (es : ES) | chg (e : E) | idx (a b : E) | slc (a : E) (hl : Bool) (lo : E) (hh : Bool) (hi : E)
  | app (keep : Bool) (f : Nat) (es : ES) (ds : List MV) | apk (f : Nat) (es : ES) (sel : List (Nat ⊕ MV)) | blt (f : Bi) (es : ES) | isi (a : E) (cs : List Cl) | mth (m : Me) (o : E) (es : ES)
  | lcm (own : List Nat) (it : It) (g : G) (c elt : E) | lrg (t : Bool) (es : ES) | dsp (ks : List L2.Key) (es : ES) | fld (f : Str) (e : E) | hrd (f : Nat) (e : E) | sdf (o k : E)
inductive ES where
  | nil | cons (e : E) (es : ES)
inductive It where
  | seq (e : E) | rng (es : ES) | enu (e : E) | zip (a b : E)
inductive G where
  | nm (i : Nat) | tp (gs : GS) | ix (a b : E)
inductive GS where
  | nil | cons (g : G) (gs : GS)
end
mutual
inductive S where
  | asg (g : G) (e : E) | aug (i : Nat) (o : Bop) (e : E) | ex (e : E) | ret (e : E) | ite (c : E) (a b : SS)
  | whl (c : E) (b : SS) | fr (g : G) (it : It) (b : SS) | brk | cnt | pas | nev | rai (c : Nat) (e : E) | tra (p i j n : Nat) (cs : List Nat) | trc (p j n : Nat) (w : Str) (hs : List (Nat × Str × Str))
inductive SS where
  | nil | cons (s : S) (ss : SS)
end

/-! ### the meaning -/
abbrev Env := List (Option MV)
/-- an error that is raised: its class, its field -/
abbrev Ex := Nat × MV
abbrev R (α : Type) := Option (Except Ex α × Mem)
inductive Fl where
  | nxt (ρ : Env) | brk (ρ : Env) | cnt (ρ : Env) | ret (v : MV) | exc (x : Ex) (ρ : Env)
abbrev RS := Option (Fl × Mem)
def bnd {α β : Type} (r : R α) (k : α → Mem → R β) : R β := match r with
  | none => none
  | some (.error x, μ) => some (.error x, μ)
  | some (.ok v, μ) => k v μ
@[simp] theorem bnd_ok {α β : Type} (v : α) (μ : Mem) (k : α → Mem → R β) : bnd (some (.ok v, μ)) k = k v μ := rfl
@[simp] theorem bnd_error {α β : Type} (x : Ex) (μ : Mem) (k : α → Mem → R β) : bnd (some (.error x, μ)) k = some (.error x, μ) := rfl
@[simp] theorem bnd_none {α β : Type} (k : α → Mem → R β) : bnd (none : R α) k = none := rfl
def ok {α : Type} (μ : Mem) (o : Option α) : R α := o.map fun v => (.ok v, μ)
@[simp] theorem ok_some {α : Type} (μ : Mem) (v : α) : ok μ (some v) = some (.ok v, μ) := rfl
@[simp] theorem ok_none {α : Type} (μ : Mem) : ok μ (none : Option α) = none := rfl

def mulOk (i j : Int) : Bool := decide (i.natAbs < 2 ^ 64) || decide (j.natAbs < 2 ^ 64) || decide (i.natAbs.log2 + j.natAbs.log2 < 134000000)
def bopI : Bop → Int → Int → Option MV
  | .add, i, j => some (.int (i + j))
  | .sub, i, j => some (.int (i - j))
  | .mul, i, j => if mulOk i j = true then some (.int (i * j)) else none
  | .fdv, i, j => if j ≠ 0 ∧ Builtin.divisionGoesByPylong i j = false then some (.int (i.fdiv j)) else none
  | .mod, i, j => if j ≠ 0 then some (.int (i.fmod j)) else none
  | .pow, i, j => if 0 ≤ j ∧ j ≤ 1000000 ∧ i.natAbs < 2 ^ 64 then some (.int (i ^ j.toNat)) else none
/-- a list that may be changed or is settled, a tuple, a list that is only read -/
def lsOf (μ : Mem) : MV → Option (List MV)
  | .lv xs => some xs
  | .loc k => match μ[k]? with
    | some (.lst xs) => some xs
    | _ => none
  | _ => none
def sqOf (μ : Mem) : MV → Option (List MV)
  | .lv xs => some xs
  | .tup xs => some xs
  | .fl xs => some xs
  | .loc k => match μ[k]? with
    | some (.lst xs) => some xs
    | _ => none
  | _ => none
def most : Nat := 16000000
def evBin (μ : Mem) (o : Bop) : MV → MV → Option MV
  | .int i, .int j => bopI o i j
  | .str x, .str y => if o = .add ∧ x.length + y.length ≤ most then some (.str (x ++ y)) else none
  | .tup xs, .tup ys => if o = .add ∧ xs.length + ys.length ≤ most then some (.tup (xs ++ ys)) else none
  | .tup xs, .int k => if o = .mul ∧ 2 ≤ k ∧ k ≤ 1000 ∧ xs ≠ [] ∧ xs.length ≤ 1000 then some (.tup (List.replicate k.toNat xs).flatten) else none
  | a, .int k => (lsOf μ a).bind fun xs => if o = .mul ∧ 0 ≤ k ∧ k < 2 ^ 60 ∧ xs.length * k.toNat ≤ most then some (.lv (List.replicate k.toNat xs).flatten) else none
  | a, b => (lsOf μ a).bind fun xs => (lsOf μ b).bind fun ys => if o = .add ∧ xs.length + ys.length ≤ most then some (.lv (xs ++ ys)) else none
mutual
/-- a value without places, as the library's data -/
def MV.toD : MV → Option PyData
  | .non => some .none
  | .bl b => some (.bool b)
  | .int i => some (.int i)
  | .str s => some (.str s)
  | .tup xs => (MV.toDs xs).map .tuple
  | .lv xs => (MV.toDs xs).map .list
  | .fl xs => (MV.toDs xs).map .list
  | _ => none
def MV.toDs : List MV → Option (List PyData)
  | [] => some []
  | x :: xs => (MV.toD x).bind fun y => (MV.toDs xs).map (y :: ·)
end
def dat (μ : Mem) (v : MV) : Option PyData := ((frz 0 μ v).bind MV.toD).bind fun d => if SeqAt.shaped d = true then some d else none
def flat : MV → Bool
  | .non | .bl _ | .int _ | .str _ => true
  | _ => false
def eqF : MV → MV → Bool
  | .non, .non => true
  | .bl a, .bl b => a == b
  | .bl a, .int j => (if a then 1 else 0) == j
  | .int i, .bl b => i == (if b then 1 else 0)
  | .int i, .int j => i == j
  | .str x, .str y => x == y
  | _, _ => false
def keyOf : MV → Option L2.Key
  | .int i => some (.inl i)
  | .str s => some (.inr s)
  | _ => none
def dcOf (μ : Mem) : MV → Option (List (L2.Key × MV))
  | .loc k => match μ[k]? with
    | some (.dic kvs) => some kvs
    | _ => none
  | _ => none
def getK (kvs : List (L2.Key × MV)) (k : L2.Key) : Option MV := (kvs.find? fun kv => decide (kv.1 = k)).map (·.2)
def setK (kvs : List (L2.Key × MV)) (k : L2.Key) (v : MV) : List (L2.Key × MV) :=
  if kvs.any (fun kv => decide (kv.1 = k)) then kvs.map fun kv => if kv.1 = k then (kv.1, v) else kv else kvs ++ [(k, v)]
def isIn (μ : Mem) (a b : MV) : Option Bool := match sqOf μ b with
  | some ys => if flat a = true ∧ ys.all flat = true then some (ys.any fun y => eqF y a) else none
  | none => (dcOf μ b).bind fun kvs => (keyOf a).map fun k => (getK kvs k).isSome
def noNone : PyData → Bool
  | .none => false
  | _ => true
def ltD (μ : Mem) (a b : MV) : Option Bool := match a, b with
  | .int i, .int j => some (decide (i < j))
  | a, b => (dat μ a).bind fun d => (dat μ b).bind fun e => if alike d e = true ∧ d.depth ≤ 60 ∧ noNone d = true then some (dataLt d e) else none
def evCmp (μ : Mem) (o : Cop) (a b : MV) : Option Bool := match o with
  | .eq => (dat μ a).bind fun d => (dat μ b).map fun e => PyData.eqv d e
  | .ne => (dat μ a).bind fun d => (dat μ b).map fun e => !PyData.eqv d e
  | .lt => ltD μ a b
  | .gt => ltD μ b a
  | .le => (ltD μ b a).map (!·)
  | .ge => (ltD μ a b).map (!·)
  | .isin => isIn μ a b
  | .notin => (isIn μ a b).map (!·)
  | .isn => match b with
    | .non => some (decide (a = .non))
    | _ => none
  | .notn => match b with
    | .non => some (!decide (a = .non))
    | _ => none
def evIdx (μ : Mem) (a b : MV) : Option MV := match a, b with
  | .str z, .int i => if z.length ≤ most then (L2.atI z.cps.toList i).map fun c => .str ⟨#[c]⟩ else none
  | a, b => match dcOf μ a with
    | some kvs => (keyOf b).bind fun k => getK kvs k
    | none => match b with
      | .int i => (sqOf μ a).bind fun xs => L2.atI xs i
      | _ => none
def cut {α : Type} (xs : List α) (lo hi : Option Int) : List α := (xs.drop (HT.sIx xs.length 0 lo)).take (HT.sIx xs.length xs.length hi - HT.sIx xs.length 0 lo)
def evSlc (μ : Mem) (a : MV) (lo hi : Option Int) : Option MV := match a with
  | .tup xs => some (.tup (cut xs lo hi))
  | .str z => if z.length ≤ most then some (.str (L2.cutS z lo hi)) else none
  | a => (lsOf μ a).map fun xs => .lv (cut xs lo hi)
def intO : MV → Option Int
  | .int i => some i
  | _ => none
def blO : MV → Option Bool
  | .bl i => some i
  | _ => none
def ltM (a b : MV) : Bool := dataLt (a.toD.getD .none) (b.toD.getD .none)
/-- all are tuples of something, none is a tuple, or the first is a tuple of nothing -/
def srtK (ds : List PyData) : Bool := (ds.all fun d => match d with
    | .tuple (_ :: _) => true
    | _ => false) || (ds.all fun d => match d with
    | .tuple _ => false
    | _ => true) || (match ds with
    | .tuple [] :: _ => true
    | _ => false)
def srtOk (xs : List MV) : Bool := decide (xs.length ≤ most) && match MV.toDs xs with
  | some ds => (ds.all fun d => decide (d.depth ≤ 50) && noNone d && ds.all fun e => alike d e) && srtK ds
  | none => false
/-- sorted, alike things in their order -/
def srt (xs : List MV) : List MV := xs.mergeSort fun a b => !ltM b a
def keysI : List (L2.Key × MV) → Option (List Int)
  | [] => some []
  | (.inl i, _) :: r => (keysI r).map (i :: ·)
  | (.inr _, _) :: _ => none
def evBi (μ : Mem) : Bi → List MV → Option MV
  | .len, [.str z] => if z.length ≤ most then some (.int z.length) else none
  | .len, [v] => match dcOf μ v with
    | some kvs => some (.int kvs.length)
    | none => (sqOf μ v).map fun xs => .int xs.length
  | .abs, [.int i] => some (.int (if i < 0 then -i else i))
  | .min2, [.int i, .int j] => some (.int (if j < i then j else i))
  | .max2, [.int i, .int j] => some (.int (if j > i then j else i))
  | .int1, [.int i] => some (.int i)
  | .int1, [.bl b] => some (.int (if b then 1 else 0))
  | .tup1, [v] => (sqOf μ v).map .tup
  | .lst1, [v] => (sqOf μ v).map .lv
  | .all1, [v] => (lsOf μ v).bind fun xs => (xs.mapM blO).map fun bs => .bl (bs.all id)
  | .any1, [v] => (lsOf μ v).bind fun xs => (xs.mapM blO).map fun bs => .bl (bs.any id)
  | .srt1, [v] => match dcOf μ v with
    | some kvs => (keysI kvs).bind fun ks => if ks.length < 64 then some (.lv ((ks.mergeSort fun a b => decide (a ≤ b)).map .int)) else none
    | none => (sqOf μ v).bind fun xs => if srtOk xs = true then some (.lv (srt xs)) else none
  | .sum1, [v] => (lsOf μ v).bind fun xs => (xs.mapM intO).map fun ns => .int ns.sum
  | _, _ => none
def evMe (μ : Mem) : Me → MV → List MV → Option (MV × Mem)
  | .append, .loc k, [v] => match μ[k]? with
    | some (.lst xs) => if xs.length < most then some (.non, μ.set k (.lst (xs ++ [v]))) else none
    | _ => none
  | .pop0, .loc k, [] => match μ[k]? with
    | some (.lst xs) => (xs[xs.length - 1]?).map fun y => (y, μ.set k (.lst xs.dropLast))
    | _ => none
  | .pop1, .loc k, [.int i] => match μ[k]? with
    | some (.lst xs) => (L2.ixN xs.length i).bind fun j => if xs.length ≤ most then (xs[j]?).map fun y => (y, μ.set k (.lst (xs.eraseIdx j))) else none
    | _ => none
  | _, _, _ => none
def isCl (sub : Nat → Nat → Option Bool) : MV → Cl → Option Bool
  | .exo c _, .own d => sub c d
  | _, .own _ => none
  | .exo _ _, _ => none
  | .thk _, _ => none
  | .int _, .int => some true
  | .bl _, .int => some true
  | .bl _, .bool => some true
  | .str _, .str => some true
  | .tup _, .tuple => some true
  | .lv _, .list => some true
  | .fl _, .list => some true
  | .loc _, _ => none
  | _, _ => some false
def isCls (μ : Mem) (sub : Nat → Nat → Option Bool) (v : MV) : List Cl → Option Bool
  | [] => some false
  | c :: cs => (match v with
    | .loc k => match c, μ[k]? with
      | .own _, _ => none
      | c, some (.dic _) => some (decide (c = Cl.dict))
      | c, some _ => some (decide (c = Cl.list))
      | _, none => none
    | v => isCl sub v c).bind fun b => if b = true then some true else isCls μ sub v cs
def small (i : Int) : Bool := decide (i < 2 ^ 40) && decide (-2 ^ 40 < i)
def rngOf : List MV → Option (List MV)
  | [.int n] => if small n = true then some ((List.range n.toNat).map fun (k : Nat) => .int k) else none
  | [.int a, .int b] => if small a = true ∧ small b = true then some ((List.range (b - a).toNat).map fun (k : Nat) => .int (a + k)) else none
  | [.int a, .int b, .int c] => if small a = true ∧ small b = true ∧ c = -1 then some ((List.range (a - b).toNat).map fun (k : Nat) => .int (a - k)) else none
  | _ => none
/-- what is walked, and the place that must stay as it is meanwhile -/
abbrev Items := List MV × List (Nat × List MV)
def gdOf (v : MV) (xs : List MV) : List (Nat × List MV) := match v with
  | .loc k => [(k, xs)]
  | _ => []
def gdOk (μ : Mem) (gd : List (Nat × List MV)) : Bool := gd.all fun p => decide (μ[p.1]? = some (.lst p.2))
def enumF : Nat → List MV → List MV
  | _, [] => []
  | n, x :: xs => .tup [.int n, x] :: enumF (n + 1) xs
/-- a run of turns -/
def forL (gd : List (Nat × List MV)) (step : MV → Env → Mem → RS) : List MV → Env → Mem → RS
  | [], ρ, μ => if gdOk μ gd = true then some (.nxt ρ, μ) else none
  | x :: xs, ρ, μ => if gdOk μ gd = true then match step x ρ μ with
      | some (.nxt ρ', μ') => forL gd step xs ρ' μ'
      | some (.cnt ρ', μ') => forL gd step xs ρ' μ'
      | some (.brk ρ', μ') => some (.nxt ρ', μ')
      | r => r
    else none
/-- a comprehension's turns: what is told, as far as it is -/
def lcmL (gd : List (Nat × List MV)) (step : MV → Mem → R (Option MV)) : List MV → List MV → Mem → R (List MV)
  | [], acc, μ => if gdOk μ gd = true then some (.ok acc, μ) else none
  | x :: xs, acc, μ => if gdOk μ gd = true ∧ acc.length < most then match step x μ with
      | some (.ok (some y), μ') => lcmL gd step xs (acc ++ [y]) μ'
      | some (.ok none, μ') => lcmL gd step xs acc μ'
      | _ => none
    else none
def whN (test : Env → Mem → R MV) (body : Env → Mem → RS) : Nat → Env → Mem → RS
  | 0, _, _ => none
  | n + 1, ρ, μ => match test ρ μ with
    | some (.ok (.bl true), μ1) => match body ρ μ1 with
      | some (.nxt ρ', μ') => whN test body n ρ' μ'
      | some (.cnt ρ', μ') => whN test body n ρ' μ'
      | some (.brk ρ', μ') => some (.nxt ρ', μ')
      | r => r
    | some (.ok (.bl false), μ1) => some (.nxt ρ, μ1)
    | some (.error x, μ1) => some (.exc x ρ, μ1)
    | _ => none
theorem whN_more {test : Env → Mem → R MV} {body : Env → Mem → RS} {r : Fl × Mem} : ∀ {n : Nat} {ρ : Env} {μ : Mem}, whN test body n ρ μ = some r → whN test body (n + 1) ρ μ = some r
  | 0, _, _, h => by simp [whN] at h
  | n + 1, ρ, μ, h => by
    rw [whN] at h ⊢
    cases ht : test ρ μ with
    | none => simp [ht] at h
    | some p =>
      obtain ⟨o, μ1⟩ := p
      cases o with
      | error x => simpa [ht] using h
      | ok v =>
        cases v with
        | bl b =>
          cases b with
          | false => simpa [ht] using h
          | true =>
            simp only [ht] at h ⊢
            cases hb : body ρ μ1 with
            | none => simp [hb] at h
            | some q =>
              obtain ⟨f, μ2⟩ := q
              cases f <;> simp only [hb] at h ⊢ <;> first | exact whN_more h | exact h
        | _ => simp [ht] at h
theorem whN_add {test : Env → Mem → R MV} {body : Env → Mem → RS} {r : Fl × Mem} {n : Nat} {ρ : Env} {μ : Mem} (h : whN test body n ρ μ = some r) : ∀ k, whN test body (n + k) ρ μ = some r
  | 0 => h
  | k + 1 => whN_more (whN_add h k)
theorem whN_one {test : Env → Mem → R MV} {body : Env → Mem → RS} {r q : Fl × Mem} {n m : Nat} {ρ : Env} {μ : Mem} (h : whN test body n ρ μ = some r) (g : whN test body m ρ μ = some q) : r = q := by
  have a := whN_add h m
  have b := whN_add g n
  rw [Nat.add_comm m n] at b
  rw [a] at b
  exact Option.some.inj b
open Classical in
noncomputable def whD (test : Env → Mem → R MV) (body : Env → Mem → RS) (ρ : Env) (μ : Mem) : RS :=
  if h : ∃ n r, whN test body n ρ μ = some r then some (Classical.choose (Classical.choose_spec h)) else none
theorem whD_of {test : Env → Mem → R MV} {body : Env → Mem → RS} {r : Fl × Mem} {n : Nat} {ρ : Env} {μ : Mem} (h : whN test body n ρ μ = some r) : whD test body ρ μ = some r := by
  have e : ∃ n r, whN test body n ρ μ = some r := ⟨n, r, h⟩
  unfold whD
  rw [dif_pos e]
  exact congrArg some (whN_one (Classical.choose_spec (Classical.choose_spec e)) h)
theorem whD_to {test : Env → Mem → R MV} {body : Env → Mem → RS} {r : Fl × Mem} {ρ : Env} {μ : Mem} (h : whD test body ρ μ = some r) : ∃ n, whN test body n ρ μ = some r := by
  unfold whD at h
  split at h
  · rename_i e
    exact ⟨_, (Classical.choose_spec (Classical.choose_spec e)).trans h⟩
  · cases h
/-- fuel for the whiles, or none -/
noncomputable def wh (fu : Option Nat) (test : Env → Mem → R MV) (body : Env → Mem → RS) (ρ : Env) (μ : Mem) : RS := match fu with
  | some n => whN test body n ρ μ
  | none => whD test body ρ μ
def wipe (ρ : Env) : List Nat → Env
  | [] => ρ
  | v :: vs => (wipe ρ vs).set v none
end MI
end
section
set_option Elab.async false
set_option linter.all false
namespace MI
open PySem PySem.SeqAt
/-- what the defs do: which class stands beneath which; a call -/
structure Wd where
  sub : Nat → Nat → Option Bool
  fld : Nat → Str
  fu : Option Nat
  call : Nat → List MV → Mem → R MV
  hear : Nat → (Mem → R MV) → Mem → R MV
  act : Option (Nat × (Mem → R MV))
/-- an error's class stands beneath one of these -/
def subAny (sub : Nat → Nat → Option Bool) (c : Nat) : List Nat → Option Bool
  | [] => some false
  | d :: ds => (sub c d).bind fun b => (subAny sub c ds).map fun r => b || r
/-- the first clause that takes an error of a class: what it says, which field it tells -/
def hsel (sub : Nat → Nat → Option Bool) (c : Nat) : List (Nat × Str × Str) → Option (Str × Str)
  | [] => none
  | (d, s, f) :: r => match sub c d with
    | some true => some (s, f)
    | some false => hsel sub c r
    | none => none
/-- a call's end: the caller's memory is told as it stands, what was made within is settled or gone -/
def gc (n : Nat) (μ : Mem) (r : R MV) : R MV := match r with
  | some (.ok v, μ') => if gcOk n μ (μ'.take n) = true then (frz n μ' v).map fun w => (.ok w, μ'.take n) else none
  | some (.error (c, x), μ') => if gcOk n μ (μ'.take n) = true then (frz n μ' x).map fun w => (.error (c, w), μ'.take n) else none
  | none => none
def asgIx (μ : Mem) (a b v : MV) : Option Mem := match a with
  | .loc k => match μ[k]? with
    | some (.lst xs) => match b with
      | .int i => (L2.ixN xs.length i).map fun j => μ.set k (.lst (xs.set j v))
      | _ => none
    | some (.dic kvs) => (keyOf b).bind fun key => if kvs.length < most then some (μ.set k (.dic (setK kvs key v))) else none
    | _ => none
  | _ => none
/-- what stands at a key, else a new list put there -/
def sdM (μ : Mem) (a b : MV) : Option (MV × Mem) := match a with
  | .loc j => match μ[j]? with
    | some (.dic kvs) => (keyOf b).bind fun key => if kvs.length < most then match getK kvs key with
        | some u => some (u, μ)
        | none => some (.loc μ.length, μ.set j (.dic (kvs ++ [(key, .loc μ.length)])) ++ [.lst []])
      else none
    | _ => none
  | _ => none
/-- two tuples, or two lists, side by side -/
def zipI (μ : Mem) (x y : MV) : Option Items := match x, y with
  | .tup xs, .tup ys => some ((xs.zip ys).map fun p => .tup [p.1, p.2], [])
  | x, y => (lsOf μ x).bind fun xs => (lsOf μ y).map fun ys => ((xs.zip ys).map fun p => .tup [p.1, p.2], gdOf x xs ++ gdOf y ys)
/-- arguments in the parameters' order -/
def selA : List (Nat ⊕ MV) → List MV → Option (List MV)
  | [], _ => some []
  | .inl i :: r, xs => (xs[i]?).bind fun x => (selA r xs).map (x :: ·)
  | .inr v :: r, xs => (selA r xs).map (v :: ·)
/-- a bound of a part, if there is one -/
def partO (b : Bool) (v : MV) : Option (Option Int) := if b = true then (intO v).map some else some none
section
variable (W : Wd)
mutual
noncomputable def ev : E → Env → Mem → R MV
  | .con v, _, μ => some (.ok v, μ)
  | .var i, ρ, μ => ok μ (ρ[i]?.bind id)
  | .bin o a b, ρ, μ => bnd (ev a ρ μ) fun x μ => bnd (ev b ρ μ) fun y μ => ok μ (evBin μ o x y)
  | .neg a, ρ, μ => bnd (ev a ρ μ) fun x μ => ok μ ((intO x).map fun i => .int (-i))
  | .cmp o a b, ρ, μ => bnd (ev a ρ μ) fun x μ => bnd (ev b ρ μ) fun y μ => ok μ ((evCmp μ o x y).map .bl)
  | .chn o p a b c, ρ, μ => bnd (ev a ρ μ) fun x μ => bnd (ev b ρ μ) fun y μ => match evCmp μ o x y with
    | some true => bnd (ev c ρ μ) fun z μ => ok μ ((evCmp μ p y z).map .bl)
    | some false => some (.ok (.bl false), μ)
    | none => none
  | .nt a, ρ, μ => bnd (ev a ρ μ) fun x μ => ok μ ((blO x).map fun b => .bl (!b))
  | .an a b, ρ, μ => bnd (ev a ρ μ) fun x μ => match x with
    | .bl true => ev b ρ μ
    | .bl false => some (.ok (.bl false), μ)
    | _ => none
  | .orr a b, ρ, μ => bnd (ev a ρ μ) fun x μ => match x with
    | .bl true => some (.ok (.bl true), μ)
    | .bl false => ev b ρ μ
    | _ => none
  | .ife c a b, ρ, μ => bnd (ev c ρ μ) fun x μ => match x with
    | .bl true => ev a ρ μ
    | .bl false => ev b ρ μ
    | _ => none
  | .tup es, ρ, μ => bnd (evs es ρ μ) fun xs μ => if xs.length ≤ most then some (.ok (.tup xs), μ) else none
  | .lst es, ρ, μ => bnd (evs es ρ μ) fun xs μ => if xs.length ≤ most then some (.ok (.lv xs), μ) else none
  | .chg e, ρ, μ => bnd (ev e ρ μ) fun x μ => match x with
    | .lv xs => some (.ok (.loc μ.length), μ ++ [.lst xs])
    | _ => none
  | .idx a b, ρ, μ => bnd (ev a ρ μ) fun x μ => bnd (ev b ρ μ) fun y μ => ok μ (evIdx μ x y)
  | .slc a hl lo hh hi, ρ, μ => bnd (ev a ρ μ) fun x μ => bnd (ev lo ρ μ) fun l μ => match partO hl l with
    | some lo => bnd (ev hi ρ μ) fun h μ => ok μ ((partO hh h).bind fun hi => evSlc μ x lo hi)
    | none => none
  | .app keep f es ds, ρ, μ => bnd (evs es ρ μ) fun xs μ => if keep = true then W.call f (xs ++ ds) μ else gc μ.length μ (W.call f (xs ++ ds) μ)
  | .apk f es sel, ρ, μ => bnd (evs es ρ μ) fun xs μ => match selA sel xs with
    | some ys => gc μ.length μ (W.call f ys μ)
    | none => none
  | .blt f es, ρ, μ => bnd (evs es ρ μ) fun xs μ => ok μ (evBi μ f xs)
  | .isi a cs, ρ, μ => bnd (ev a ρ μ) fun x μ => ok μ ((isCls μ W.sub x cs).map .bl)
  | .mth m o es, ρ, μ => bnd (ev o ρ μ) fun x μ => match lsOf μ x with
    | some _ => bnd (evs es ρ μ) fun xs μ => match evMe μ m x xs with
      | some (v, μ') => some (.ok v, μ')
      | none => none
    | none => none
  | .lcm own it g c e, ρ, μ => bnd (evIt it ρ μ) fun p μ => bnd (lcmL p.2 (fun x μ => match asg g x (wipe ρ own) μ with
      | some (ρ', μ') => match ev c ρ' μ' with
        | some (.ok (.bl true), μ1) => bnd (ev e ρ' μ1) fun y μ2 => some (.ok (some y), μ2)
        | some (.ok (.bl false), μ1) => some (.ok none, μ1)
        | _ => none
      | none => none) p.1 [] μ) fun ys μ => some (.ok (.lv ys), μ)
  | .lrg t es, ρ, μ => bnd (evs es ρ μ) fun xs μ => ok μ ((rngOf xs).bind fun ys => if ys.length ≤ most then some (if t = true then .tup ys else .lv ys) else none)
  | .dsp ks es, ρ, μ => bnd (evs es ρ μ) fun xs μ => if xs.length = ks.length ∧ ks.Nodup ∧ ks.length ≤ 15 then some (.ok (.loc μ.length), μ ++ [.dic (ks.zip xs)]) else none
  | .fld f e, ρ, μ => bnd (ev e ρ μ) fun x μ => match x with
    | .exo c y => if W.fld c = f then some (.ok y, μ) else none
    | _ => none
  | .sdf o k, ρ, μ => bnd (ev o ρ μ) fun x μ => match dcOf μ x with
    | some _ => bnd (ev k ρ μ) fun y μ => match sdM μ x y with
      | some (v, μ') => some (.ok v, μ')
      | none => none
    | none => none
  | .hrd f e, ρ, μ => match W.hear f (fun μ => ev e ρ μ) μ with
    | some (.ok v, μ') => gc μ.length μ (some (.ok v, μ'))
    | _ => none
noncomputable def evs : ES → Env → Mem → R (List MV)
  | .nil, _, μ => some (.ok [], μ)
  | .cons e es, ρ, μ => bnd (ev e ρ μ) fun x μ => bnd (evs es ρ μ) fun xs μ => some (.ok (x :: xs), μ)
noncomputable def evIt : It → Env → Mem → R Items
  | .seq e, ρ, μ => bnd (ev e ρ μ) fun x μ => ok μ ((sqOf μ x).map fun xs => (xs, gdOf x xs))
  | .rng es, ρ, μ => bnd (evs es ρ μ) fun xs μ => ok μ ((rngOf xs).map fun ys => (ys, []))
  | .enu e, ρ, μ => bnd (ev e ρ μ) fun x μ => ok μ ((sqOf μ x).map fun xs => (enumF 0 xs, gdOf x xs))
  | .zip a b, ρ, μ => bnd (ev a ρ μ) fun x μ => bnd (ev b ρ μ) fun y μ => ok μ (zipI μ x y)
noncomputable def asg : G → MV → Env → Mem → Option (Env × Mem)
  | .nm i, v, ρ, μ => if i < ρ.length then some (ρ.set i (some v), μ) else none
  | .tp gs, v, ρ, μ => match v with
    | .tup xs => asgs gs xs ρ μ
    | v => (lsOf μ v).bind fun xs => asgs gs xs ρ μ
  | .ix a b, v, ρ, μ => match ev a ρ μ with
    | some (.ok x, μ1) => match ev b ρ μ1 with
      | some (.ok y, μ2) => (asgIx μ2 x y v).map fun μ3 => (ρ, μ3)
      | _ => none
    | _ => none
noncomputable def asgs : GS → List MV → Env → Mem → Option (Env × Mem)
  | .nil, [], ρ, μ => some (ρ, μ)
  | .cons g gs, v :: vs, ρ, μ => match asg g v ρ μ with
    | some (ρ', μ') => asgs gs vs ρ' μ'
    | none => none
  | _, _, _, _ => none
end
def seqK (r : RS) (k : Env → Mem → RS) : RS := match r with
  | some (.nxt ρ, μ) => k ρ μ
  | r => r
@[simp] theorem seqK_nxt (ρ : Env) (μ : Mem) (k : Env → Mem → RS) : seqK (some (.nxt ρ, μ)) k = k ρ μ := rfl
@[simp] theorem seqK_ret (v : MV) (μ : Mem) (k : Env → Mem → RS) : seqK (some (.ret v, μ)) k = some (.ret v, μ) := rfl
@[simp] theorem seqK_brk (ρ : Env) (μ : Mem) (k : Env → Mem → RS) : seqK (some (.brk ρ, μ)) k = some (.brk ρ, μ) := rfl
@[simp] theorem seqK_cnt (ρ : Env) (μ : Mem) (k : Env → Mem → RS) : seqK (some (.cnt ρ, μ)) k = some (.cnt ρ, μ) := rfl
@[simp] theorem seqK_exc (x : Ex) (ρ : Env) (μ : Mem) (k : Env → Mem → RS) : seqK (some (.exc x ρ, μ)) k = some (.exc x ρ, μ) := rfl
@[simp] theorem seqK_none (k : Env → Mem → RS) : seqK none k = none := rfl
/-- behind an expression -/
def thenE {α : Type} (ρ : Env) (r : R α) (k : α → Mem → RS) : RS := match r with
  | some (.ok v, μ) => k v μ
  | some (.error x, μ) => some (.exc x ρ, μ)
  | none => none
@[simp] theorem thenE_ok {α : Type} (ρ : Env) (v : α) (μ : Mem) (k : α → Mem → RS) : thenE ρ (some (.ok v, μ)) k = k v μ := rfl
@[simp] theorem thenE_error {α : Type} (ρ : Env) (x : Ex) (μ : Mem) (k : α → Mem → RS) : thenE ρ (some (.error x, μ)) k = some (.exc x ρ, μ) := rfl
@[simp] theorem thenE_none {α : Type} (ρ : Env) (k : α → Mem → RS) : thenE ρ (none : R α) k = none := rfl
def asgK (r : Option (Env × Mem)) : RS := r.map fun p => (.nxt p.1, p.2)
mutual
noncomputable def exec : S → Env → Mem → RS
  | .asg g e, ρ, μ => thenE ρ (ev W e ρ μ) fun v μ => asgK (asg W g v ρ μ)
  | .aug i o e, ρ, μ => match ρ[i]?.bind id with
    | some x => thenE ρ (ev W e ρ μ) fun y μ => match evBin μ o x y with
      | some z => if i < ρ.length then some (.nxt (ρ.set i (some z)), μ) else none
      | none => none
    | none => none
  | .ex e, ρ, μ => thenE ρ (ev W e ρ μ) fun _ μ => some (.nxt ρ, μ)
  | .ret e, ρ, μ => thenE ρ (ev W e ρ μ) fun v μ => some (.ret v, μ)
  | .ite c a b, ρ, μ => thenE ρ (ev W c ρ μ) fun x μ => match x with
    | .bl true => execs a ρ μ
    | .bl false => execs b ρ μ
    | _ => none
  | .whl c b, ρ, μ => wh W.fu (fun ρ μ => ev W c ρ μ) (fun ρ μ => execs b ρ μ) ρ μ
  | .fr g it b, ρ, μ => thenE ρ (evIt W it ρ μ) fun p μ => forL p.2 (fun x ρ μ => match asg W g x ρ μ with
      | some (ρ', μ') => execs b ρ' μ'
      | none => none) p.1 ρ μ
  | .brk, ρ, μ => some (.brk ρ, μ)
  | .cnt, ρ, μ => some (.cnt ρ, μ)
  | .pas, ρ, μ => some (.nxt ρ, μ)
  | .nev, _, _ => none
  | .rai c e, ρ, μ => thenE ρ (ev W e ρ μ) fun v μ => some (.exc (c, v) ρ, μ)
  | .tra p i j n cs, ρ, μ => match ρ[p]?.bind id with
    | some (.thk m) => match W.act with
      | some a => if m ≠ a.1 then none else match a.2 μ with
        | some (.ok v, μ') => if i < ρ.length then some (.nxt (ρ.set i (some v)), μ') else none
        | some (.error x, μ') => match subAny W.sub x.1 cs with
          | some true => if j < ρ.length ∧ j ≠ n then some (.nxt ((ρ.set j (some (.exo x.1 x.2))).set n none), μ') else none
          | _ => none
        | none => none
      | none => none
    | _ => none
  | .trc p j n w hs, ρ, μ => match ρ[p]?.bind id with
    | some (.thk m) => match W.act with
      | some a => if m ≠ a.1 then none else match a.2 μ with
        | some (.ok v, μ') => if j < ρ.length then some (.nxt (ρ.set j (some (.lv [.str w, v]))), μ') else none
        | some (.error x, μ') => match hsel W.sub x.1 hs with
          | some (s, f) => if j < ρ.length ∧ j ≠ n ∧ W.fld x.1 = f then some (.nxt ((ρ.set j (some (.lv [.str s, x.2]))).set n none), μ') else none
          | none => none
        | none => none
      | none => none
    | _ => none
noncomputable def execs : SS → Env → Mem → RS
  | .nil, ρ, μ => some (.nxt ρ, μ)
  | .cons s ss, ρ, μ => seqK (exec s ρ μ) fun ρ μ => execs ss ρ μ
end
end
/-- how a body ends, for its caller -/
def outc (r : RS) : R MV := match r with
  | some (.ret v, μ') => some (.ok v, μ')
  | some (.nxt _, μ') => some (.ok .non, μ')
  | some (.exc x _, μ') => some (.error x, μ')
  | _ => none
/-- a def: how many parameters, how many names, its body -/
structure Fn where
  np : Nat
  ns : Nat
  body : SS
/-- calls, d deep at most -/
noncomputable def den (sub : Nat → Nat → Option Bool) (fld : Nat → Str) (fu : Option Nat) (T : List Fn) : Nat → Option (Nat × (Mem → R MV)) → Nat → List MV → Mem → R MV
  | 0, _, _, _, _ => none
  | d + 1, a, f, vs, μ => match T[f]? with
    | some F => if vs.length = F.np ∧ F.np ≤ F.ns then outc (execs ⟨sub, fld, fu, fun g ws ν => den sub fld fu T d none g ws ν, fun g h ν => den sub fld fu T d (some (0, h)) g [.thk 0] ν, a⟩ F.body (vs.map some ++ List.replicate (F.ns - vs.length) none) μ) else none
    | none => none
end MI
end
section
set_option Elab.async false
set_option linter.all false
set_option maxHeartbeats 4000000
/-! MI over the heap: what a value, a memory, a row of names stand for. -/
namespace MI
open PySem PySem.Spec PyProof.Rows L2
/-- what is known of the text's own things -/
structure GI where
  K : PySem.W.Frag
  cls : Nat → Addr
  fld : Nat → Str
  T : List (Addr × Str)
  ρ0 : Env
  σ0 : L2.St
  cd : List (Addr × Str)
/-- a list, a dict -/
def BO (o : HO) : Prop := (∃ xs, o = .lst xs) ∨ ∃ kvs, o = .dK kvs
theorem BO.nt {o : HO} (h : BO o) (ps : Array Value) : o ≠ .tbl ps := by
  rcases h with ⟨xs, rfl⟩ | ⟨xs, rfl⟩ <;> exact fun z => by cases z
theorem BO.l {xs : List V} : BO (.lst xs) := .inl ⟨xs, rfl⟩
theorem BO.d {xs : List (Key × V)} : BO (.dK xs) := .inr ⟨xs, rfl⟩
/-- an error that is held: its class, its dict -/
def exT (C dd a : Addr) : HO := .ext fun h => ∃ (oe : Obj) (vs : Array Value), h.get? a = some oe ∧ oe.cls = .ref C ∧ oe.dict = some dd ∧ oe.data = .fields vs
theorem exT_tbl {C dd a : Addr} (ps : Array Value) : exT C dd a ≠ .tbl ps := fun z => by
  have z' : HO.ext _ = HO.tbl ps := z
  cases z'
section
variable (G : GI) (B ι : List Addr) (H : Hp)
mutual
inductive RV : MV → V → Prop where
  | non : RV .non .non
  | bl (b : Bool) : RV (.bl b) (.bl b)
  | int (i : Int) : RV (.int i) (.int i)
  | str (s : Str) : RV (.str s) (.str s)
  | tup {a : Addr} {vs : List V} {xs : List MV} (h : SqT G.K H a vs) (r : RVs xs vs) : RV (.tup xs) (.ref a)
  | lv {a : Addr} {vs : List V} {xs : List MV} (h : H a = some (.lst vs)) (nb : a ∉ B) (ni : a ∉ ι) (r : RVs xs vs) : RV (.lv xs) (.ref a)
  | loc {n : Nat} {a : Addr} (h : ι[n]? = some a) : RV (.loc n) (.ref a)
  | flH {a : Addr} {o : Obj} {vs : List V} {xs : List MV} (h : H a = some (.frz o (.lst vs))) (ni : a ∉ ι) (r : RVs xs vs) : RV (.fl xs) (.ref a)
  | flK {a : Addr} {o : Obj} {its : Array Value} {n : Nat} {vs : List V} {xs : List MV} (h : G.K.lookup a = some o ∧ o.cls = .type "list" ∧ o.dict = none ∧ o.data = .seq its n ∧ its.size ≤ sizeLine ∧ Vals vs its.toList) (r : RVs xs vs) : RV (.fl xs) (.ref a)
  | exo {c : Nat} {x : MV} {w : V} {a dd : Addr} (h : H a = some (exT (G.cls c) dd a)) (hd : H dd = some (.xd [(G.fld c, w)])) (nb : a ∉ B ∧ dd ∉ B) (ni : a ∉ ι ∧ dd ∉ ι) (r : RV x w) : RV (.exo c x) (.ref a)
  | thk (a : Addr) : RV (.thk a) (.ref a)
inductive RVs : List MV → List V → Prop where
  | nil : RVs [] []
  | cons {x : MV} {xs : List MV} {v : V} {vs : List V} (h : RV x v) (r : RVs xs vs) : RVs (x :: xs) (v :: vs)
end
inductive RKs : List (Key × MV) → List (Key × V) → Prop where
  | nil : RKs [] []
  | cons {k : Key} {x : MV} {xs : List (Key × MV)} {v : V} {vs : List (Key × V)} (h : RV G B ι H x v) (r : RKs xs vs) : RKs ((k, x) :: xs) ((k, v) :: vs)
def OR (a : Addr) : MO → Prop
  | .lst xs => ∃ vs, H a = some (.lst vs) ∧ RVs G B ι H xs vs
  | .dic kvs => ∃ kws, H a = some (.dK kws) ∧ RKs G B ι H kvs kws
structure ER (ρ : Env) (σ : L2.St) : Prop where
  len : ρ.length = σ.length
  get : ∀ (i : Nat) (v : MV), ρ[i]? = some (some v) → ∃ w, σ[i]? = some (some w) ∧ RV G B ι H v w
structure HR (μ : Mem) : Prop where
  len : ι.length = μ.length
  nd : ι.Nodup
  bu : ∀ a ∈ B, (∃ o, H a = some o ∧ BO o) ∧ a ∉ ι
  tb : LamX.Tabs G.T H
  ce : ER G B ι H G.ρ0 G.σ0
  co : ∀ p ∈ G.cd, H p.1 = some (LamX.CodeO p.1 p.2) ∧ p.1 ∉ ι ∧ p.1 ∉ B
  ob : ∀ (n : Nat) (a : Addr) (o : MO), ι[n]? = some a → μ[n]? = some o → OR G B ι H a o
end
/-- from H on: new places are new, all that is not told by a place stays -/
structure Ext (K : PySem.W.Frag) (ι : List Addr) (H : Hp) (ι' : List Addr) (H' : Hp) : Prop where
  pre : ∃ t, ι' = ι ++ t
  fr : ∀ a ∈ ι', a ∈ ι ∨ ∀ o, H a = some o → ∃ ps, o = .tbl ps
  tup : ∀ a vs, SqT K H a vs → SqT K H' a vs
  oth : ∀ a o, H a = some o → a ∉ ι → (∀ ps, o ≠ .tbl ps) → H' a = some o
  thr : ∀ a o, H a = some o → (∀ ps, o ≠ .tbl ps) → ∃ u, H' a = some u ∧ ∀ ps, u ≠ .tbl ps
theorem Ext.refl {K : PySem.W.Frag} {ι : List Addr} {H : Hp} : Ext K ι H ι H := ⟨⟨[], by simp⟩, fun _ h => .inl h, fun _ _ h => h, fun _ _ h _ _ => h, fun _ o h n => ⟨o, h, n⟩⟩
theorem Ext.trans {K : PySem.W.Frag} {ι ι1 ι2 : List Addr} {H H1 H2 : Hp} (a : Ext K ι H ι1 H1) (b : Ext K ι1 H1 ι2 H2) : Ext K ι H ι2 H2 where
  pre := by
    obtain ⟨t, rfl⟩ := a.pre
    obtain ⟨u, rfl⟩ := b.pre
    exact ⟨t ++ u, by simp⟩
  fr := fun x hx => by
    rcases b.fr x hx with h | h
    · exact a.fr x h
    · refine .inr fun o ho => ?_
      by_cases hn : ∃ ps, o = .tbl ps
      · exact hn
      · obtain ⟨u, hu, nu⟩ := a.thr x o ho fun ps e => hn ⟨ps, e⟩
        obtain ⟨ps, e⟩ := h u hu
        exact absurd e (nu ps)
  tup := fun x vs h => b.tup x vs (a.tup x vs h)
  oth := fun x o h hn ht => b.oth x o (a.oth x o h hn ht) (fun hx => by
    rcases a.fr x hx with z | z
    · exact hn z
    · obtain ⟨ps, e⟩ := z o h
      exact ht ps e) ht
  thr := fun x o h n => by
    obtain ⟨u, hu, nu⟩ := a.thr x o h n
    exact b.thr x u hu nu
/-- a new thing is laid that no place tells -/
theorem Ext.push {K : PySem.W.Frag} {ι : List Addr} {H : Hp} {p : Addr} {o : HO} (h : H p = none) : Ext K ι H ι (upd H p o) where
  pre := ⟨[], by simp⟩
  fr := fun _ h => .inl h
  tup := fun a vs q => by
    rcases q with (q | ⟨ob, q⟩) | q
    · exact .inl (.inl (by rw [upd_ne (ne_of_none q h)]; exact q))
    · exact .inl (.inr ⟨ob, by rw [upd_ne (ne_of_none q h)]; exact q⟩)
    · exact .inr q
  oth := fun a u q _ _ => by rw [upd_ne (ne_of_none q h)]; exact q
  thr := fun a u e n => ⟨u, by rw [upd_ne (ne_of_none e h), e], n⟩
/-- .. and a place tells it -/
theorem Ext.pushL {K : PySem.W.Frag} {ι : List Addr} {H : Hp} {p : Addr} (h : H p = none) {H' : Hp} (e : Ext K ι H ι H') : Ext K ι H (ι ++ [p]) H' where
  pre := ⟨[p], rfl⟩
  fr := fun a ha => by
    rcases List.mem_append.mp ha with q | q
    · exact .inl q
    · simp at q; subst q; exact .inr fun o ho => by rw [h] at ho; cases ho
  tup := e.tup
  oth := e.oth
  thr := e.thr
/-- nothing is told there, or a table -/
def Nw (H : Hp) (a : Addr) : Prop := ∀ o, H a = some o → ∃ ps, o = .tbl ps
theorem Nw.of {H : Hp} {a : Addr} (h : H a = none) : Nw H a := fun o e => by rw [h] at e; cases e
theorem Nw.back {K : PySem.W.Frag} {ι ι' : List Addr} {H H' : Hp} {a : Addr} (h : Nw H' a) (e : Ext K ι H ι' H') : Nw H a := fun o q => by
  by_cases hn : ∃ ps, o = .tbl ps
  · exact hn
  · obtain ⟨u, hu, nu⟩ := e.thr a o q fun ps z => hn ⟨ps, z⟩
    obtain ⟨ps, z⟩ := h u hu
    exact absurd z (nu ps)
/-- a table's things stay where no table and no code is written -/
theorem tabs_upd {T : List (Addr × Str)} {H : Hp} {a : Addr} {o : HO} (t : LamX.Tabs T H) (h1 : ∀ ps, H a ≠ some (.tbl ps)) (h2 : ∀ φ, H a ≠ some (.ext φ)) : LamX.Tabs T (upd H a o) := fun p hp => by
  obtain ⟨ps, q1, q2, q3⟩ := t p hp
  refine ⟨ps, by rw [upd_ne (by rintro rfl; exact h1 _ q1)]; exact q1, q2, fun pos cv hc => ?_⟩
  obtain ⟨c, e, q⟩ := q3 pos cv hc
  exact ⟨c, e, by rw [upd_ne (by rintro rfl; exact h2 _ q)]; exact q⟩
theorem tabs_new {T : List (Addr × Str)} {H : Hp} {a : Addr} {o : HO} (t : LamX.Tabs T H) (h : H a = none) : LamX.Tabs T (upd H a o) := tabs_upd t (fun ps z => by rw [h] at z; cases z) (fun φ z => by rw [h] at z; cases z)
theorem tabs_lst {T : List (Addr × Str)} {H : Hp} {a : Addr} {o : HO} {vs : List V} (t : LamX.Tabs T H) (h : H a = some (.lst vs)) : LamX.Tabs T (upd H a o) := tabs_upd t (fun ps z => by rw [h] at z; cases z) (fun φ z => by rw [h] at z; cases z)
theorem tabs_dic {T : List (Addr × Str)} {H : Hp} {a : Addr} {o : HO} {vs : List (Key × V)} (t : LamX.Tabs T H) (h : H a = some (.dK vs)) : LamX.Tabs T (upd H a o) := tabs_upd t (fun ps z => by rw [h] at z; cases z) (fun φ z => by rw [h] at z; cases z)
theorem Ext.ni {K : PySem.W.Frag} {ι ι' : List Addr} {H H' : Hp} {a : Addr} {o : HO} (e : Ext K ι H ι' H') (q : H a = some o) (n : ∀ ps, o ≠ .tbl ps) (ni : a ∉ ι) : a ∉ ι' := fun hx => by
  rcases e.fr _ hx with z | z
  · exact ni z
  · obtain ⟨ps, z⟩ := z o q
    exact n ps z
section
variable {G : GI} {B ι ι' : List Addr} {H H' : Hp}
mutual
theorem RV.mono {v : MV} {w : V} (e : Ext G.K ι H ι' H') : RV G B ι H v w → RV G B ι' H' v w
  | .non => .non
  | .bl b => .bl b
  | .int i => .int i
  | .str s => .str s
  | .tup h r => .tup (e.tup _ _ h) (RVs.mono e r)
  | .lv h nb ni r => .lv (e.oth _ _ h ni (fun _ z => by cases z)) nb (e.ni h (fun _ z => by cases z) ni) (RVs.mono e r)
  | .loc h => .loc (by
      obtain ⟨t, rfl⟩ := e.pre
      rw [List.getElem?_append_left (List.getElem?_eq_some_iff.mp h).1]; exact h)
  | .flH h ni r => .flH (e.oth _ _ h ni (fun _ z => by cases z)) (e.ni h (fun _ z => by cases z) ni) (RVs.mono e r)
  | .flK h r => .flK h (RVs.mono e r)
  | .exo h hd nb ni r => .exo (e.oth _ _ h ni.1 exT_tbl) (e.oth _ _ hd ni.2 (fun _ z => by cases z)) nb ⟨e.ni h exT_tbl ni.1, e.ni hd (fun _ z => by cases z) ni.2⟩ (RV.mono e r)
  | .thk a => .thk a
theorem RVs.mono {v : List MV} {w : List V} (e : Ext G.K ι H ι' H') : RVs G B ι H v w → RVs G B ι' H' v w
  | .nil => .nil
  | .cons h r => .cons (RV.mono e h) (RVs.mono e r)
end
theorem RKs.mono {v : List (Key × MV)} {w : List (Key × V)} (e : Ext G.K ι H ι' H') (r : RKs G B ι H v w) : RKs G B ι' H' v w := by
  induction r with
  | nil => exact .nil
  | cons h _ ih => exact .cons (h.mono e) ih
theorem ER.mono {ρ : Env} {σ : L2.St} (e : Ext G.K ι H ι' H') (r : ER G B ι H ρ σ) : ER G B ι' H' ρ σ :=
  ⟨r.len, fun i v h => let ⟨w, a, b⟩ := r.get i v h; ⟨w, a, b.mono e⟩⟩
theorem OR.mono {a : Addr} {o : MO} (e : Ext G.K ι H ι' H') (h : OR G B ι H a o) (k : ∀ u, H a = some u → H' a = some u) : OR G B ι' H' a o := by
  cases o with
  | lst xs => obtain ⟨vs, h1, h2⟩ := h; exact ⟨vs, k _ h1, h2.mono e⟩
  | dic kvs => obtain ⟨vs, h1, h2⟩ := h; exact ⟨vs, k _ h1, h2.mono e⟩
theorem RVs.length {xs : List MV} {vs : List V} (r : RVs G B ι H xs vs) : xs.length = vs.length := by
  induction r using RVs.rec (motive_1 := fun _ _ _ => True) with
  | nil => rfl
  | cons _ _ _ ih => simp [ih]
  | _ => trivial
theorem RVs.get : ∀ {xs : List MV} {vs : List V} {i : Nat} {x : MV}, RVs G B ι H xs vs → xs[i]? = some x → ∃ v, vs[i]? = some v ∧ RV G B ι H x v
  | _, _, 0, x, .cons h r, e => by simp at e; subst e; exact ⟨_, rfl, h⟩
  | _, _, i + 1, x, .cons h r, e => by
    obtain ⟨v, a, b⟩ := RVs.get (i := i) r (by simpa using e)
    exact ⟨v, by simpa using a, b⟩
theorem RVs.get' : ∀ {xs : List MV} {vs : List V} {i : Nat} {v : V}, RVs G B ι H xs vs → vs[i]? = some v → ∃ x, xs[i]? = some x ∧ RV G B ι H x v
  | _, _, 0, x, .cons h r, e => by simp at e; subst e; exact ⟨_, rfl, h⟩
  | _, _, i + 1, x, .cons h r, e => by
    obtain ⟨v, a, b⟩ := RVs.get' (i := i) r (by simpa using e)
    exact ⟨v, by simpa using a, b⟩
theorem RVs.append : ∀ {xs ys : List MV} {vs ws : List V}, RVs G B ι H xs vs → RVs G B ι H ys ws → RVs G B ι H (xs ++ ys) (vs ++ ws)
  | _, _, _, _, .nil, s => s
  | _, _, _, _, .cons h r, s => .cons h (RVs.append r s)
theorem RVs.take : ∀ {xs : List MV} {vs : List V} (n : Nat), RVs G B ι H xs vs → RVs G B ι H (xs.take n) (vs.take n)
  | _, _, 0, _ => .nil
  | _, _, _ + 1, .nil => .nil
  | _, _, n + 1, .cons h r => .cons h (RVs.take n r)
theorem RVs.drop : ∀ {xs : List MV} {vs : List V} (n : Nat), RVs G B ι H xs vs → RVs G B ι H (xs.drop n) (vs.drop n)
  | _, _, 0, r => r
  | _, _, _ + 1, .nil => .nil
  | _, _, n + 1, .cons h r => RVs.drop n r
theorem RVs.set {x : MV} {v : V} (h : RV G B ι H x v) : ∀ {xs : List MV} {vs : List V} (i : Nat), RVs G B ι H xs vs → RVs G B ι H (xs.set i x) (vs.set i v)
  | _, _, _, .nil => .nil
  | _, _, 0, .cons _ r => .cons h r
  | _, _, i + 1, .cons q r => .cons q (RVs.set h i r)
theorem RVs.eraseIdx : ∀ {xs : List MV} {vs : List V} (i : Nat), RVs G B ι H xs vs → RVs G B ι H (xs.eraseIdx i) (vs.eraseIdx i)
  | _, _, _, .nil => .nil
  | _, _, 0, .cons _ r => r
  | _, _, i + 1, .cons q r => .cons q (RVs.eraseIdx i r)
theorem RVs.dropLast {xs : List MV} {vs : List V} (r : RVs G B ι H xs vs) : RVs G B ι H xs.dropLast vs.dropLast := by
  rw [List.dropLast_eq_take, List.dropLast_eq_take, r.length]; exact r.take _
theorem RVs.rep {xs : List MV} {vs : List V} (r : RVs G B ι H xs vs) : ∀ k : Nat, RVs G B ι H (List.replicate k xs).flatten (List.replicate k vs).flatten
  | 0 => .nil
  | k + 1 => by rw [List.replicate_succ, List.replicate_succ, List.flatten_cons, List.flatten_cons]; exact r.append (RVs.rep r k)
theorem RVs.cutV {xs : List MV} {vs : List V} (r : RVs G B ι H xs vs) (lo hi : Option Int) : RVs G B ι H (cut xs lo hi) (L2.cutV vs lo hi) := by
  unfold cut L2.cutV
  rw [r.length]
  exact (r.drop _).take _
/-- nothing of it is touched -/
theorem HR.keep {μ : Mem} (h : HR G B ι H μ) (e : Ext G.K ι H ι H') (k : ∀ a ∈ ι, ∀ u, H a = some u → H' a = some u) (t : LamX.Tabs G.T H') : HR G B ι H' μ where
  len := h.len
  nd := h.nd
  tb := t
  ce := h.ce.mono e
  co := fun p hp => ⟨e.oth _ _ (h.co p hp).1 (h.co p hp).2.1 LamX.codeO_ne, e.ni (h.co p hp).1 LamX.codeO_ne (h.co p hp).2.1, (h.co p hp).2.2⟩
  bu := fun a ha => ⟨by
    obtain ⟨⟨o, q, n⟩, z⟩ := h.bu a ha
    exact ⟨o, e.oth a o q z n.nt, n⟩, (h.bu a ha).2⟩
  ob := fun n a o h1 h2 => (h.ob n a o h1 h2).mono e (k a (List.mem_of_getElem? h1))
theorem HR.pushO {μ : Mem} {p : Addr} {o : HO} (h : HR G B ι H μ) (hp : H p = none) : HR G B ι (upd H p o) μ :=
  h.keep (Ext.push hp) (fun a _ u q => by rw [upd_ne (ne_of_none q hp)]; exact q) (tabs_new h.tb hp)
theorem HR.get {μ : Mem} (h : HR G B ι H μ) {n : Nat} {o : MO} (e : μ[n]? = some o) : ∃ a, ι[n]? = some a ∧ OR G B ι H a o := by
  have hl := (List.getElem?_eq_some_iff.mp e).1
  have hl' : n < ι.length := by rw [h.len]; exact hl
  exact ⟨ι[n], List.getElem?_eq_getElem hl', h.ob n _ o (List.getElem?_eq_getElem hl') e⟩
/-- the thing at a place is changed -/
theorem Ext.upd {K : PySem.W.Frag} {n : Nat} {a : Addr} {o : HO} (h : ι[n]? = some a) (hm : ∀ xs, H a ≠ some (.tup xs)) (hf : ∀ ob xs, H a ≠ some (.frz ob (.tup xs))) (hs : ∀ ps, o ≠ .tbl ps) : Ext K ι H ι (L2.upd H a o) where
  pre := ⟨[], by simp⟩
  fr := fun _ h => .inl h
  tup := fun b vs q => by
    rcases q with (q | ⟨ob, q⟩) | q
    · exact .inl (.inl (by rw [upd_ne (by rintro rfl; exact hm _ q)]; exact q))
    · exact .inl (.inr ⟨ob, by rw [upd_ne (by rintro rfl; exact hf _ _ q)]; exact q⟩)
    · exact .inr q
  oth := fun b u q hn _ => by rw [upd_ne (by rintro rfl; exact hn (List.mem_of_getElem? h))]; exact q
  thr := fun b u q n => by
    by_cases e : b = a
    · subst e; exact ⟨o, upd_same, hs⟩
    · exact ⟨u, by rw [upd_ne e]; exact q, n⟩
theorem HR.set {μ : Mem} {n : Nat} {a : Addr} {o : HO} {u : MO} (h : HR G B ι H μ) (hn : ι[n]? = some a) (e : Ext G.K ι H ι (L2.upd H a o)) (q : OR G B ι (L2.upd H a o) a u) (t : LamX.Tabs G.T (L2.upd H a o)) : HR G B ι (L2.upd H a o) (μ.set n u) where
  len := by simp [h.len]
  nd := h.nd
  tb := t
  ce := h.ce.mono e
  co := fun p hp => ⟨e.oth _ _ (h.co p hp).1 (h.co p hp).2.1 LamX.codeO_ne, (h.co p hp).2⟩
  bu := fun b hb => ⟨by
    obtain ⟨⟨o', z, n'⟩, w⟩ := h.bu b hb
    exact ⟨o', by rw [upd_ne (by rintro rfl; exact w (List.mem_of_getElem? hn))]; exact z, n'⟩, (h.bu b hb).2⟩
  ob := fun m b v h1 h2 => by
    by_cases hm : n = m
    · subst hm
      rw [hn] at h1
      cases h1
      have hl : n < μ.length := by rw [← h.len]; exact (List.getElem?_eq_some_iff.mp hn).1
      rw [List.getElem?_set_self hl] at h2
      cases h2
      exact q
    · rw [List.getElem?_set_ne hm] at h2
      refine (h.ob m b v h1 h2).mono e fun x z => ?_
      rw [upd_ne]
      · exact z
      · rintro rfl
        exact hm ((List.getElem?_inj (List.getElem?_eq_some_iff.mp hn).1 h.nd).mp (hn.trans h1.symm))
/-! ### a place that is busy -/
mutual
theorem RV.busy {a : Addr} {o : HO} (h : H a = none) {v : MV} {w : V} : RV G B ι H v w → RV G (a :: B) ι (L2.upd H a o) v w
  | .non => .non
  | .bl b => .bl b
  | .int i => .int i
  | .str s => .str s
  | .tup q r => .tup ((Ext.push (ι := ι) h).tup _ _ q) (RVs.busy h r)
  | .lv q nb ni r => .lv (by rw [upd_ne (ne_of_none q h)]; exact q) (by rw [List.mem_cons, not_or]; exact ⟨ne_of_none q h, nb⟩) ni (RVs.busy h r)
  | .loc q => .loc q
  | .flH q ni r => .flH (by rw [upd_ne (ne_of_none q h)]; exact q) ni (RVs.busy h r)
  | .flK q r => .flK q (RVs.busy h r)
  | .exo q qd nb ni r => .exo (by rw [upd_ne (ne_of_none q h)]; exact q) (by rw [upd_ne (ne_of_none qd h)]; exact qd) (by simp only [List.mem_cons, not_or]; exact ⟨⟨ne_of_none q h, nb.1⟩, ne_of_none qd h, nb.2⟩) ni (RV.busy h r)
  | .thk a => .thk a
theorem RVs.busy {a : Addr} {o : HO} (h : H a = none) {v : List MV} {w : List V} : RVs G B ι H v w → RVs G (a :: B) ι (L2.upd H a o) v w
  | .nil => .nil
  | .cons q r => .cons (RV.busy h q) (RVs.busy h r)
end
theorem RKs.busy {a : Addr} {o : HO} (h : H a = none) {v : List (Key × MV)} {w : List (Key × V)} (r : RKs G B ι H v w) : RKs G (a :: B) ι (L2.upd H a o) v w := by
  induction r with
  | nil => exact .nil
  | cons q _ ih => exact .cons (q.busy h) ih
theorem OR.busy {a b : Addr} {o : HO} {u : MO} (h : H a = none) (r : OR G B ι H b u) : OR G (a :: B) ι (L2.upd H a o) b u := by
  cases u with
  | lst xs => obtain ⟨vs, q, r⟩ := r; exact ⟨vs, by rw [upd_ne (ne_of_none q h)]; exact q, r.busy h⟩
  | dic xs => obtain ⟨vs, q, r⟩ := r; exact ⟨vs, by rw [upd_ne (ne_of_none q h)]; exact q, r.busy h⟩
theorem HR.ni (hr : HR G B ι H μ) {p : Addr} (hp : H p = none) : p ∉ ι := fun h => by
  obtain ⟨n, hn⟩ := List.mem_iff_getElem?.mp h
  have hl : n < μ.length := by rw [← hr.len]; exact (List.getElem?_eq_some_iff.mp hn).1
  have q := hr.ob n p μ[n] hn (List.getElem?_eq_getElem hl)
  cases e : μ[n] with
  | lst xs => rw [e] at q; obtain ⟨vs, q, _⟩ := q; rw [hp] at q; cases q
  | dic xs => rw [e] at q; obtain ⟨vs, q, _⟩ := q; rw [hp] at q; cases q
theorem ER.busy {a : Addr} {o : HO} {ρ : Env} {σ : L2.St} (h : H a = none) (r : ER G B ι H ρ σ) : ER G (a :: B) ι (L2.upd H a o) ρ σ :=
  ⟨r.len, fun i v e => let ⟨w, q, z⟩ := r.get i v e; ⟨w, q, z.busy h⟩⟩
theorem HR.busy {a : Addr} {o : HO} (h : H a = none) (hr : HR G B ι H μ) (ho : BO o) : HR G (a :: B) ι (L2.upd H a o) μ where
  len := hr.len
  nd := hr.nd
  tb := tabs_new hr.tb h
  ce := hr.ce.busy h
  co := fun p hp => ⟨by rw [upd_ne (ne_of_none (hr.co p hp).1 h)]; exact (hr.co p hp).1, (hr.co p hp).2.1, by rw [List.mem_cons, not_or]; exact ⟨ne_of_none (hr.co p hp).1 h, (hr.co p hp).2.2⟩⟩
  bu := fun b hb => by
    rcases List.mem_cons.mp hb with rfl | hb
    · exact ⟨⟨o, upd_same, ho⟩, hr.ni h⟩
    · obtain ⟨⟨u, q, n⟩, z⟩ := hr.bu b hb
      exact ⟨⟨u, by rw [upd_ne (ne_of_none q h)]; exact q, n⟩, z⟩
  ob := fun n b u h1 h2 => (hr.ob n b u h1 h2).busy h
/-! busy no longer -/
mutual
theorem RV.idle {a : Addr} {v : MV} {w : V} : RV G (a :: B) ι H v w → RV G B ι H v w
  | .non => .non
  | .bl b => .bl b
  | .int i => .int i
  | .str s => .str s
  | .tup q r => .tup q (RVs.idle r)
  | .lv q nb ni r => .lv q (fun z => nb (List.mem_cons_of_mem _ z)) ni (RVs.idle r)
  | .loc q => .loc q
  | .flH q ni r => .flH q ni (RVs.idle r)
  | .flK q r => .flK q (RVs.idle r)
  | .exo q qd nb ni r => .exo q qd ⟨fun z => nb.1 (List.mem_cons_of_mem _ z), fun z => nb.2 (List.mem_cons_of_mem _ z)⟩ ni (RV.idle r)
  | .thk a => .thk a
theorem RVs.idle {a : Addr} {v : List MV} {w : List V} : RVs G (a :: B) ι H v w → RVs G B ι H v w
  | .nil => .nil
  | .cons q r => .cons (RV.idle q) (RVs.idle r)
end
theorem RKs.idle {a : Addr} {v : List (Key × MV)} {w : List (Key × V)} (r : RKs G (a :: B) ι H v w) : RKs G B ι H v w := by
  induction r with
  | nil => exact .nil
  | cons q _ ih => exact .cons q.idle ih
theorem OR.idle {a b : Addr} {u : MO} (r : OR G (a :: B) ι H b u) : OR G B ι H b u := by
  cases u with
  | lst xs => obtain ⟨vs, q, r⟩ := r; exact ⟨vs, q, r.idle⟩
  | dic xs => obtain ⟨vs, q, r⟩ := r; exact ⟨vs, q, r.idle⟩
theorem ER.idle {a : Addr} {ρ : Env} {σ : L2.St} (r : ER G (a :: B) ι H ρ σ) : ER G B ι H ρ σ := ⟨r.len, fun i v e => let ⟨w, q, z⟩ := r.get i v e; ⟨w, q, z.idle⟩⟩
theorem HR.idle {a : Addr} (hr : HR G (a :: B) ι H μ) : HR G B ι H μ := ⟨hr.len, hr.nd, fun b hb => hr.bu b (List.mem_cons_of_mem _ hb), hr.tb, hr.ce.idle, fun p hp => ⟨(hr.co p hp).1, (hr.co p hp).2.1, fun z => (hr.co p hp).2.2 (List.mem_cons_of_mem _ z)⟩, fun n b u h1 h2 => (hr.ob n b u h1 h2).idle⟩
/-! .. it has a place of its own -/
mutual
theorem RV.own {a : Addr} {v : MV} {w : V} (hf : ∀ o vs, H a ≠ some (.frz o (.lst vs))) : RV G (a :: B) ι H v w → RV G B (ι ++ [a]) H v w
  | .non => .non
  | .bl b => .bl b
  | .int i => .int i
  | .str s => .str s
  | .tup q r => .tup q (RVs.own hf r)
  | .lv q nb ni r => .lv q (fun z => nb (List.mem_cons_of_mem _ z)) (fun z => by
      rcases List.mem_append.mp z with z | z
      · exact ni z
      · simp at z; subst z; exact nb List.mem_cons_self) (RVs.own hf r)
  | .loc q => .loc (by rw [List.getElem?_append_left (List.getElem?_eq_some_iff.mp q).1]; exact q)
  | .flH q ni r => .flH q (fun z => by
      rcases List.mem_append.mp z with z | z
      · exact ni z
      · simp at z; subst z; exact hf _ _ q) (RVs.own hf r)
  | .flK q r => .flK q (RVs.own hf r)
  | .exo q qd nb ni r => .exo q qd ⟨fun z => nb.1 (List.mem_cons_of_mem _ z), fun z => nb.2 (List.mem_cons_of_mem _ z)⟩ ⟨fun z => by
      rcases List.mem_append.mp z with z | z
      · exact ni.1 z
      · simp at z; subst z; exact nb.1 List.mem_cons_self, fun z => by
      rcases List.mem_append.mp z with z | z
      · exact ni.2 z
      · simp at z; subst z; exact nb.2 List.mem_cons_self⟩ (RV.own hf r)
  | .thk a => .thk a
theorem RVs.own {a : Addr} {v : List MV} {w : List V} (hf : ∀ o vs, H a ≠ some (.frz o (.lst vs))) : RVs G (a :: B) ι H v w → RVs G B (ι ++ [a]) H v w
  | .nil => .nil
  | .cons q r => .cons (RV.own hf q) (RVs.own hf r)
end
theorem RKs.own {a : Addr} {v : List (Key × MV)} {w : List (Key × V)} (hf : ∀ o vs, H a ≠ some (.frz o (.lst vs))) (r : RKs G (a :: B) ι H v w) : RKs G B (ι ++ [a]) H v w := by
  induction r with
  | nil => exact .nil
  | cons q _ ih => exact .cons (q.own hf) ih
theorem OR.own {a b : Addr} {u : MO} (hf : ∀ o vs, H a ≠ some (.frz o (.lst vs))) (r : OR G (a :: B) ι H b u) : OR G B (ι ++ [a]) H b u := by
  cases u with
  | lst xs => obtain ⟨vs, q, r⟩ := r; exact ⟨vs, q, r.own hf⟩
  | dic xs => obtain ⟨vs, q, r⟩ := r; exact ⟨vs, q, r.own hf⟩
theorem ER.own {a : Addr} {ρ : Env} {σ : L2.St} (hf : ∀ o vs, H a ≠ some (.frz o (.lst vs))) (r : ER G (a :: B) ι H ρ σ) : ER G B (ι ++ [a]) H ρ σ := ⟨r.len, fun i v e => let ⟨w, q, z⟩ := r.get i v e; ⟨w, q, z.own hf⟩⟩
theorem HR.own {a : Addr} {o : MO} (hf : ∀ o vs, H a ≠ some (.frz o (.lst vs))) (hr : HR G (a :: B) ι H μ) (nb : a ∉ B) (q : OR G B (ι ++ [a]) H a o) : HR G B (ι ++ [a]) H (μ ++ [o]) where
  len := by simp [hr.len]
  nd := by
    rw [List.nodup_append]
    refine ⟨hr.nd, by simp, fun b hb c hc => ?_⟩
    simp at hc
    subst hc
    rintro rfl
    exact (hr.bu b List.mem_cons_self).2 hb
  tb := hr.tb
  ce := hr.ce.own hf
  co := fun p hp => ⟨(hr.co p hp).1, fun z => by
    rcases List.mem_append.mp z with z | z
    · exact (hr.co p hp).2.1 z
    · simp at z; exact (hr.co p hp).2.2 (by rw [z]; exact List.mem_cons_self), fun z => (hr.co p hp).2.2 (List.mem_cons_of_mem _ z)⟩
  bu := fun b hb => ⟨(hr.bu b (List.mem_cons_of_mem _ hb)).1, fun z => by
    rcases List.mem_append.mp z with z | z
    · exact (hr.bu b (List.mem_cons_of_mem _ hb)).2 z
    · simp at z; subst z; exact nb hb⟩
  ob := fun n b u h1 h2 => by
    by_cases hn : n < ι.length
    · rw [List.getElem?_append_left hn] at h1
      rw [List.getElem?_append_left (by rw [← hr.len]; exact hn)] at h2
      exact (hr.ob n b u h1 h2).own hf
    · have h3 := (List.getElem?_eq_some_iff.mp h1).1
      simp at h3
      have : n = ι.length := by omega
      subst this
      simp at h1
      rw [hr.len] at h2
      simp at h2
      subst h1 h2
      exact q
end
end MI
end
section
set_option Elab.async false
set_option linter.all false
set_option maxHeartbeats 4000000
/-! MI: what a reading is, step by step. -/
namespace MI
open PySem PySem.Spec PyProof.Rows L2
/-- how a result ends -/
def Out {α : Type} (r : R α) (good : α → Mem → Prop) (bad : Ex → Mem → Prop) : Prop := match r with
  | none => False
  | some (.ok v, μ) => good v μ
  | some (.error x, μ) => bad x μ
theorem Out.mono {α : Type} {r : R α} {good good' : α → Mem → Prop} {bad bad' : Ex → Mem → Prop} (h : Out r good bad) (hg : ∀ v μ, good v μ → good' v μ) (hb : ∀ x μ, bad x μ → bad' x μ) : Out r good' bad' := by
  match r, h with
  | some (.ok v, μ), h => exact hg v μ h
  | some (.error x, μ), h => exact hb x μ h
theorem Out.bnd {α β : Type} {r : R α} {k : α → Mem → R β} {good : β → Mem → Prop} {bad : Ex → Mem → Prop} (h : Out (bnd r k) good bad) : Out r (fun v μ => Out (k v μ) good bad) bad := by
  match r, h with
  | some (.ok v, μ), h => exact h
  | some (.error x, μ), h => exact h
theorem Out.ok {α : Type} {o : Option α} {μ : Mem} {good : α → Mem → Prop} {bad : Ex → Mem → Prop} (h : Out (ok μ o) good bad) : ∃ v, o = some v ∧ good v μ := by
  cases o with
  | none => exact h.elim
  | some v => exact ⟨v, rfl, h⟩
theorem Out.done {α : Type} {v : α} {μ : Mem} {good : α → Mem → Prop} {bad : Ex → Mem → Prop} (h : Out (some (.ok v, μ)) good bad) : good v μ := h
section
variable (G : GI) (B ι : List Addr) (H : Hp)
/-- an error that stands for x -/
def RX (cls : Value) (d : Option Addr) (x : Ex) : Prop := cls = .ref (G.cls x.1) ∧ ∃ da w, d = some da ∧ H da = some (.xd [(G.fld x.1, w)]) ∧ RV G B ι H x.2 w
def Bad (W : WX) (σ : L2.St) (x : Ex) (μ' : Mem) : Prop := ∀ cls d H' ι', Ext G.K ι H ι' H' → HR G B ι' H' μ' → RX G B ι' H' cls d x → W cls d σ H'
/-- a new list was made, and none else knows it -/
def New (ι' : List Addr) (H' : Hp) (μ' : Mem) (al : Bool) (v : MV) (w : V) : Prop := al = true → ∀ xs, v = .lv xs → ∃ a vs, w = .ref a ∧ Nw H a ∧ H' a = some (.lst vs) ∧ HR G (a :: B) ι' H' μ' ∧ RVs G (a :: B) ι' H' xs vs
def Gd (al : Bool) (Q : VK) (v : MV) (μ' : Mem) : Prop := ∀ w H' ι', Ext G.K ι H ι' H' → HR G B ι' H' μ' → RV G B ι' H' v w → New G B H ι' H' μ' al v w → Q w H'
end
section
variable {G : GI} {B ι ι' : List Addr} {H H' : Hp} {W : WX} {σ : L2.St} {x : Ex} {μ : Mem} {Q : VK} {v : MV} {al : Bool}
theorem Bad.ext (h : Bad G B ι H W σ x μ) (e : Ext G.K ι H ι' H') : Bad G B ι' H' W σ x μ := fun cls d H2 ι2 e2 => h cls d H2 ι2 (e.trans e2)
theorem New.ext {ι2 : List Addr} {H2 : Hp} {w : V} (e : Ext G.K ι H ι' H') (h : New G B H' ι2 H2 μ al v w) : New G B H ι2 H2 μ al v w := fun ha xs hx => by
  obtain ⟨a, vs, rfl, q, z⟩ := h ha xs hx
  exact ⟨a, vs, rfl, q.back e, z⟩
theorem New.lst {xs : List MV} {vs : List V} {p : Addr} (hr : HR G B ι H μ) (hp : H p = none) (r : RVs G B ι H xs vs) : New G B H ι (upd H p (.lst vs)) μ al (.lv xs) (.ref p) := fun _ ys e => by
  cases e
  exact ⟨p, vs, rfl, Nw.of hp, upd_same, hr.busy hp .l, r.busy hp⟩
theorem Gd.ext (h : Gd G B ι H al Q v μ) (e : Ext G.K ι H ι' H') : Gd G B ι' H' al Q v μ := fun w H2 ι2 e2 hr rv n => h w H2 ι2 (e.trans e2) hr rv (n.ext e)
end
/-- which expressions make a list anew -/
def al : E → Bool
  | .bin .. | .lst _ | .slc .. | .lcm .. | .lrg .. => true
  | .blt .lst1 _ | .blt .srt1 _ => true
  | _ => false
/-- an expression's reading; an argument list's -/
def tE (G : GI) (W : WX) (wd : Wd) (e : E) : TE := fun σ H Q => ∃ B ι μ ρ, ER G B ι H ρ σ ∧ HR G B ι H μ ∧ Out (ev wd e ρ μ) (Gd G B ι H (al e) Q) (Bad G B ι H W σ)
def tEs (G : GI) (W : WX) (wd : Wd) (es : ES) : TA := fun σ H Q => ∃ B ι μ ρ, ER G B ι H ρ σ ∧ HR G B ι H μ ∧
  Out (evs wd es ρ μ) (fun xs μ' => ∀ vs H' ι', Ext G.K ι H ι' H' → HR G B ι' H' μ' → RVs G B ι' H' xs vs → Q vs H') (Bad G B ι H W σ)
theorem peW {X : Cx} {e : Expr} {t t' : TE} (h : PE X e t) (k : ∀ σ H Q, t' σ H Q → t σ H Q) : PE X e t' := ⟨fun pins s σ H Q I q => h.run pins s σ H Q I (k σ H Q q)⟩
theorem peOr {X : Cx} {e : Expr} {t t' : TE} (h : PE X e t) (h' : PE X e t') : PE X e (fun σ H Q => t σ H Q ∨ t' σ H Q) := ⟨fun pins s σ H Q I q => q.elim (h.run pins s σ H Q I) (h'.run pins s σ H Q I)⟩
theorem paW {X : Cx} {e : List Expr} {t t' : TA} (h : PA X e t) (k : ∀ σ H Q, t' σ H Q → t σ H Q) : PA X e t' := ⟨fun pos pins s σ H Q I q => h.run pos pins s σ H Q I (k σ H Q q)⟩
theorem psW {X : Cx} {e : Stmt} {t t' : TS} (h : PS X e t) (k : ∀ D σ H, t' D σ H → t D σ H) : PS X e t' := ⟨fun pins s σ H D I q => h.run pins s σ H D I (k D σ H q)⟩
theorem pssW {X : Cx} {e : List Stmt} {t t' : TS} (h : PSs X e t) (k : ∀ D σ H, t' D σ H → t D σ H) : PSs X e t' := ⟨fun pins s σ H D I q => h.run pins s σ H D I (k D σ H q)⟩
theorem psOr {X : Cx} {e : Stmt} {t t' : TS} (h : PS X e t) (h' : PS X e t') : PS X e (fun D σ H => t D σ H ∨ t' D σ H) := ⟨fun pins s σ H D I q => q.elim (h.run pins s σ H D I) (h'.run pins s σ H D I)⟩
theorem ptW {X : Cx} {e : Expr} {t t' : TT} (h : PT X e t) (k : ∀ σ H Q, t' σ H Q → t σ H Q) : PT X e t' := ⟨fun pins s σ H Q I q => h.run pins s σ H Q I (k σ H Q q)⟩
section
variable {G : GI} {W : WX} {wd : Wd} {B ι : List Addr} {H : Hp} {σ : L2.St} {μ : Mem} {ρ : Env}
/-- go on behind an expression -/
theorem tE_then {e : E} {Q : VK} {good : MV → Mem → Prop} (er : ER G B ι H ρ σ) (hr : HR G B ι H μ) (h : Out (ev wd e ρ μ) good (Bad G B ι H W σ))
    (k : ∀ v μ1 w H1 ι1, good v μ1 → Ext G.K ι H ι1 H1 → HR G B ι1 H1 μ1 → RV G B ι1 H1 v w → New G B H ι1 H1 μ1 (al e) v w → Q w H1) : tE G W wd e σ H Q :=
  ⟨B, ι, μ, ρ, er, hr, h.mono (fun v μ1 q w H1 ι1 e1 h1 r1 n1 => k v μ1 w H1 ι1 q e1 h1 r1 n1) fun _ _ q => q⟩
theorem tEs_then {es : ES} {Q : List V → Hp → Prop} {good : List MV → Mem → Prop} (er : ER G B ι H ρ σ) (hr : HR G B ι H μ) (h : Out (evs wd es ρ μ) good (Bad G B ι H W σ))
    (k : ∀ v μ1 w H1 ι1, good v μ1 → Ext G.K ι H ι1 H1 → HR G B ι1 H1 μ1 → RVs G B ι1 H1 v w → Q w H1) : tEs G W wd es σ H Q :=
  ⟨B, ι, μ, ρ, er, hr, h.mono (fun v μ1 q w H1 ι1 e1 h1 r1 => k v μ1 w H1 ι1 q e1 h1 r1) fun _ _ q => q⟩
end
section
variable {X : Cx} {G : GI} {W : WX} {wd : Wd}
/-! ### names, constants -/
theorem s_int {i : Int} {j : Nat} {pos : Pos} : PE X (.Constant (.int i) j pos) (tE G W wd (.con (.int i))) := peW pe_int fun σ H Q ⟨B, ι, μ, ρ, er, hr, h⟩ => h _ H ι Ext.refl hr (.int i) (fun z => by cases z)
theorem s_bl {i : Bool} {j : Nat} {pos : Pos} : PE X (.Constant (.bool i) j pos) (tE G W wd (.con (.bl i))) := peW pe_bl fun σ H Q ⟨B, ι, μ, ρ, er, hr, h⟩ => h _ H ι Ext.refl hr (.bl i) (fun z => by cases z)
theorem s_non {j : Nat} {pos : Pos} : PE X (.Constant .none j pos) (tE G W wd (.con .non)) := peW pe_non fun σ H Q ⟨B, ι, μ, ρ, er, hr, h⟩ => h _ H ι Ext.refl hr .non (fun z => by cases z)
theorem s_str {x : Str} {j : Nat} {pos : Pos} : PE X (.Constant (.str x) j pos) (tE G W wd (.con (.str x))) := peW pe_str fun σ H Q ⟨B, ι, μ, ρ, er, hr, h⟩ => h _ H ι Ext.refl hr (.str x) (fun z => by cases z)
theorem s_var {i : Nat} {x : Str} {pos : Pos} (hN : X.N[i]? = some x) (hv : Vis X.env.scope x) (hd : (x == ("__debug__" : Str)) = false) (hcd : (x == ("__classdict__" : Str)) = false) : PE X (.Name x pos) (tE G W wd (.var i)) :=
  peW (pe_var hN hv hd hcd) fun σ H Q ⟨B, ι, μ, ρ, er, hr, h⟩ => by
    simp only [ev] at h
    obtain ⟨v, e, h⟩ := h.ok
    cases q : ρ[i]? with
    | none => rw [q] at e; cases e
    | some o =>
      rw [q] at e
      have e : o = some v := e
      subst e
      obtain ⟨w, hw, rv⟩ := er.get i v q
      exact ⟨w, hw, h w H ι Ext.refl hr rv (fun z => by cases z)⟩
/-- a constant of the module -/
def ConOk (G : GI) (v : MV) (u : Value) : Prop := ∃ w, RelV w u ∧ ∀ B ι H, RV G B ι H v w
theorem s_glob {x : Str} {v : MV} {u : Value} {pos : Pos} (hg : Gl X x) (hm : X.mg x = some u) (c : ConOk G v u) (hd : (x == ("__debug__" : Str)) = false) : PE X (.Name x pos) (tE G W wd (.con v)) := by
  obtain ⟨w, r, rv⟩ := c
  exact peW (pe_glob hg hm r hd) fun σ H Q ⟨B, ι, μ, ρ, er, hr, h⟩ => h w H ι Ext.refl hr (rv _ _ _) (fun z => by cases z)
/-! ### two in a row -/
theorem tOp_of {r : R2} {a b : E} {σ : L2.St} {H : Hp} {Q : VK} {B ι : List Addr} {μ : Mem} {ρ : Env} {good : MV → MV → Mem → Prop} (er : ER G B ι H ρ σ) (hr : HR G B ι H μ)
    (h : Out (ev wd a ρ μ) (fun x μ1 => Out (ev wd b ρ μ1) (good x) (Bad G B ι H W σ)) (Bad G B ι H W σ))
    (k : ∀ x y μ2 v w H2 ι2, good x y μ2 → Ext G.K ι H ι2 H2 → HR G B ι2 H2 μ2 → RV G B ι2 H2 x v → RV G B ι2 H2 y w → r v w H2 Q) : tOp r (tE G W wd a) (tE G W wd b) σ H Q := by
  refine tE_then er hr h fun x μ1 v H1 ι1 h1 e1 hr1 r1 _ => ?_
  exact tE_then (er.mono e1) hr1 (h1.mono (fun _ _ q => q) fun _ _ q => q.ext e1) fun y μ2 w H2 ι2 h2 e2 hr2 r2 _ => k x y μ2 v w H2 ι2 h2 (e1.trans e2) hr2 (r1.mono e2) r2
end
end MI
end
section
set_option Elab.async false
set_option linter.all false
set_option maxHeartbeats 4000000
/-! MI: operators. -/
namespace MI
open PySem PySem.Spec PyProof.Rows L2
section
variable {X : Cx}
theorem mulOk_ok {i j : Int} (h : mulOk i j = true) : IntMulOk i j := by
  have b : ∀ x : Int, Builtin.Int.intBits x ≤ x.natAbs.log2 + 1 := fun x => by
    unfold Builtin.Int.intBits
    split <;> omega
  unfold mulOk at h
  rw [Bool.or_eq_true, Bool.or_eq_true] at h
  rcases h with (h | h) | h
  · have h := of_decide_eq_true h
    exact .of_left (intBits_le_64 (by omega) (by omega))
  · have h := of_decide_eq_true h
    exact .of_right (intBits_le_64 (by omega) (by omega))
  · have h := of_decide_eq_true h
    have h1 := b i
    have h2 := b j
    have e : bitsLine = 134217728 := by decide
    unfold IntMulOk
    intro z
    rw [Bool.and_eq_true] at z
    have z2 := z.2
    unfold Builtin.Int.intTooBig at z2
    have z3 := of_decide_eq_true z2
    rw [e] at z3
    omega
def opOf : Operator → Option Bop
  | .Add => some .add
  | .Sub => some .sub
  | .Mult => some .mul
  | .FloorDiv => some .fdv
  | .Mod => some .mod
  | .Pow => some .pow
  | _ => none
/-- two ints, by what bopI tells -/
def rInt (o : Bop) : R2 := fun x y H Q => ∃ i j v, x = .int i ∧ y = .int j ∧ bopI o i j = some (.int v) ∧ Q (.int v) H
theorem op_int {op : Operator} {o : Bop} (h : opOf op = some o) : OpR X (binaryOp op) (rInt o) := by
  intro pins s σ H x y v u Q I rx ry ⟨i, j, z, hx, hy, e, q⟩
  cases op <;> simp only [opOf, Option.some.injEq, reduceCtorEq] at h <;> subst h <;> simp only [bopI] at e
  · cases e; exact op_add pins s σ H x y v u Q I rx ry ⟨i, j, hx, hy, q⟩
  · cases e; exact op_sub pins s σ H x y v u Q I rx ry ⟨i, j, hx, hy, q⟩
  · split at e
    · rename_i hm
      cases e
      subst hx hy
      obtain ⟨t, rfl⟩ := rx
      obtain ⟨t', rfl⟩ := ry
      exact mul_int ⟨.int _, H, I.tok _, ⟨_, rfl⟩, q⟩ (mulOk_ok hm)
    · cases e
  · split at e
    · rename_i hj
      cases e
      exact op_modN pins s σ H x y v u Q I rx ry ⟨i, j, hx, hy, hj, q⟩
    · cases e
  · split at e
    · rename_i hj
      cases e
      exact op_pow pins s σ H x y v u Q I rx ry ⟨i, j, hx, hy, hj, q⟩
    · cases e
  · split at e
    · rename_i hj
      cases e
      subst hx hy
      obtain ⟨t, rfl⟩ := rx
      obtain ⟨t', rfl⟩ := ry
      exact floordiv_int hj.1 ⟨.int _, H, I.tok _, ⟨_, rfl⟩, q⟩ (.inl hj.2)
    · cases e
theorem bopI_int {o : Bop} {i j : Int} {v : MV} (h : bopI o i j = some v) : ∃ z, v = .int z := by
  cases o <;> simp only [bopI] at h
  · cases h; exact ⟨_, rfl⟩
  · cases h; exact ⟨_, rfl⟩
  all_goals
    split at h
    · cases h; exact ⟨_, rfl⟩
    · cases h
theorem most_le {n : Nat} (h : n ≤ most) : n ≤ sizeLine := by
  rw [sizeLine_eq]; unfold most at h; omega
theorem most_lt {n : Nat} (h : n < most) : n < sizeLine := by
  rw [sizeLine_eq]; unfold most at h; omega
def rStr : R2 := fun x y H Q => ∃ i j, x = .str i ∧ y = .str j ∧ i.length + j.length ≤ sizeLine ∧ Q (.str (i ++ j)) H
/-- all that + and * do -/
def rBin (K : PySem.W.Frag) (o : Bop) : R2 := fun x y H Q => rInt o x y H Q ∨ (o = .add ∧ (rStr x y H Q ∨ rCatA K x y H Q ∨ rCat x y H Q)) ∨ (o = .mul ∧ (rRep x y H Q ∨ rRepT K x y H Q))
theorem op_bin {op : Operator} {o : Bop} (h : opOf op = some o) : OpR X (binaryOp op) (rBin X.K o) := by
  intro pins s σ H x y v u Q I rx ry q
  rcases q with q | ⟨e, q⟩ | ⟨e, q⟩
  · exact op_int h pins s σ H x y v u Q I rx ry q
  · subst e
    have e : op = .Add := by cases op <;> simp [opOf] at h ⊢
    subst e
    rcases q with q | q | q
    · exact op_add_str pins s σ H x y v u Q I rx ry q
    · exact op_catA pins s σ H x y v u Q I rx ry q
    · exact op_cat pins s σ H x y v u Q I rx ry q
  · subst e
    have e : op = .Mult := by cases op <;> simp [opOf] at h ⊢
    subst e
    rcases q with q | q
    · exact op_rep pins s σ H x y v u Q I rx ry q
    · exact op_repT pins s σ H x y v u Q I rx ry q
end
section
variable {X : Cx} {G : GI} {W : WX} {wd : Wd} {B ι ι' : List Addr} {H H' : Hp} {μ : Mem} {v : MV} {w : V}
theorem RV.tup_inv {xs : List MV} (r : RV G B ι H (.tup xs) w) : ∃ a vs, w = .ref a ∧ SqT G.K H a vs ∧ RVs G B ι H xs vs := by
  cases r with
  | tup h r => exact ⟨_, _, rfl, h, r⟩
theorem RV.int_inv {i : Int} (r : RV G B ι H (.int i) w) : w = .int i := by cases r; rfl
theorem RV.str_inv {i : Str} (r : RV G B ι H (.str i) w) : w = .str i := by cases r; rfl
theorem RV.bl_inv {i : Bool} (r : RV G B ι H (.bl i) w) : w = .bl i := by cases r; rfl
theorem RV.non_inv (r : RV G B ι H .non w) : w = .non := by cases r; rfl
/-- a list as it stands -/
theorem lsOf_rv {xs : List MV} (hr : HR G B ι H μ) (h : lsOf μ v = some xs) (r : RV G B ι H v w) : ∃ a vs, w = .ref a ∧ H a = some (.lst vs) ∧ RVs G B ι H xs vs := by
  cases v with
  | lv ys =>
    simp only [lsOf] at h
    cases h
    cases r with
    | lv h nb ni r => exact ⟨_, _, rfl, h, r⟩
  | loc k =>
    simp only [lsOf] at h
    split at h
    · rename_i zs e
      cases h
      obtain ⟨a, ha, vs, q1, q2⟩ := hr.get e
      cases r with
      | loc h =>
        rw [ha] at h
        cases h
        exact ⟨_, _, rfl, q1, q2⟩
    · cases h
  | _ => simp [lsOf] at h
/-- a list or a tuple -/
theorem sqOf_rv {xs : List MV} (hr : HR G B ι H μ) (h : sqOf μ v = some xs) (r : RV G B ι H v w) : ∃ a vs, w = .ref a ∧ (SqL G.K H a vs ∨ SqT G.K H a vs) ∧ RVs G B ι H xs vs ∧ ((∃ ys, v = .tup ys) → SqT G.K H a vs) ∧ ((∀ ys, v ≠ .tup ys) → SqL G.K H a vs) := by
  cases v with
  | lv ys =>
    obtain ⟨a, vs, e, h1, h2⟩ := lsOf_rv (v := .lv ys) hr (by simpa [sqOf, lsOf] using h) r
    exact ⟨a, vs, e, .inl (SqL.of h1), h2, (fun ⟨_, z⟩ => by cases z), fun _ => SqL.of h1⟩
  | tup ys =>
    simp only [sqOf] at h
    cases h
    obtain ⟨a, vs, e, h1, h2⟩ := r.tup_inv
    exact ⟨a, vs, e, .inr h1, h2, (fun _ => h1), fun z => absurd rfl (z _)⟩
  | fl ys =>
    simp only [sqOf] at h
    cases h
    cases r with
    | flH h ni r =>
      have q : SqL G.K H _ _ := .inl (.inr ⟨_, h⟩)
      exact ⟨_, _, rfl, .inl q, r, (fun ⟨_, z⟩ => by cases z), fun _ => q⟩
    | flK h r =>
      obtain ⟨h1, h2, h3, h4, h5, h6⟩ := h
      have q : SqL G.K H _ _ := .inr ⟨_, _, _, h1, h2, h3, h4, h5, h6⟩
      exact ⟨_, _, rfl, .inl q, r, (fun ⟨_, z⟩ => by cases z), fun _ => q⟩
  | loc k =>
    obtain ⟨a, vs, e, h1, h2⟩ := lsOf_rv (v := .loc k) hr (by simpa [sqOf, lsOf] using h) r
    exact ⟨a, vs, e, .inl (SqL.of h1), h2, (fun ⟨_, z⟩ => by cases z), fun _ => SqL.of h1⟩
  | _ => simp [sqOf] at h
/-- a new tuple, told by what it holds -/
theorem RV.newTup {xs : List MV} {vs : List V} {p : Addr} (hp : H p = none) (r : RVs G B ι H xs vs) : RV G B ι (upd H p (.tup vs)) (.tup xs) (.ref p) := .tup (SqT.of upd_same) (r.mono (Ext.push hp))
theorem HR.nw (hr : HR G B ι H μ) {p : Addr} (hp : Nw H p) : p ∉ B := fun h => by
  obtain ⟨⟨o, q, n⟩, _⟩ := hr.bu p h
  obtain ⟨ps, z⟩ := hp o q
  exact n.nt ps z
theorem HR.no (hr : HR G B ι H μ) {p : Addr} (hp : H p = none) : p ∉ B := hr.nw (Nw.of hp)
/-- a new settled list -/
theorem RV.newLst {xs : List MV} {vs : List V} {p : Addr} (hr : HR G B ι H μ) (hp : H p = none) (r : RVs G B ι H xs vs) : RV G B ι (upd H p (.lst vs)) (.lv xs) (.ref p) := .lv upd_same (hr.no hp) (hr.ni hp) (r.mono (Ext.push hp))
end
end MI
end
section
set_option Elab.async false
set_option linter.all false
set_option maxHeartbeats 4000000
/-! MI: expressions. -/
namespace MI
open PySem PySem.Spec PyProof.Rows L2
section
variable {X : Cx} {G : GI} {W : WX} {wd : Wd}
theorem evBin_ok {B ι : List Addr} {H : Hp} {μ : Mem} {o : Bop} {x y z : MV} {v w : V} {Q : VK} (hr : HR G B ι H μ) (rx : RV G B ι H x v) (ry : RV G B ι H y w) (h : evBin μ o x y = some z)
    (q : ∀ (u : V) (H' : Hp), (u = u) → Ext G.K ι H ι H' → HR G B ι H' μ → RV G B ι H' z u → New G B H ι H' μ true z u → Q u H') : rBin G.K o v w H Q := by
  have keep : ∀ {u : V}, RV G B ι H z u → (∀ xs, z ≠ .lv xs) → Q u H := fun r n => q _ _ rfl Ext.refl hr r (fun _ xs e => absurd e (n xs))
  have newT : ∀ {xs : List MV} {vs : List V}, z = .tup xs → RVs G B ι H xs vs → ∀ p, H p = none → Q (.ref p) (upd H p (.tup vs)) := fun e r p hp => by
    subst e
    exact q _ _ rfl (Ext.push hp) (hr.pushO hp) (RV.newTup hp r) (fun _ xs e => by cases e)
  have newL : ∀ {xs : List MV} {vs : List V}, z = .lv xs → RVs G B ι H xs vs → ∀ p, H p = none → Q (.ref p) (upd H p (.lst vs)) := fun e r p hp => by
    subst e
    exact q _ _ rfl (Ext.push hp) (hr.pushO hp) (RV.newLst hr hp r) (New.lst hr hp r)
  unfold evBin at h
  split at h
  · obtain ⟨i, rfl⟩ := bopI_int h
    rw [rx.int_inv, ry.int_inv]
    exact .inl ⟨_, _, _, rfl, rfl, h, keep (.int _) (fun _ e => by cases e)⟩
  · split at h
    · rename_i hc
      cases h
      obtain ⟨rfl, hl⟩ := hc
      rw [rx.str_inv, ry.str_inv]
      exact .inr (.inl ⟨rfl, .inl ⟨_, _, rfl, rfl, most_le hl, keep (.str _) (fun _ e => by cases e)⟩⟩)
    · cases h
  · split at h
    · rename_i hc
      cases h
      obtain ⟨rfl, hl⟩ := hc
      obtain ⟨a, vs, rfl, h1, r1⟩ := rx.tup_inv
      obtain ⟨b, ws, rfl, h2, r2⟩ := ry.tup_inv
      refine .inr (.inl ⟨rfl, .inr (.inl ⟨a, b, vs, ws, rfl, rfl, h1, h2, by rw [← r1.length, ← r2.length]; exact most_le hl, fun e => ?_, fun e e2 => ?_, fun e e2 p hp => newT rfl (r1.append r2) p hp⟩)⟩)
      · subst e
        cases r1
        exact keep (.tup h2 r2) (fun _ e => by cases e)
      · subst e2
        cases r2
        exact keep (.tup h1 (by rw [List.append_nil]; exact r1)) (fun _ e => by cases e)
    · cases h
  · split at h
    · rename_i hc
      cases h
      obtain ⟨rfl, h2, h3, h4, h5⟩ := hc
      obtain ⟨a, vs, rfl, h1, r1⟩ := rx.tup_inv
      rw [ry.int_inv]
      refine .inr (.inr ⟨rfl, .inr ⟨a, _, vs, rfl, rfl, h1, fun e => ?_, h2, h3, by rw [← r1.length]; exact h5, fun p hp => newT rfl (r1.rep _) p hp⟩⟩)
      subst e
      cases r1
      exact h4 rfl
    · cases h
  · cases e : lsOf μ x with
    | none => rw [e] at h; cases h
    | some xs =>
      rw [e] at h
      simp only [Option.bind_some] at h
      split at h
      · rename_i hc
        cases h
        obtain ⟨rfl, h2, h3, h4⟩ := hc
        obtain ⟨a, vs, rfl, h1, r1⟩ := lsOf_rv hr e rx
        rw [ry.int_inv]
        exact .inr (.inr ⟨rfl, .inl ⟨a, _, vs, rfl, rfl, h1, by omega, by omega, by rw [← r1.length]; exact most_le h4, fun p hp => newL rfl (r1.rep _) p hp⟩⟩)
      · cases h
  · cases e : lsOf μ x with
    | none => rw [e] at h; cases h
    | some xs =>
      rw [e] at h
      simp only [Option.bind_some] at h
      cases e2 : lsOf μ y with
      | none => rw [e2] at h; cases h
      | some ys =>
        rw [e2] at h
        simp only [Option.bind_some] at h
        split at h
        · rename_i hc
          cases h
          obtain ⟨rfl, hl⟩ := hc
          obtain ⟨a, vs, rfl, h1, r1⟩ := lsOf_rv hr e rx
          obtain ⟨b, ws, rfl, h2, r2⟩ := lsOf_rv hr e2 ry
          exact .inr (.inl ⟨rfl, .inr (.inr ⟨a, b, vs, ws, rfl, rfl, h1, h2, by rw [← r1.length, ← r2.length]; exact most_le hl, fun p hp => newL rfl (r1.append r2) p hp⟩)⟩)
        · cases h
theorem s_bin {op : Operator} {o : Bop} {a b : Expr} {a' b' : E} {pos : Pos} (hK : X.K = G.K) (ho : opOf op = some o) (ha : PE X a (tE G W wd a')) (hb : PE X b (tE G W wd b')) : PE X (.BinOp a op b pos) (tE G W wd (.bin o a' b')) :=
  peW (pe_op (op_bin ho) ha hb) fun σ H Q ⟨B, ι, μ, ρ, er, hr, h⟩ => by
    simp only [ev] at h
    refine tOp_of er hr (h.bnd.mono (fun x μ1 q => q.bnd) fun _ _ q => q) fun x y μ2 v w H2 ι2 g e2 hr2 rx ry => ?_
    obtain ⟨z, hz, g⟩ := g.ok
    rw [hK]
    exact evBin_ok hr2 rx ry hz fun u H' _ e' hr' rz n => g u H' ι2 (e2.trans e') hr' rz (n.ext e2)
theorem s_neg {a : Expr} {a' : E} {pos : Pos} (ha : PE X a (tE G W wd a')) : PE X (.UnaryOp .USub a pos) (tE G W wd (.neg a')) :=
  peW (pe_un un_neg ha) fun σ H Q ⟨B, ι, μ, ρ, er, hr, h⟩ => by
    simp only [ev] at h
    refine tE_then er hr h.bnd fun x μ1 v H1 ι1 g e1 hr1 rx _ => ?_
    obtain ⟨z, hz, g⟩ := g.ok
    cases x <;> simp only [intO, Option.map_some, Option.map_none, reduceCtorEq, Option.some.injEq] at hz
    subst hz
    rw [rx.int_inv]
    exact ⟨_, rfl, g _ H1 ι1 e1 hr1 (.int _) (fun z => by cases z)⟩
/-! ### truths -/
theorem blO_inv {x : MV} {b : Bool} (h : blO x = some b) : x = .bl b := by
  cases x <;> simp [blO] at h
  rw [h]
theorem s_nt {a : Expr} {a' : E} {pos : Pos} (ha : PE X a (tE G W wd a')) : PE X (.UnaryOp .Not a pos) (tE G W wd (.nt a')) :=
  peW (pe_not ha) fun σ H Q ⟨B, ι, μ, ρ, er, hr, h⟩ => by
    simp only [ev] at h
    refine tE_then er hr h.bnd fun x μ1 v H1 ι1 g e1 hr1 rx _ => ?_
    obtain ⟨z, hz, g⟩ := g.ok
    cases hx : blO x with
    | none => rw [hx] at hz; cases hz
    | some b =>
      rw [hx] at hz
      cases hz
      rw [blO_inv hx] at rx
      exact ⟨b, rx.bl_inv, g _ H1 ι1 e1 hr1 (.bl _) (fun z => by cases z)⟩
theorem s_ife {c a b : Expr} {c' a' b' : E} {pos : Pos} {tc : TT} (hc : PT X c tc) (hct : ∀ σ H Q, (tE G W wd c' σ H fun x H1 => ∃ k, x = .bl k ∧ Q k H1) → tc σ H Q) (ha : PE X a (tE G W wd a')) (hb : PE X b (tE G W wd b')) : PE X (.IfExp c a b pos) (tE G W wd (.ife c' a' b')) :=
  peW (pe_ifExp hc ha hb) fun σ H Q ⟨B, ι, μ, ρ, er, hr, h⟩ => by
    simp only [ev] at h
    refine hct σ H _ (tE_then er hr h.bnd fun x μ1 v H1 ι1 g e1 hr1 rx _ => ?_)
    split at g
    · refine ⟨true, rx.bl_inv, ?_⟩
      rw [if_pos rfl]
      exact tE_then (er.mono e1) hr1 (g.mono (fun _ _ q => q) fun _ _ q => q.ext e1) fun y μ2 w H2 ι2 h2 e2 hr2 r2 _ => h2 w H2 ι2 (e1.trans e2) hr2 r2 (fun z => by cases z)
    · refine ⟨false, rx.bl_inv, ?_⟩
      rw [if_neg Bool.false_ne_true]
      exact tE_then (er.mono e1) hr1 (g.mono (fun _ _ q => q) fun _ _ q => q.ext e1) fun y μ2 w H2 ι2 h2 e2 hr2 r2 _ => h2 w H2 ι2 (e1.trans e2) hr2 r2 (fun z => by cases z)
    · exact g.elim
theorem s_an {a b : Expr} {rest : List Expr} {a' b' : E} {pos : Pos} (ha : PE X a (tE G W wd a')) (hb : PE X (.BoolOp .And (b :: rest) pos) (tE G W wd b')) : PE X (.BoolOp .And (a :: b :: rest) pos) (tE G W wd (.an a' b')) :=
  peW (pe_and ha hb) fun σ H Q ⟨B, ι, μ, ρ, er, hr, h⟩ => by
    simp only [ev] at h
    refine tE_then er hr h.bnd fun x μ1 v H1 ι1 g e1 hr1 rx _ => ?_
    split at g
    · refine ⟨true, rx.bl_inv, ?_⟩
      rw [if_pos rfl]
      exact tE_then (er.mono e1) hr1 (g.mono (fun _ _ q => q) fun _ _ q => q.ext e1) fun y μ2 w H2 ι2 h2 e2 hr2 r2 _ => h2 w H2 ι2 (e1.trans e2) hr2 r2 (fun z => by cases z)
    · refine ⟨false, rx.bl_inv, ?_⟩
      rw [if_neg Bool.false_ne_true]
      exact g _ H1 ι1 e1 hr1 (.bl _) (fun z => by cases z)
    · exact g.elim
theorem s_orr {a b : Expr} {rest : List Expr} {a' b' : E} {pos : Pos} (ha : PE X a (tE G W wd a')) (hb : PE X (.BoolOp .Or (b :: rest) pos) (tE G W wd b')) : PE X (.BoolOp .Or (a :: b :: rest) pos) (tE G W wd (.orr a' b')) :=
  peW (pe_or ha hb) fun σ H Q ⟨B, ι, μ, ρ, er, hr, h⟩ => by
    simp only [ev] at h
    refine tE_then er hr h.bnd fun x μ1 v H1 ι1 g e1 hr1 rx _ => ?_
    split at g
    · refine ⟨true, rx.bl_inv, ?_⟩
      rw [if_pos rfl]
      exact g _ H1 ι1 e1 hr1 (.bl _) (fun z => by cases z)
    · refine ⟨false, rx.bl_inv, ?_⟩
      rw [if_neg Bool.false_ne_true]
      exact tE_then (er.mono e1) hr1 (g.mono (fun _ _ q => q) fun _ _ q => q.ext e1) fun y μ2 w H2 ι2 h2 e2 hr2 r2 _ => h2 w H2 ι2 (e1.trans e2) hr2 r2 (fun z => by cases z)
    · exact g.elim
/-- a last member of and, or -/
theorem s_one {op : BoolOp} {a : Expr} {a' : E} {pos : Pos} (ha : PE X a (tE G W wd a')) : PE X (.BoolOp op [a] pos) (tE G W wd a') := pe_one ha
/-! ### the same as tests -/
/-- an expression's truth -/
def tT (G : GI) (W : WX) (wd : Wd) (e : E) : TT := fun σ H Q => tE G W wd e σ H fun x H1 => ∃ k, x = .bl k ∧ Q k H1
theorem t_val {e : Expr} {e' : E} (h : PE X e (tE G W wd e')) (he : ∀ whole, isTrue e X.env whole = (do let v ← whole; standAt e.pos; holding [v] (truthy v))) : PT X e (tT G W wd e') := ptW (pt_val h he) fun _ _ _ q => q
theorem t_nt {a : Expr} {a' : E} {pos : Pos} (ha : PT X a (tT G W wd a')) : PT X (.UnaryOp .Not a pos) (tT G W wd (.nt a')) :=
  ptW (pt_not ha) fun σ H Q ⟨B, ι, μ, ρ, er, hr, h⟩ => by
    simp only [ev] at h
    refine tE_then er hr h.bnd fun x μ1 v H1 ι1 g e1 hr1 rx _ => ?_
    obtain ⟨z, hz, g⟩ := g.ok
    cases hx : blO x with
    | none => rw [hx] at hz; cases hz
    | some b =>
      rw [hx] at hz
      cases hz
      rw [blO_inv hx] at rx
      obtain ⟨k, e, q⟩ := g (.bl (!b)) H1 ι1 e1 hr1 (.bl _) (fun z => by cases z)
      cases e
      exact ⟨b, rx.bl_inv, q⟩
theorem t_an1 {a : Expr} {a' : E} {pos : Pos} (ha : PT X a (tT G W wd a')) : PW X (.BoolOp .And [a] pos) (tT G W wd a') := pw_and1 ha
theorem t_orr1 {a : Expr} {a' : E} {pos : Pos} (ha : PT X a (tT G W wd a')) : PW X (.BoolOp .Or [a] pos) (tT G W wd a') := pw_or1 ha
theorem pwW {e : Expr} {t t' : TT} (h : PW X e t) (k : ∀ σ H Q, t' σ H Q → t σ H Q) : PW X e t' := ⟨fun w pins s σ H Q I q => h.run w pins s σ H Q I (k σ H Q q)⟩
theorem t_an {a b : Expr} {rest : List Expr} {a' b' : E} {pos : Pos} (ha : PT X a (tT G W wd a')) (hb : PW X (.BoolOp .And (b :: rest) pos) (tT G W wd b')) : PW X (.BoolOp .And (a :: b :: rest) pos) (tT G W wd (.an a' b')) :=
  pwW (pw_and ha hb) fun σ H Q ⟨B, ι, μ, ρ, er, hr, h⟩ => by
    simp only [ev] at h
    refine tE_then er hr h.bnd fun x μ1 v H1 ι1 g e1 hr1 rx _ => ?_
    split at g
    · refine ⟨true, rx.bl_inv, ?_⟩
      dsimp only
      rw [if_pos rfl]
      exact tE_then (er.mono e1) hr1 (g.mono (fun _ _ q => q) fun _ _ q => q.ext e1) fun y μ2 w H2 ι2 h2 e2 hr2 r2 _ => h2 w H2 ι2 (e1.trans e2) hr2 r2 (fun z => by cases z)
    · refine ⟨false, rx.bl_inv, ?_⟩
      dsimp only
      rw [if_neg Bool.false_ne_true]
      obtain ⟨k, e, q⟩ := g (.bl false) H1 ι1 e1 hr1 (.bl _) (fun z => by cases z)
      cases e
      exact q
    · exact g.elim
theorem t_orr {a b : Expr} {rest : List Expr} {a' b' : E} {pos : Pos} (ha : PT X a (tT G W wd a')) (hb : PW X (.BoolOp .Or (b :: rest) pos) (tT G W wd b')) : PW X (.BoolOp .Or (a :: b :: rest) pos) (tT G W wd (.orr a' b')) :=
  pwW (pw_or ha hb) fun σ H Q ⟨B, ι, μ, ρ, er, hr, h⟩ => by
    simp only [ev] at h
    refine tE_then er hr h.bnd fun x μ1 v H1 ι1 g e1 hr1 rx _ => ?_
    split at g
    · refine ⟨true, rx.bl_inv, ?_⟩
      dsimp only
      rw [if_pos rfl]
      obtain ⟨k, e, q⟩ := g (.bl true) H1 ι1 e1 hr1 (.bl _) (fun z => by cases z)
      cases e
      exact q
    · refine ⟨false, rx.bl_inv, ?_⟩
      dsimp only
      rw [if_neg Bool.false_ne_true]
      exact tE_then (er.mono e1) hr1 (g.mono (fun _ _ q => q) fun _ _ q => q.ext e1) fun y μ2 w H2 ι2 h2 e2 hr2 r2 _ => h2 w H2 ι2 (e1.trans e2) hr2 r2 (fun z => by cases z)
    · exact g.elim
end
end MI
end
section
set_option Elab.async false
set_option linter.all false
set_option maxHeartbeats 4000000
/-! MI: comparisons. -/
namespace MI
open PySem PySem.Spec PyProof.Rows L2
open PySem.W (alike dataLt)
section
variable {G : GI} {B ι : List Addr} {H : Hp} {μ : Mem}
theorem rds_cons {look : Nat → Option MV} {x : MV} {xs ys : List MV} (h : MV.rds look (x :: xs) = some ys) : ∃ y zs, MV.rd look x = some y ∧ MV.rds look xs = some zs ∧ ys = y :: zs := by
  simp only [MV.rds] at h
  cases e : MV.rd look x with
  | none => rw [e] at h; cases h
  | some y =>
    rw [e] at h
    simp only [Option.bind_some] at h
    cases e2 : MV.rds look xs with
    | none => rw [e2] at h; cases h
    | some zs => rw [e2] at h; cases h; exact ⟨y, zs, rfl, rfl, rfl⟩
theorem toDs_cons {x : MV} {xs : List MV} {ds : List PyData} (h : MV.toDs (x :: xs) = some ds) : ∃ d es, MV.toD x = some d ∧ MV.toDs xs = some es ∧ ds = d :: es := by
  simp only [MV.toDs] at h
  cases e : MV.toD x with
  | none => rw [e] at h; cases h
  | some y =>
    rw [e] at h
    simp only [Option.bind_some] at h
    cases e2 : MV.toDs xs with
    | none => rw [e2] at h; cases h
    | some zs => rw [e2] at h; cases h; exact ⟨y, zs, rfl, rfl, rfl⟩
/-- a value read with its lists, as data of the heap -/
def RdOk (G : GI) (B ι : List Addr) (H : Hp) (look : Nat → Option MV) : Prop := ∀ n a y d, ι[n]? = some a → look n = some y → MV.toD y = some d → Dp G.K H (.ref a) d
mutual
theorem rd_dp {look : Nat → Option MV} (L : RdOk G B ι H look) : ∀ {x y : MV} {w : V} {d : PyData}, MV.rd look x = some y → MV.toD y = some d → RV G B ι H x w → Dp G.K H w d
  | .non, _, _, _, h, t, r => by simp only [MV.rd] at h; cases h; simp only [MV.toD] at t; cases t; cases r; exact .non
  | .bl b, _, _, _, h, t, r => by simp only [MV.rd] at h; cases h; simp only [MV.toD] at t; cases t; cases r; exact .bl b
  | .int i, _, _, _, h, t, r => by simp only [MV.rd] at h; cases h; simp only [MV.toD] at t; cases t; cases r; exact .int i
  | .str s, _, _, _, h, t, r => by simp only [MV.rd] at h; cases h; simp only [MV.toD] at t; cases t; cases r; exact .str s
  | .tup xs, y, _, d, h, t, r => by
    simp only [MV.rd] at h
    cases e : MV.rds look xs with
    | none => rw [e] at h; cases h
    | some ys =>
      rw [e] at h
      cases h
      simp only [MV.toD] at t
      cases e2 : MV.toDs ys with
      | none => rw [e2] at t; cases t
      | some ds =>
        rw [e2] at t
        cases t
        cases r with
        | tup h r => exact .tup h (rds_dp L e e2 r)
  | .lv xs, y, _, d, h, t, r => by
    simp only [MV.rd] at h
    cases e : MV.rds look xs with
    | none => rw [e] at h; cases h
    | some ys =>
      rw [e] at h
      cases h
      simp only [MV.toD] at t
      cases e2 : MV.toDs ys with
      | none => rw [e2] at t; cases t
      | some ds =>
        rw [e2] at t
        cases t
        cases r with
        | lv h _ _ r => exact .lst (SqL.of h) (rds_dp L e e2 r)
  | .fl xs, y, _, d, h, t, r => by
    simp only [MV.rd] at h
    cases e : MV.rds look xs with
    | none => rw [e] at h; cases h
    | some ys =>
      rw [e] at h
      cases h
      simp only [MV.toD] at t
      cases e2 : MV.toDs ys with
      | none => rw [e2] at t; cases t
      | some ds =>
        rw [e2] at t
        cases t
        cases r with
        | flH h _ r => exact .lst (.inl (.inr ⟨_, h⟩)) (rds_dp L e e2 r)
        | flK h r =>
          obtain ⟨h1, h2, h3, h4, h5, h6⟩ := h
          exact .lst (.inr ⟨_, _, _, h1, h2, h3, h4, h5, h6⟩) (rds_dp L e e2 r)
  | .loc n, y, _, d, h, t, r => by
    simp only [MV.rd] at h
    cases r with
    | loc hn => exact L n _ y d hn h t
  | .exo c x, y, _, d, h, t, r => by
    simp only [MV.rd] at h
    obtain ⟨y', e, rfl⟩ := Option.map_eq_some_iff.mp h
    simp [MV.toD] at t
  | .thk n, y, _, d, h, t, r => by simp only [MV.rd] at h; cases h; simp [MV.toD] at t
theorem rds_dp {look : Nat → Option MV} (L : RdOk G B ι H look) : ∀ {xs ys : List MV} {ws : List V} {ds : List PyData}, MV.rds look xs = some ys → MV.toDs ys = some ds → RVs G B ι H xs ws → DpAll G.K H ws ds
  | [], _, _, _, h, t, r => by simp only [MV.rds] at h; cases h; simp only [MV.toDs] at t; cases t; cases r; exact .nil
  | x :: xs, _, _, _, h, t, r => by
    obtain ⟨y, zs, h1, h2, rfl⟩ := rds_cons h
    obtain ⟨d, es, t1, t2, rfl⟩ := toDs_cons t
    cases r with
    | cons r1 r2 => exact .cons (rd_dp L h1 t1 r1) (rds_dp L h2 t2 r2)
end
theorem look_ok (hr : HR G B ι H μ) : ∀ k, RdOk G B ι H (look 0 μ k)
  | 0 => fun n a y d hn h t => by simp [look] at h
  | k + 1 => fun n a y d hn h t => by
    simp only [look, Nat.not_lt_zero, if_false] at h
    split at h
    · rename_i xs e
      cases e1 : MV.rds (look 0 μ k) xs with
      | none => rw [e1] at h; cases h
      | some ys =>
        rw [e1] at h
        cases h
        simp only [MV.toD] at t
        cases e2 : MV.toDs ys with
        | none => rw [e2] at t; cases t
        | some ds =>
          rw [e2] at t
          cases t
          have hl := (List.getElem?_eq_some_iff.mp e).1
          obtain ⟨b, hb, vs, q1, q2⟩ := hr.get e
          rw [hn] at hb
          cases hb
          exact .lst (SqL.of q1) (rds_dp (look_ok hr k) e1 e2 q2)
    · cases h
theorem dat_dp (hr : HR G B ι H μ) {v : MV} {w : V} {d : PyData} (h : dat μ v = some d) (r : RV G B ι H v w) : Dp G.K H w d ∧ SeqAt.shaped d = true := by
  unfold dat at h
  cases e : frz 0 μ v with
  | none => rw [e] at h; cases h
  | some y =>
    rw [e] at h
    simp only [Option.bind_some] at h
    cases e2 : MV.toD y with
    | none => rw [e2] at h; cases h
    | some d' =>
      rw [e2] at h
      simp only [Option.bind_some] at h
      split at h
      · rename_i hs
        cases h
        exact ⟨rd_dp (look_ok hr 6) e e2 r, hs⟩
      · cases h
end
/-! ### order -/
section
variable {X : Cx}
theorem noNone_ne {d : PyData} (h : noNone d = true) : d ≠ .none := fun e => by subst e; simp [noNone] at h
theorem ne_of_noNone {d : PyData} (h : d ≠ .none) : noNone d = true := by
  cases d with
  | none => exact absurd rfl h
  | _ => rfl
/-- two alike data -/
def rLtD (K : PySem.W.Frag) (g : PyData → PyData → Bool) : R2 := fun x y H Q => ∃ d e, Dp K H x d ∧ Dp K H y e ∧ alike d e = true ∧ d ≠ .none ∧ min d.depth e.depth ≤ 60 ∧ Q (.bl (g d e)) H
theorem op_ord {op : CmpOp} {g : PyData → PyData → Bool} (hu : X.A.units + 64 < cLine)
    (rule : ∀ {s : Shared} {a b : Value} {da db : PyData} {as bs : List Addr} {Q E : Value → Shared → Prop}, Reads s.heap a da as → Reads s.heap b db bs → alike da db = true → da ≠ .none → X.A.units + min da.depth db.depth < cLine → Q (.bool (g da db)) s → wpAny (model X.prog X.w) X.A (compareOp op a b) Q E s) :
    OpR X (compareOp op) (rLtD X.K g) := by
  intro pins s σ H x y v u Q I rx ry ⟨d, e, h1, h2, ha, hn, hd, q⟩
  obtain ⟨as, r1⟩ := Dp.reads I d x v h1 rx
  obtain ⟨bs, r2⟩ := Dp.reads I e y u h2 ry
  exact rule r1 r2 ha hn (by omega) ⟨.bl _, H, I, rfl, q⟩
/-- two ints or two alike data -/
def rOrd (K : PySem.W.Frag) (f : Int → Int → Bool) (g : PyData → PyData → Bool) : R2 := fun x y H Q => (∃ i j, x = .int i ∧ y = .int j ∧ Q (.bl (f i j)) H) ∨ rLtD K g x y H Q
theorem op_ltA (hu : X.A.units + 64 < cLine) : OpR X (compareOp .Lt) (rOrd X.K (fun i j => decide (i < j)) dataLt) := OpR.or op_lt (op_ord hu PySem.W.lt_data)
theorem op_gtA (hu : X.A.units + 64 < cLine) : OpR X (compareOp .Gt) (rOrd X.K (fun i j => decide (j < i)) fun d e => dataLt e d) := OpR.or op_gt (op_ord hu PySem.W.gt_data)
theorem op_leA (hu : X.A.units + 64 < cLine) : OpR X (compareOp .LtE) (rOrd X.K (fun i j => decide (i ≤ j)) fun d e => !dataLt e d) := OpR.or op_le (op_ord hu PySem.W.le_data)
theorem op_geA (hu : X.A.units + 64 < cLine) : OpR X (compareOp .GtE) (rOrd X.K (fun i j => decide (j ≤ i)) fun d e => !dataLt d e) := OpR.or op_ge (op_ord hu PySem.W.ge_data)
theorem notlt (i j : Int) : (!decide (j < i)) = decide (i ≤ j) := by
  by_cases h : j < i <;> simp [h] <;> omega
variable {G : GI} {B ι : List Addr} {H : Hp} {μ : Mem} {x y : MV} {v w : V} {Q : VK} {b : Bool}
theorem ltD_cases (h : ltD μ x y = some b) : (∃ i j, x = .int i ∧ y = .int j ∧ b = decide (i < j)) ∨ ∃ d e, dat μ x = some d ∧ dat μ y = some e ∧ alike d e = true ∧ d.depth ≤ 60 ∧ noNone d = true ∧ b = dataLt d e := by
  unfold ltD at h
  split at h
  · cases h; exact .inl ⟨_, _, rfl, rfl, rfl⟩
  · cases e1 : dat μ x with
    | none => rw [e1] at h; cases h
    | some d =>
      rw [e1] at h
      cases e2 : dat μ y with
      | none => rw [e2] at h; cases h
      | some e =>
        rw [e2] at h
        simp only [Option.bind_some] at h
        split at h
        · rename_i hc
          cases h
          exact .inr ⟨d, e, rfl, rfl, hc.1, hc.2.1, hc.2.2, rfl⟩
        · cases h
theorem ord_fwd {f : Int → Int → Bool} {g : PyData → PyData → Bool} {k : Bool → Bool} (hr : HR G B ι H μ) (rx : RV G B ι H x v) (ry : RV G B ι H y w) (h : ltD μ x y = some b) (hf : ∀ i j, f i j = k (decide (i < j))) (hg : ∀ d e, g d e = k (dataLt d e)) (q : Q (.bl (k b)) H) : rOrd G.K f g v w H Q := by
  rcases ltD_cases h with ⟨i, j, rfl, rfl, rfl⟩ | ⟨d, e, h1, h2, ha, hd, hn, rfl⟩
  · rw [rx.int_inv, ry.int_inv]
    exact .inl ⟨i, j, rfl, rfl, by rw [hf]; exact q⟩
  · exact .inr ⟨d, e, (dat_dp hr h1 rx).1, (dat_dp hr h2 ry).1, ha, noNone_ne hn, by omega, by rw [hg]; exact q⟩
theorem ord_bwd {f : Int → Int → Bool} {g : PyData → PyData → Bool} {k : Bool → Bool} (hr : HR G B ι H μ) (rx : RV G B ι H x v) (ry : RV G B ι H y w) (h : ltD μ y x = some b) (hf : ∀ i j, f i j = k (decide (j < i))) (hg : ∀ d e, g d e = k (dataLt e d)) (q : Q (.bl (k b)) H) : rOrd G.K f g v w H Q := by
  rcases ltD_cases h with ⟨i, j, rfl, rfl, rfl⟩ | ⟨d, e, h1, h2, ha, hd, hn, rfl⟩
  · rw [rx.int_inv, ry.int_inv]
    exact .inl ⟨j, i, rfl, rfl, by rw [hf]; exact q⟩
  · rw [PySem.W.alike_comm] at ha
    exact .inr ⟨e, d, (dat_dp hr h2 rx).1, (dat_dp hr h1 ry).1, ha, PySem.W.ne_none_both ((PySem.W.alike_comm _ _).trans ha) (noNone_ne hn), by omega, by rw [hg]; exact q⟩
/-! ### in -/
theorem flat_rv (h : flat x = true) (r : RV G B ι H x v) : flatV v = true := by
  cases r <;> simp_all [flat, flatV]
theorem eqF_rv {x y : MV} {v w : V} (rx : RV G B ι H x v) (ry : RV G B ι H y w) (hx : flat x = true) (hy : flat y = true) : eqV v w = eqF x y := by
  cases rx <;> simp only [flat, Bool.false_eq_true] at hx <;> cases ry <;> simp only [flat, Bool.false_eq_true] at hy <;> rfl
theorem flats_rv : ∀ {xs : List MV} {vs : List V}, RVs G B ι H xs vs → xs.all flat = true → vs.all flatV = true
  | _, _, .nil, _ => rfl
  | _, _, .cons h r, a => by
    simp only [List.all_cons, Bool.and_eq_true] at a ⊢
    exact ⟨flat_rv a.1 h, flats_rv r a.2⟩
theorem inV_rv {x : MV} {v : V} (rx : RV G B ι H x v) (hx : flat x = true) : ∀ {xs : List MV} {vs : List V}, RVs G B ι H xs vs → xs.all flat = true → inV v vs = xs.any fun y => eqF y x
  | _, _, .nil, _ => rfl
  | _, _, .cons h r, a => by
    simp only [List.all_cons, Bool.and_eq_true] at a
    have ih := inV_rv rx hx r a.2
    unfold inV at ih ⊢
    rw [List.any_cons, List.any_cons, ih, eqF_rv h rx a.1 hx]
theorem keyOf_rv {k : Key} (h : keyOf x = some k) (r : RV G B ι H x v) : v = kV k := by
  cases x <;> simp only [keyOf, reduceCtorEq, Option.some.injEq] at h
  · subst h; exact r.int_inv
  · subst h; exact r.str_inv
theorem getK_rv {k : Key} : ∀ {kvs : List (Key × MV)} {kws : List (Key × V)}, RKs G B ι H kvs kws → (∀ z, getK kvs k = some z → ∃ u, valV kws k = some u ∧ RV G B ι H z u) ∧ (getK kvs k).isSome = (valV kws k).isSome
  | _, _, .nil => ⟨fun z e => by simp [getK] at e, rfl⟩
  | _, _, .cons (k := k') (x := x) (v := u) h r => by
    have ih := getK_rv (k := k) r
    by_cases e : k' = k
    · subst e
      simp only [getK, valV, List.find?_cons, decide_true]
      exact ⟨fun z q => by cases q; exact ⟨u, rfl, h⟩, rfl⟩
    · simp only [getK, valV, List.find?_cons, e, decide_false] at ih ⊢
      exact ih
theorem dcOf_rv {kvs : List (Key × MV)} (hr : HR G B ι H μ) (h : dcOf μ x = some kvs) (r : RV G B ι H x v) : ∃ a kws, v = .ref a ∧ H a = some (.dK kws) ∧ RKs G B ι H kvs kws := by
  cases x with
  | loc k =>
    simp only [dcOf] at h
    split at h
    · rename_i e
      cases h
      obtain ⟨a, ha, kws, q1, q2⟩ := hr.get e
      cases r with
      | loc h =>
        rw [ha] at h
        cases h
        exact ⟨_, _, rfl, q1, q2⟩
    · cases h
  | _ => simp [dcOf] at h
end
end MI
end
section
set_option Elab.async false
set_option linter.all false
set_option maxHeartbeats 4000000
/-! MI: comparisons, items, parts. -/
namespace MI
open PySem PySem.Spec PyProof.Rows L2
open PySem.W (alike dataLt)
theorem Out.eq {α : Type} {r : R α} {good : α → Mem → Prop} {bad : Ex → Mem → Prop} (h : Out r good bad) : Out r (fun v μ => r = some (.ok v, μ) ∧ good v μ) bad := by
  match r, h with
  | some (.ok v, μ), h => exact ⟨rfl, h⟩
  | some (.error x, μ), h => exact h
def copOf : CmpOp → Option Cop
  | .Eq => some .eq
  | .NotEq => some .ne
  | .Lt => some .lt
  | .LtE => some .le
  | .Gt => some .gt
  | .GtE => some .ge
  | .In => some .isin
  | .NotIn => some .notin
  | .Is => some .isn
  | .IsNot => some .notn
section
variable {X : Cx} {G : GI} {W : WX} {wd : Wd}
def rInD (neg : Bool) : R2 := fun y x H Q => ∃ a o, x = .ref a ∧ DGet H a y o ∧ Q (.bl (if neg then !o.isSome else o.isSome)) H
theorem op_inD (hu : X.A.units + 64 < cLine) : OpR X (compareOp .In) (rInD false) := by
  intro pins s σ H x y v u Q I rx ry ⟨a, o, e, g, q⟩
  subst e
  obtain rfl : u = Value.ref a := ry
  exact d_in (by omega) I g rx fun s3 I3 => ⟨.bl o.isSome, H, I3, rfl, q⟩
theorem op_notinD (hu : X.A.units + 64 < cLine) : OpR X (compareOp .NotIn) (rInD true) := by
  intro pins s σ H x y v u Q I rx ry ⟨a, o, e, g, q⟩
  subst e
  obtain rfl : u = Value.ref a := ry
  exact d_notIn (by omega) I g rx fun s3 I3 => ⟨.bl (!o.isSome), H, I3, rfl, q⟩
/-- what a comparison asks -/
def rCmp (K : PySem.W.Frag) : Cop → R2
  | .eq => rEqD K
  | .ne => rNeD K
  | .lt => rOrd K (fun i j => decide (i < j)) dataLt
  | .gt => rOrd K (fun i j => decide (j < i)) fun d e => dataLt e d
  | .le => rOrd K (fun i j => decide (i ≤ j)) fun d e => !dataLt e d
  | .ge => rOrd K (fun i j => decide (j ≤ i)) fun d e => !dataLt d e
  | .isin => fun x y H Q => rIn K false x y H Q ∨ rInD false x y H Q
  | .notin => fun x y H Q => rIn K true x y H Q ∨ rInD true x y H Q
  | .isn => fun x y H Q => y = .non ∧ Q (.bl (decide (x = .non))) H
  | .notn => fun x y H Q => y = .non ∧ Q (.bl (!decide (x = .non))) H
theorem op_cmp {op : CmpOp} {o : Cop} (h : copOf op = some o) (hu : X.A.units + 64 < cLine) : OpR X (compareOp op) (rCmp X.K o) := by
  cases op <;> simp only [copOf, Option.some.injEq] at h <;> subst h
  · exact op_eqD hu
  · exact op_neD hu
  · exact op_ltA hu
  · exact op_leA hu
  · exact op_gtA hu
  · exact op_geA hu
  · exact op_isN
  · exact op_notN
  · exact OpR.or op_in_seq (op_inD hu)
  · exact OpR.or op_notIn_seq (op_notinD hu)
theorem isIn_ok {B ι : List Addr} {H : Hp} {μ : Mem} {x y : MV} {v w : V} {Q : VK} {b : Bool} {neg : Bool} (hr : HR G B ι H μ) (rx : RV G B ι H x v) (ry : RV G B ι H y w) (h : isIn μ x y = some b) (q : Q (.bl (if neg then !b else b)) H) : rIn G.K neg v w H Q ∨ rInD neg v w H Q := by
  unfold isIn at h
  split at h
  · rename_i ys e
    split at h
    · rename_i hc
      cases h
      obtain ⟨a, vs, rfl, hs, r, _⟩ := sqOf_rv hr e ry
      refine .inl ⟨a, vs, rfl, hs, flat_rv hc.1 rx, flats_rv r hc.2, ?_⟩
      rw [inV_rv rx hc.1 r hc.2]
      exact q
    · cases h
  · cases e : dcOf μ y with
    | none => rw [e] at h; cases h
    | some kvs =>
      rw [e] at h
      simp only [Option.bind_some] at h
      cases e2 : keyOf x with
      | none => rw [e2] at h; cases h
      | some k =>
        rw [e2] at h
        cases h
        obtain ⟨a, kws, rfl, h1, r⟩ := dcOf_rv hr e ry
        rw [keyOf_rv e2 rx]
        refine .inr ⟨a, _, rfl, DGet.k h1, ?_⟩
        dsimp only at q
        rw [(getK_rv r).2] at q
        exact q
theorem rv_non {B ι : List Addr} {H : Hp} {x : MV} {v : V} (r : RV G B ι H x v) : decide (v = .non) = decide (x = .non) := by
  cases r <;> simp
theorem evCmp_ok {B ι : List Addr} {H : Hp} {μ : Mem} {o : Cop} {x y : MV} {b : Bool} {v w : V} {Q : VK} (hr : HR G B ι H μ) (rx : RV G B ι H x v) (ry : RV G B ι H y w) (h : evCmp μ o x y = some b) (q : Q (.bl b) H) : rCmp G.K o v w H Q := by
  have two : ∀ {f : PyData → PyData → Bool}, ((dat μ x).bind fun d => (dat μ y).map fun e => f d e) = some b → ∃ d e, dat μ x = some d ∧ dat μ y = some e ∧ f d e = b := fun {f} h => by
    cases e1 : dat μ x with
    | none => rw [e1] at h; cases h
    | some d =>
      rw [e1] at h
      cases e2 : dat μ y with
      | none => rw [e2] at h; cases h
      | some e => rw [e2] at h; exact ⟨d, e, rfl, rfl, Option.some.inj h⟩
  cases o <;> simp only [evCmp] at h
  · obtain ⟨d, e, h1, h2, rfl⟩ := two h
    have p1 := dat_dp hr h1 rx
    have p2 := dat_dp hr h2 ry
    exact ⟨d, e, p1.1, p2.1, p1.2, p2.2, q⟩
  · obtain ⟨d, e, h1, h2, rfl⟩ := two h
    have p1 := dat_dp hr h1 rx
    have p2 := dat_dp hr h2 ry
    exact ⟨d, e, p1.1, p2.1, p1.2, p2.2, q⟩
  · exact ord_fwd (k := id) hr rx ry h (fun _ _ => rfl) (fun _ _ => rfl) q
  · obtain ⟨c, hc, rfl⟩ := Option.map_eq_some_iff.mp h
    exact ord_bwd (k := (!·)) hr rx ry hc (fun i j => (notlt i j).symm) (fun _ _ => rfl) q
  · exact ord_bwd (k := id) hr rx ry h (fun _ _ => rfl) (fun _ _ => rfl) q
  · obtain ⟨c, hc, rfl⟩ := Option.map_eq_some_iff.mp h
    exact ord_fwd (k := (!·)) hr rx ry hc (fun i j => (notlt j i).symm) (fun _ _ => rfl) q
  · exact isIn_ok (neg := false) hr rx ry h q
  · obtain ⟨c, hc, rfl⟩ := Option.map_eq_some_iff.mp h
    exact isIn_ok (neg := true) hr rx ry hc q
  · split at h
    · cases h
      exact ⟨ry.non_inv, by rw [rv_non rx]; exact q⟩
    · cases h
  · split at h
    · cases h
      exact ⟨ry.non_inv, by rw [rv_non rx]; exact q⟩
    · cases h
theorem s_cmp {op : CmpOp} {o : Cop} {a b : Expr} {a' b' : E} {pos : Pos} (hK : X.K = G.K) (hu : X.A.units + 64 < cLine) (ho : copOf op = some o) (hm : behindInMarks op b = false) (ha : PE X a (tE G W wd a')) (hb : PE X b (tE G W wd b')) : PE X (.Compare a [op] [b] pos) (tE G W wd (.cmp o a' b')) :=
  peW (pe_cmpR (op_cmp ho hu) ha hb hm) fun σ H Q ⟨B, ι, μ, ρ, er, hr, h⟩ => by
    simp only [ev] at h
    refine tOp_of er hr (h.bnd.mono (fun x μ1 q => q.bnd) fun _ _ q => q) fun x y μ2 v w H2 ι2 g e2 hr2 rx ry => ?_
    obtain ⟨z, hz, g⟩ := g.ok
    obtain ⟨b, hb, rfl⟩ := Option.map_eq_some_iff.mp hz
    rw [hK]
    exact evCmp_ok hr2 rx ry hb (g _ H2 ι2 e2 hr2 (.bl _) fun z => by cases z)
theorem t_cmp {op : CmpOp} {o : Cop} {a b : Expr} {a' b' : E} {pos : Pos} (hK : X.K = G.K) (hu : X.A.units + 64 < cLine) (ho : copOf op = some o) (hm : behindInMarks op b = false) (ha : PE X a (tE G W wd a')) (hb : PE X b (tE G W wd b')) : PT X (.Compare a [op] [b] pos) (tT G W wd (.cmp o a' b')) :=
  ptW (pt_cmpR (op_cmp ho hu) ha hb hm) fun σ H Q ⟨B, ι, μ, ρ, er, hr, h⟩ => by
    simp only [ev] at h
    refine tOp_of er hr (h.bnd.mono (fun x μ1 q => q.bnd) fun _ _ q => q) fun x y μ2 v w H2 ι2 g e2 hr2 rx ry => ?_
    obtain ⟨z, hz, g⟩ := g.ok
    obtain ⟨b, hb, rfl⟩ := Option.map_eq_some_iff.mp hz
    rw [hK]
    exact evCmp_ok hr2 rx ry hb (g _ H2 ι2 e2 hr2 (.bl _) fun z => by cases z)
/-- a < b < c -/
theorem chn_of {o p : Cop} {a b c : E} {σ : L2.St} {H : Hp} {Q : VK} (h : tE G W wd (.chn o p a b c) σ H Q) : tChain (rCmp G.K o) (rCmp G.K p) (tE G W wd a) (tE G W wd b) (tE G W wd c) σ H Q := by
  obtain ⟨B, ι, μ, ρ, er, hr, h⟩ := h
  simp only [ev] at h
  refine tE_then er hr h.bnd fun x μ1 v H1 ι1 h1 e1 hr1 r1 _ => ?_
  refine tE_then (er.mono e1) hr1 (h1.bnd.mono (fun _ _ q => q) fun _ _ q => q.ext e1) fun y μ2 w H2 ι2 h2 e2 hr2 r2 _ => ?_
  split at h2
  · rename_i hc
    refine evCmp_ok hr2 (r1.mono e2) r2 hc ⟨true, rfl, ?_⟩
    rw [if_pos rfl]
    refine tE_then (er.mono (e1.trans e2)) hr2 (h2.bnd.mono (fun _ _ q => q) fun _ _ q => q.ext (e1.trans e2)) fun z μ3 u H3 ι3 h3 e3 hr3 r3 _ => ?_
    obtain ⟨z, hz, g⟩ := h3.ok
    obtain ⟨b, hb, rfl⟩ := Option.map_eq_some_iff.mp hz
    exact evCmp_ok hr3 (r2.mono e3) r3 hb (g _ H3 ι3 ((e1.trans e2).trans e3) hr3 (.bl _) fun z => by cases z)
  · rename_i hc
    refine evCmp_ok hr2 (r1.mono e2) r2 hc ⟨false, rfl, ?_⟩
    rw [if_neg Bool.false_ne_true]
    exact h2 _ H2 ι2 (e1.trans e2) hr2 (.bl _) fun z => by cases z
  · exact h2.elim
theorem s_chn {op op' : CmpOp} {o p : Cop} {a b c : Expr} {a' b' c' : E} {pos : Pos} (hK : X.K = G.K) (hu : X.A.units + 64 < cLine) (ho : copOf op = some o) (hp : copOf op' = some p) (hm : lastMarks [op, op'] [b, c] = false)
    (ha : PE X a (tE G W wd a')) (hb : PE X b (tE G W wd b')) (hc : PE X c (tE G W wd c')) : PE X (.Compare a [op, op'] [b, c] pos) (tE G W wd (.chn o p a' b' c')) :=
  peW (pe_chain (op_cmp ho hu) (op_cmp hp hu) ha hb hc hm) fun σ H Q h => by rw [hK]; exact chn_of h
theorem t_chn {op op' : CmpOp} {o p : Cop} {a b c : Expr} {a' b' c' : E} {pos : Pos} (hK : X.K = G.K) (hu : X.A.units + 64 < cLine) (ho : copOf op = some o) (hp : copOf op' = some p) (hm : lastMarks [op, op'] [b, c] = false)
    (ha : PE X a (tE G W wd a')) (hb : PE X b (tE G W wd b')) (hc : PE X c (tE G W wd c')) : PT X (.Compare a [op, op'] [b, c] pos) (tT G W wd (.chn o p a' b' c')) :=
  ptW (pt_chain (op_cmp ho hu) (op_cmp hp hu) ha hb hc hm) fun σ H Q h => by rw [hK]; exact chn_of h
/-! ### items -/
theorem seq_item {B ι : List Addr} {H : Hp} {xs : List MV} {vs : List V} {i : Int} {z : MV} (r : RVs G B ι H xs vs) (h : L2.atI xs i = some z) : ∃ v, L2.atI vs i = some v ∧ RV G B ι H z v := by
  unfold L2.atI at h ⊢
  rw [← r.length]
  cases e : L2.ixN xs.length i with
  | none => rw [e] at h; cases h
  | some j =>
    rw [e] at h
    exact r.get h
theorem s_idx {a b : Expr} {a' b' : E} {pos : Pos} (hK : X.K = G.K) (hu : X.A.units + 64 < cLine) (hs : ∀ o i, subscripted b false o i = operate [o, i] (getItem o i)) (ha : PE X a (tE G W wd a')) (hb : PE X b (tE G W wd b')) : PE X (.Subscript a b pos) (tE G W wd (.idx a' b')) :=
  peW (peOr (pe_ix ix_seq ha hb hs) (pe_dget (by omega) ha hb hs)) fun σ H Q ⟨B, ι, μ, ρ, er, hr, h⟩ => by
    simp only [ev] at h
    by_cases P : ∃ x μ1 y μ2 kvs, ev wd a' ρ μ = some (.ok x, μ1) ∧ ev wd b' ρ μ1 = some (.ok y, μ2) ∧ dcOf μ2 x = some kvs
    · obtain ⟨x, μ1, y, μ2, kvs, h1, h2, h3⟩ := P
      refine .inr (tE_then er hr h.bnd.eq fun x' μ1' v H1 ι1 g e1 hr1 rx _ => ?_)
      obtain ⟨q1, g⟩ := g
      rw [h1] at q1
      cases q1
      refine tE_then (er.mono e1) hr1 (g.bnd.eq.mono (fun _ _ q => q) fun _ _ q => q.ext e1) fun y' μ2' w H2 ι2 g e2 hr2 ry _ => ?_
      obtain ⟨q2, g⟩ := g
      rw [h2] at q2
      cases q2
      obtain ⟨z, hz, g⟩ := g.ok
      obtain ⟨p, kws, rfl, hp, rk⟩ := dcOf_rv hr2 h3 (rx.mono e2)
      unfold evIdx at hz
      split at hz
      · simp [dcOf] at h3
      · rw [h3] at hz
        simp only at hz
        cases e3 : keyOf y with
        | none => rw [e3] at hz; cases hz
        | some k =>
          rw [e3] at hz
          simp only [Option.bind_some] at hz
          obtain ⟨u, hu', ru⟩ := (getK_rv (k := k) rk).1 z hz
          rw [keyOf_rv e3 ry]
          refine ⟨p, u, rfl, ?_, g u H2 ι2 (e1.trans e2) hr2 ru fun z => by cases z⟩
          rw [← hu']
          exact DGet.k hp
    · refine .inl (tE_then er hr h.bnd.eq fun x μ1 v H1 ι1 g e1 hr1 rx _ => ?_)
      obtain ⟨q1, g⟩ := g
      refine tE_then (er.mono e1) hr1 (g.bnd.eq.mono (fun _ _ q => q) fun _ _ q => q.ext e1) fun y μ2 w H2 ι2 g e2 hr2 ry _ => ?_
      obtain ⟨q2, g⟩ := g
      obtain ⟨z, hz, g'⟩ := g.ok
      have hd : dcOf μ2 x = none := by
        cases e : dcOf μ2 x with
        | none => rfl
        | some kvs => exact absurd ⟨x, μ1, y, μ2, kvs, q1, q2, e⟩ P
      have rx := rx.mono e2
      rw [hK]
      unfold evIdx at hz
      split at hz
      · split at hz
        · rename_i hl
          obtain ⟨c, hc, rfl⟩ := Option.map_eq_some_iff.mp hz
          rw [rx.str_inv, ry.int_inv]
          exact .inr (.inr ⟨_, _, c, rfl, rfl, most_le hl, hc, g' _ H2 ι2 (e1.trans e2) hr2 (.str _) fun z => by cases z⟩)
        · cases hz
      · rw [hd] at hz
        simp only at hz
        split at hz
        · rename_i i _ _
          cases e3 : sqOf μ2 x with
          | none => rw [e3] at hz; cases hz
          | some xs =>
            rw [e3] at hz
            simp only [Option.bind_some] at hz
            obtain ⟨p, vs, rfl, hs, r, _⟩ := sqOf_rv hr2 e3 rx
            obtain ⟨u, hu', ru⟩ := seq_item r hz
            rw [ry.int_inv]
            have fin := g' u H2 ι2 (e1.trans e2) hr2 ru fun z => by cases z
            rcases hs with hs | hs
            · exact .inl ⟨p, vs, _, u, rfl, rfl, hs, hu', fin⟩
            · exact .inr (.inl ⟨p, vs, _, u, rfl, rfl, hs, hu', fin⟩)
        · cases hz
/-! ### parts -/
/-- a bound of a part -/
def tO (G : GI) (W : WX) (wd : Wd) (hl : Bool) (e : E) : L2.TO := fun σ H Q => tE G W wd e σ H fun x H1 => if hl = true then ∃ i, x = .int i ∧ Q (some i) H1 else Q none H1
theorem o_none : PO X none (tO G W wd false (.con .non)) := ⟨fun pins s σ H Q I h => po_none.run pins s σ H Q I (by
  obtain ⟨B, ι, μ, ρ, er, hr, h⟩ := h
  have q := h .non H ι Ext.refl hr .non fun z => by cases z
  dsimp only at q
  rw [if_neg Bool.false_ne_true] at q
  exact q)⟩
theorem o_some {e : Expr} {e' : E} (h : PE X e (tE G W wd e')) : PO X (some e) (tO G W wd true e') := ⟨fun pins s σ H Q I q => (po_some h).run pins s σ H Q I (by
  obtain ⟨B, ι, μ, ρ, er, hr, q⟩ := q
  exact ⟨B, ι, μ, ρ, er, hr, q.mono (fun v μ1 g w H1 ι1 e1 hr1 r1 n => by
    have z := g w H1 ι1 e1 hr1 r1 n
    dsimp only at z
    rw [if_pos rfl] at z
    exact z) fun _ _ q => q⟩)⟩
def rSlc (K : PySem.W.Frag) : V → Option Int → Option Int → Hp → VK → Prop := fun x lo hi H Q => rSlL K x lo hi H Q ∨ rSlA K x lo hi H Q ∨ rSlS x lo hi H Q
theorem sl_any : SlR X (rSlc X.K) := sl_list.or (sl_tupA.or sl_str)
theorem evSlc_ok {B ι : List Addr} {H : Hp} {μ : Mem} {x z : MV} {lo hi : Option Int} {v : V} {Q : VK} (hr : HR G B ι H μ) (rx : RV G B ι H x v) (h : evSlc μ x lo hi = some z)
    (q : ∀ (u : V) (H' : Hp), Ext G.K ι H ι H' → HR G B ι H' μ → RV G B ι H' z u → New G B H ι H' μ true z u → Q u H') : rSlc G.K v lo hi H Q := by
  unfold evSlc at h
  split at h
  · cases h
    obtain ⟨a, vs, rfl, h1, r1⟩ := rx.tup_inv
    refine .inr (.inl ⟨a, vs, rfl, h1, fun hw => ?_, fun hw p hp => ?_⟩)
    · refine q _ _ Ext.refl hr (.tup h1 ?_) (fun _ xs e => by cases e)
      have r2 := r1.cutV lo hi
      have : L2.cutV vs lo hi = vs := by
        unfold L2.cutV
        rw [hw.1, hw.2, List.drop_zero, Nat.sub_zero, List.take_length]
      rw [this] at r2
      exact r2
    · exact q _ _ (Ext.push hp) (hr.pushO hp) (RV.newTup hp (r1.cutV lo hi)) (fun _ xs e => by cases e)
  · split at h
    · rename_i hl
      cases h
      rw [rx.str_inv]
      exact .inr (.inr ⟨_, rfl, most_le hl, q _ _ Ext.refl hr (.str _) (fun _ xs e => by cases e)⟩)
    · cases h
  · obtain ⟨xs, hx, rfl⟩ := Option.map_eq_some_iff.mp h
    obtain ⟨a, vs, rfl, h1, r1⟩ := lsOf_rv hr hx rx
    exact .inl ⟨a, vs, rfl, SqL.of h1, fun p hp => q _ _ (Ext.push hp) (hr.pushO hp) (RV.newLst hr hp (r1.cutV lo hi)) (New.lst hr hp (r1.cutV lo hi))⟩
theorem partO_rv {B ι : List Addr} {H : Hp} {hl : Bool} {l : MV} {w : V} {o : Option Int} {P : Option Int → Prop} (h : partO hl l = some o) (r : RV G B ι H l w) (k : P o) : if hl = true then ∃ i, w = .int i ∧ P (some i) else P none := by
  unfold partO at h
  cases hl with
  | true =>
    simp only [if_true] at h ⊢
    cases l <;> simp only [intO, Option.map_none, Option.map_some, reduceCtorEq, Option.some.injEq] at h
    subst h
    exact ⟨_, r.int_inv, k⟩
  | false =>
    simp only [Bool.false_eq_true, if_false, Option.some.injEq] at h ⊢
    subst h
    exact k
theorem s_slc {a : Expr} {lo hi : Option Expr} {a' lo' hi' : E} {hl hh : Bool} {pos p2 : Pos} (hK : X.K = G.K) (ha : PE X a (tE G W wd a')) (ho : PO X lo (tO G W wd hl lo')) (hu : PO X hi (tO G W wd hh hi')) : PE X (.Subscript a (.Slice lo hi none p2) pos) (tE G W wd (.slc a' hl lo' hh hi')) :=
  peW (pe_slice sl_any ha ho hu) fun σ H Q ⟨B, ι, μ, ρ, er, hr, h⟩ => by
    simp only [ev] at h
    refine tE_then er hr h.bnd fun x μ1 v H1 ι1 g e1 hr1 rx _ => ?_
    refine tE_then (er.mono e1) hr1 (g.bnd.mono (fun _ _ q => q) fun _ _ q => q.ext e1) fun l μ2 lv H2 ι2 g e2 hr2 rl _ => ?_
    split at g
    · rename_i lo hlo
      refine partO_rv (P := fun lo => tO G W wd hh hi' σ H2 fun u H3 => rSlc X.K v lo u H3 Q) hlo rl ?_
      refine tE_then (er.mono (e1.trans e2)) hr2 (g.bnd.mono (fun _ _ q => q) fun _ _ q => q.ext (e1.trans e2)) fun h μ3 hv H3 ι3 g e3 hr3 rh _ => ?_
      obtain ⟨z, hz, g⟩ := g.ok
      cases hhi : partO hh h with
      | none => rw [hhi] at hz; cases hz
      | some hi =>
        rw [hhi] at hz
        simp only [Option.bind_some] at hz
        refine partO_rv (P := fun hi => rSlc X.K v lo hi H3 Q) hhi rh ?_
        rw [hK]
        exact evSlc_ok hr3 ((rx.mono e2).mono e3) hz fun u H' e' hr' rz n => g u H' ι3 (((e1.trans e2).trans e3).trans e') hr' rz (n.ext ((e1.trans e2).trans e3))
    · exact g.elim
end
end MI
end
section
set_option Elab.async false
set_option linter.all false
set_option maxHeartbeats 4000000
/-! MI: calls of the text's own defs, displays. -/
namespace MI
open PySem PySem.Spec PyProof.Rows L2
section
variable {G : GI} {B ι t : List Addr} {H H' : Hp} {μ μ' : Mem}
/-! ### behind a call -/
mutual
theorem RV.lt {v : MV} {w : V} : RV G B ι H v w → v.lt ι.length = true
  | .non | .bl _ | .int _ | .str _ => rfl
  | .tup _ r => by simp only [MV.lt]; exact RVs.lt r
  | .lv _ _ _ r => by simp only [MV.lt]; exact RVs.lt r
  | .flH _ _ r => by simp only [MV.lt]; exact RVs.lt r
  | .flK _ r => by simp only [MV.lt]; exact RVs.lt r
  | .exo _ _ _ _ r => by simp only [MV.lt]; exact RV.lt r
  | .thk _ => rfl
  | .loc h => by simp only [MV.lt, decide_eq_true_eq]; exact (List.getElem?_eq_some_iff.mp h).1
theorem RVs.lt {v : List MV} {w : List V} : RVs G B ι H v w → MV.lts ι.length v = true
  | .nil => rfl
  | .cons h r => by simp only [MV.lts, Bool.and_eq_true]; exact ⟨RV.lt h, RVs.lt r⟩
end
theorem RKs.lt {v : List (Key × MV)} {w : List (Key × V)} (r : RKs G B ι H v w) : MV.lts ι.length (v.map (·.2)) = true := by
  induction r with
  | nil => rfl
  | cons h _ ih => simp only [List.map_cons, MV.lts, Bool.and_eq_true]; exact ⟨h.lt, ih⟩
theorem OR.lt {a : Addr} {o : MO} (r : OR G B ι H a o) : o.lt ι.length = true := by
  cases o with
  | lst xs => obtain ⟨_, _, r⟩ := r; exact r.lt
  | dic xs => obtain ⟨_, _, r⟩ := r; exact r.lt
mutual
theorem RV.cut {v : MV} {w : V} (hl : v.lt ι.length = true) : RV G B (ι ++ t) H v w → RV G B ι H v w
  | .non => .non
  | .bl b => .bl b
  | .int i => .int i
  | .str s => .str s
  | .tup q r => .tup q (RVs.cut (by simpa only [MV.lt] using hl) r)
  | .lv q nb ni r => .lv q nb (fun z => ni (List.mem_append_left _ z)) (RVs.cut (by simpa only [MV.lt] using hl) r)
  | .flH q ni r => .flH q (fun z => ni (List.mem_append_left _ z)) (RVs.cut (by simpa only [MV.lt] using hl) r)
  | .flK q r => .flK q (RVs.cut (by simpa only [MV.lt] using hl) r)
  | .exo q qd nb ni r => .exo q qd nb ⟨fun z => ni.1 (List.mem_append_left _ z), fun z => ni.2 (List.mem_append_left _ z)⟩ (RV.cut (by simpa only [MV.lt] using hl) r)
  | .thk a => .thk a
  | .loc q => .loc (by
      simp only [MV.lt, decide_eq_true_eq] at hl
      rw [List.getElem?_append_left hl] at q; exact q)
theorem RVs.cut {v : List MV} {w : List V} (hl : MV.lts ι.length v = true) : RVs G B (ι ++ t) H v w → RVs G B ι H v w
  | .nil => .nil
  | .cons h r => by
    simp only [MV.lts, Bool.and_eq_true] at hl
    exact .cons (RV.cut hl.1 h) (RVs.cut hl.2 r)
end
theorem RKs.cut {v : List (Key × MV)} {w : List (Key × V)} (hl : MV.lts ι.length (v.map (·.2)) = true) (r : RKs G B (ι ++ t) H v w) : RKs G B ι H v w := by
  induction r with
  | nil => exact .nil
  | cons h _ ih =>
    simp only [List.map_cons, MV.lts, Bool.and_eq_true] at hl
    exact .cons (h.cut hl.1) (ih hl.2)
theorem OR.cut {a : Addr} {o : MO} (hl : o.lt ι.length = true) (r : OR G B (ι ++ t) H a o) : OR G B ι H a o := by
  cases o with
  | lst xs => obtain ⟨vs, q, r⟩ := r; exact ⟨vs, q, r.cut hl⟩
  | dic xs => obtain ⟨vs, q, r⟩ := r; exact ⟨vs, q, r.cut hl⟩
theorem gcOk_at {n : Nat} : ∀ {μ ν : Mem}, gcOk n μ ν = true → μ.length = ν.length ∧ ∀ (m : Nat) (o o' : MO), μ[m]? = some o → ν[m]? = some o' → o = o' ∨ o'.lt n = true
  | [], [], _ => ⟨rfl, fun m o o' h => by simp at h⟩
  | [], _ :: _, h => by simp [gcOk] at h
  | _ :: _, [], h => by simp [gcOk] at h
  | o :: μ, o' :: ν, h => by
    simp only [gcOk, Bool.and_eq_true, Bool.or_eq_true, decide_eq_true_eq] at h
    have ih := gcOk_at h.2
    refine ⟨by simp [ih.1], fun m u u' h1 h2 => ?_⟩
    cases m with
    | zero => simp at h1 h2; subst h1 h2; exact h.1
    | succ m => exact ih.2 m u u' (by simpa using h1) (by simpa using h2)
theorem Ext.cut {K : PySem.W.Frag} (e : Ext K ι H (ι ++ t) H') : Ext K ι H ι H' := ⟨⟨[], by simp⟩, fun _ h => .inl h, e.tup, e.oth, e.thr⟩
theorem gc_hr (hr0 : HR G B ι H μ) (e : Ext G.K ι H (ι ++ t) H') (hr : HR G B (ι ++ t) H' μ') (h : gcOk μ.length μ (μ'.take μ.length) = true) : HR G B ι H' (μ'.take μ.length) := by
  have hg := gcOk_at h
  have hl : ι.length ≤ μ'.length := by rw [← hr.len, List.length_append]; omega
  refine ⟨by rw [List.length_take, ← hr0.len]; omega, (List.nodup_append.mp hr.nd).1, fun a ha => ⟨(hr.bu a ha).1, fun z => (hr.bu a ha).2 (List.mem_append_left _ z)⟩, hr.tb, hr0.ce.mono (Ext.cut e), fun p hp => ⟨(hr.co p hp).1, fun z => (hr.co p hp).2.1 (List.mem_append_left _ z), (hr.co p hp).2.2⟩, fun n a o h1 h2 => ?_⟩
  have hn := (List.getElem?_eq_some_iff.mp h1).1
  have h3 : μ'[n]? = some o := by
    rw [List.getElem?_take_of_lt (by rw [← hr0.len]; exact hn)] at h2
    exact h2
  have q := hr.ob n a o (by rw [List.getElem?_append_left hn]; exact h1) h3
  have hn2 : n < μ.length := by rw [← hr0.len]; exact hn
  rcases hg.2 n μ[n] o (List.getElem?_eq_getElem hn2) h2 with z | z
  · have q0 := hr0.ob n a _ h1 (List.getElem?_eq_getElem hn2)
    rw [z] at q0
    exact q.cut q0.lt
  · rw [← hr0.len] at z
    exact q.cut z
def LkOk (G : GI) (B ι t : List Addr) (H : Hp) (look : Nat → Option MV) : Prop := ∀ k a v, (ι ++ t)[k]? = some a → look k = some v → RV G B ι H v (.ref a)
mutual
theorem rd_rv {look : Nat → Option MV} (L : LkOk G B ι t H look) : ∀ {x y : MV} {w : V}, MV.rd look x = some y → RV G B (ι ++ t) H x w → RV G B ι H y w
  | .non, _, _, h, r => by simp only [MV.rd] at h; cases h; cases r; exact .non
  | .bl b, _, _, h, r => by simp only [MV.rd] at h; cases h; cases r; exact .bl b
  | .int i, _, _, h, r => by simp only [MV.rd] at h; cases h; cases r; exact .int i
  | .str s, _, _, h, r => by simp only [MV.rd] at h; cases h; cases r; exact .str s
  | .tup xs, y, _, h, r => by
    simp only [MV.rd] at h
    obtain ⟨ys, e, rfl⟩ := Option.map_eq_some_iff.mp h
    cases r with
    | tup h r => exact .tup h (rds_rv L e r)
  | .lv xs, y, _, h, r => by
    simp only [MV.rd] at h
    obtain ⟨ys, e, rfl⟩ := Option.map_eq_some_iff.mp h
    cases r with
    | lv h nb ni r => exact .lv h nb (fun z => ni (List.mem_append_left _ z)) (rds_rv L e r)
  | .fl xs, y, _, h, r => by
    simp only [MV.rd] at h
    obtain ⟨ys, e, rfl⟩ := Option.map_eq_some_iff.mp h
    cases r with
    | flH h ni r => exact .flH h (fun z => ni (List.mem_append_left _ z)) (rds_rv L e r)
    | flK h r => exact .flK h (rds_rv L e r)
  | .loc n, y, _, h, r => by
    simp only [MV.rd] at h
    cases r with
    | loc hn => exact L n _ y hn h
  | .exo c x, y, _, h, r => by
    simp only [MV.rd] at h
    obtain ⟨y', e, rfl⟩ := Option.map_eq_some_iff.mp h
    cases r with
    | exo q qd nb ni r => exact .exo q qd nb ⟨fun z => ni.1 (List.mem_append_left _ z), fun z => ni.2 (List.mem_append_left _ z)⟩ (rd_rv L e r)
  | .thk n, y, _, h, r => by simp only [MV.rd] at h; cases h; cases r; exact .thk _
theorem rds_rv {look : Nat → Option MV} (L : LkOk G B ι t H look) : ∀ {xs ys : List MV} {ws : List V}, MV.rds look xs = some ys → RVs G B (ι ++ t) H xs ws → RVs G B ι H ys ws
  | [], _, _, h, r => by simp only [MV.rds] at h; cases h; cases r; exact .nil
  | x :: xs, _, _, h, r => by
    obtain ⟨y, zs, h1, h2, rfl⟩ := rds_cons h
    cases r with
    | cons r1 r2 => exact .cons (rd_rv L h1 r1) (rds_rv L h2 r2)
end
theorem look_rv (hr : HR G B (ι ++ t) H μ') : ∀ d, LkOk G B ι t H (look ι.length μ' d)
  | 0 => fun k a v hk h => by
    simp only [look] at h
    split at h
    · rename_i hl
      cases h
      rw [List.getElem?_append_left hl] at hk
      exact .loc hk
    · cases h
  | d + 1 => fun k a v hk h => by
    simp only [look] at h
    split at h
    · rename_i hl
      cases h
      rw [List.getElem?_append_left hl] at hk
      exact .loc hk
    · rename_i hl
      split at h
      · rename_i xs e
        obtain ⟨ys, e1, rfl⟩ := Option.map_eq_some_iff.mp h
        obtain ⟨b, hb, vs, q1, q2⟩ := hr.get e
        rw [hk] at hb
        cases hb
        have hm : a ∈ t := by
          rw [List.getElem?_append_right (by omega)] at hk
          exact List.mem_of_getElem? hk
        exact .lv q1 (fun z => (hr.bu _ z).2 (List.mem_append_right _ hm)) (fun z => (List.nodup_append.mp hr.nd).2.2 _ z _ hm rfl) (rds_rv (look_rv hr d) e1 q2)
      · cases h
end
/-- the promise of a def, by what the interpreter tells of its calls -/
def spM (G : GI) (call : List MV → Mem → R MV) (np : Nat) : Sp := fun vs H Q E => vs.length = np ∧ ∃ B ι μ xs, HR G B ι H μ ∧ RVs G B ι H xs vs ∧
  Out (call xs μ) (fun v μ' => ∀ w H' ι', Ext G.K ι H ι' H' → HR G B ι' H' μ' → RV G B ι' H' v w → Q w H') (fun x μ' => ∀ cls d H' ι', Ext G.K ι H ι' H' → HR G B ι' H' μ' → RX G B ι' H' cls d x → E cls d H')
/-- behind a call, with its end -/
theorem gc_of {G : GI} {B ι : List Addr} {H : Hp} {μ : Mem} {r : R MV} {Q : VK} {E : XK} (hr : HR G B ι H μ) (h : Out (gc μ.length μ r) (fun v μ' => ∀ w H' ι', Ext G.K ι H ι' H' → HR G B ι' H' μ' → RV G B ι' H' v w → Q w H') (fun x μ' => ∀ cls d H' ι', Ext G.K ι H ι' H' → HR G B ι' H' μ' → RX G B ι' H' cls d x → E cls d H')) :
    Out r (fun v μ' => ∀ w H' ι', Ext G.K ι H ι' H' → HR G B ι' H' μ' → RV G B ι' H' v w → Q w H') (fun x μ' => ∀ cls d H' ι', Ext G.K ι H ι' H' → HR G B ι' H' μ' → RX G B ι' H' cls d x → E cls d H') := by
  match r, h with
  | some (.ok v, μ'), h =>
    intro w H' ι' e hr' rv
    obtain ⟨t, rfl⟩ := e.pre
    simp only [gc] at h
    split at h
    · rename_i hg
      cases hf : frz μ.length μ' v with
      | none => rw [hf] at h; exact h.elim
      | some y =>
        rw [hf] at h
        refine h w H' ι e.cut (gc_hr hr e hr' hg) ?_
        unfold frz at hf
        rw [← hr.len] at hf
        exact rd_rv (look_rv hr' 6) hf rv
    · exact h.elim
  | some (.error (c, x), μ'), h =>
    intro cls d H' ι' e hr' rx
    obtain ⟨t, rfl⟩ := e.pre
    simp only [gc] at h
    split at h
    · rename_i hg
      cases hf : frz μ.length μ' x with
      | none => rw [hf] at h; exact h.elim
      | some y =>
        rw [hf] at h
        obtain ⟨h1, da, w, h2, h3, h4⟩ := rx
        refine h cls d H' ι e.cut (gc_hr hr e hr' hg) ⟨h1, da, w, h2, h3, ?_⟩
        unfold frz at hf
        rw [← hr.len] at hf
        exact rd_rv (look_rv hr' 6) hf h4
    · exact h.elim
section
variable {X : Cx} {G : GI} {W : WX} {wd : Wd}
/-! ### argument lists -/
theorem s_anil : PA X [] (tEs G W wd .nil) := paW pa_nil fun σ H Q ⟨B, ι, μ, ρ, er, hr, h⟩ => by
  simp only [evs] at h
  exact h [] H ι Ext.refl hr .nil
theorem s_acons {e : Expr} {es : List Expr} {e' : E} {es' : ES} (he : PE X e (tE G W wd e')) (hes : PA X es (tEs G W wd es')) (hs : starEach (e :: es) X.env = (false, eval e X.env) :: starEach es X.env) : PA X (e :: es) (tEs G W wd (.cons e' es')) :=
  paW (pa_cons he hes hs) fun σ H Q ⟨B, ι, μ, ρ, er, hr, h⟩ => by
    simp only [evs] at h
    refine tE_then er hr h.bnd fun x μ1 v H1 ι1 g e1 hr1 rx _ => ?_
    refine tEs_then (er.mono e1) hr1 (g.bnd.mono (fun _ _ q => q) fun _ _ q => q.ext e1) fun xs μ2 vs H2 ι2 g e2 hr2 rs => ?_
    exact g (v :: vs) H2 ι2 (e1.trans e2) hr2 (.cons (rx.mono e2) rs)
theorem s_tup {es : List Expr} {es' : ES} {j : Nat} {pos : Pos} (h : PA X es (tEs G W wd es')) : PE X (.Tuple es j pos) (tE G W wd (.tup es')) :=
  peW (pe_tup h) fun σ H Q ⟨B, ι, μ, ρ, er, hr, h⟩ => by
    simp only [ev] at h
    refine tEs_then er hr h.bnd fun xs μ1 vs H1 ι1 g e1 hr1 rs => ?_
    split at g
    · rename_i hl
      refine ⟨by rw [← rs.length]; exact most_le hl, fun p hp => ?_⟩
      exact g _ _ ι1 (e1.trans (Ext.push hp)) (hr1.pushO hp) (RV.newTup hp rs) fun z => by cases z
    · exact g.elim
theorem s_lst {es : List Expr} {es' : ES} {pos : Pos} (h : PA X es (tEs G W wd es')) : PE X (.List es pos) (tE G W wd (.lst es')) :=
  peW (pe_lst h) fun σ H Q ⟨B, ι, μ, ρ, er, hr, h⟩ => by
    simp only [ev] at h
    refine tEs_then er hr h.bnd fun xs μ1 vs H1 ι1 g e1 hr1 rs => ?_
    split at g
    · rename_i hl
      refine ⟨by rw [← rs.length]; exact most_le hl, fun p hp => ?_⟩
      exact g _ _ ι1 (e1.trans (Ext.push hp)) (hr1.pushO hp) (RV.newLst hr1 hp rs) ((New.lst hr1 hp rs).ext e1)
    · exact g.elim
/-- a list that is to be changed has a place -/
theorem chg_of {e' : E} {σ : L2.St} {H : Hp} {Q : VK} (ha : al e' = true) (h : tE G W wd (.chg e') σ H Q) : tE G W wd e' σ H Q := by
    obtain ⟨B, ι, μ, ρ, er, hr, h⟩ := h
    simp only [ev] at h
    refine tE_then er hr h.bnd fun x μ1 v H1 ι1 g e1 hr1 rx n => ?_
    split at g
    · rename_i xs
      obtain ⟨a, vs, rfl, hn, ha1, hr2, rs⟩ := n ha _ rfl
      have hf : ∀ o ws, H1 a ≠ some (.frz o (.lst ws)) := fun o ws z => by rw [ha1] at z; cases z
      have nb : a ∉ B := hr.nw hn
      have r2 := rs.own hf
      refine g (.ref a) H1 (ι1 ++ [a]) ?_ (by
        exact hr2.own (o := .lst xs) hf nb ⟨vs, ha1, r2⟩) (.loc ?_) (fun z => by cases z)
      · refine ⟨?_, fun b hb => ?_, e1.tup, e1.oth, e1.thr⟩
        · obtain ⟨t, rfl⟩ := e1.pre
          exact ⟨t ++ [a], by simp⟩
        · rcases List.mem_append.mp hb with z | z
          · exact e1.fr b z
          · simp at z; subst z; exact .inr hn
      · rw [← hr1.len]; simp
    · exact g.elim
theorem s_chg {e : Expr} {e' : E} (ha : al e' = true) (h : PE X e (tE G W wd e')) : PE X e (tE G W wd (.chg e')) := peW h fun σ H Q z => chg_of ha z
/-- what is known of a def that may be called -/
structure FnA (X : Cx) (G : GI) (wd : Wd) (k : Nat) (x : Str) (f : Nat) (np : Nat) (ds : List MV) : Prop where
  ex : ∃ (fa : Addr) (fd : FuncData) (ps : List Str) (us : List Value) (dvs : List V), X.mg x = some (.ref fa) ∧ PySem.W.keepIn X.K (.ref fa) = true ∧ Binds X.K fd ps us ∧ Vals dvs us ∧ (∀ B ι H, RVs G B ι H ds dvs) ∧
    FnOk X.prog X.w X.K X.mg X.base (L2.CX X.prog X.w) k fa fd ps (spM G (wd.call f) np)
theorem app_of {keep : Bool} {f np : Nat} {es' : ES} {ds : List MV} {dvs : List V} {σ : L2.St} {H : Hp} {Q : VK} (hd : ∀ B ι H, RVs G B ι H ds dvs) (hl : ∀ xs μ, wd.call f xs μ ≠ none → xs.length = np) (h : tE G W wd (.app keep f es' ds) σ H Q) : tCallSD (spM G (wd.call f) np) dvs (WE W) (tEs G W wd es') σ H Q := by
  obtain ⟨B, ι, μ, ρ, er, hr, h⟩ := h
  simp only [ev] at h
  refine tEs_then er hr h.bnd fun xs μ1 vs H1 ι1 g e1 hr1 rs => ?_
  have rs2 := rs.append (hd B ι1 H1)
  have fin : Out (wd.call f (xs ++ ds) μ1) (fun v μ' => ∀ w H' ι', Ext G.K ι1 H1 ι' H' → HR G B ι' H' μ' → RV G B ι' H' v w → Q w H') (fun x μ' => ∀ cls d H' ι', Ext G.K ι1 H1 ι' H' → HR G B ι' H' μ' → RX G B ι' H' cls d x → WE W σ cls d H') := by
    cases keep with
    | true =>
      simp only [if_true] at g
      exact g.mono (fun v μ' q w H' ι' e' hr' rv => q w H' ι' (e1.trans e') hr' rv fun z => by cases z) fun x μ' q cls d H' ι' e' hr' rx => q cls d H' ι' (e1.trans e') hr' rx
    | false =>
      simp only [Bool.false_eq_true, if_false] at g
      exact gc_of hr1 (g.mono (fun v μ' q w H' ι' e' hr' rv => q w H' ι' (e1.trans e') hr' rv fun z => by cases z) fun x μ' q cls d H' ι' e' hr' rx => q cls d H' ι' (e1.trans e') hr' rx)
  refine ⟨?_, B, ι1, μ1, xs ++ ds, hr1, rs2, fin⟩
  rw [← rs2.length]
  refine hl _ μ1 fun z => ?_
  rw [z] at fin
  exact fin
theorem s_app {keep : Bool} {k f np : Nat} {x : Str} {e : Expr} {es : List Expr} {e' : ES} {ds : List MV} {p pos : Pos} (tk : Takes X W) (F : FnA X G wd k x f np ds) (hl : ∀ xs μ, wd.call f xs μ ≠ none → xs.length = np) (hr : Room k X.A) (hg : Gl X x) (ha : PA X (e :: es) (tEs G W wd e')) (hdb : (x == ("__debug__" : Str)) = false)
    (he : starEach (e :: es) X.env = (false, eval e X.env) :: starEach es X.env) (hpl : (backTo pos (starEach es X.env)).any (·.1) = false) : PE X (.Call (.Name x p) (e :: es) [] pos) (tE G W wd (.app keep f e' ds)) := by
  obtain ⟨fa, fd, ps, us, dvs, hm, hk, hb, hd, hds, F⟩ := F.ex
  exact peW (pe_callSD F hr hg hm hk hb hd (passAt tk) ha hdb he hpl) fun σ H Q h => app_of hds hl h
end
end MI
end
section
set_option Elab.async false
set_option linter.all false
set_option maxHeartbeats 4000000
/-! MI: built-in functions, methods, isinstance. -/
namespace MI
open PySem PySem.Spec PyProof.Rows L2
/-- a built-in f, by what evBi tells -/
def BiR (X : Cx) (G : GI) (f : Bi) (c : Value) : Prop := ∃ r : List V → Hp → VK → Prop, CallR X c r ∧ ∀ {B ι : List Addr} {H : Hp} {μ : Mem} {xs : List MV} {vs : List V} {z : MV} {Q : VK}, HR G B ι H μ → RVs G B ι H xs vs → evBi μ f xs = some z →
  (∀ (u : V) (H' : Hp), Ext G.K ι H ι H' → HR G B ι H' μ → RV G B ι H' z u → New G B H ι H' μ (al (.blt f .nil)) z u → Q u H') → r vs H Q
section
variable {X : Cx} {G : GI} {B ι : List Addr} {H : Hp} {μ : Mem}
theorem RVs.one {x : MV} {vs : List V} (r : RVs G B ι H [x] vs) : ∃ v, vs = [v] ∧ RV G B ι H x v := by
  cases r with
  | cons h r => cases r; exact ⟨_, rfl, h⟩
theorem RVs.two {x y : MV} {vs : List V} (r : RVs G B ι H [x, y] vs) : ∃ v w, vs = [v, w] ∧ RV G B ι H x v ∧ RV G B ι H y w := by
  cases r with
  | cons h r =>
    obtain ⟨w, rfl, q⟩ := r.one
    exact ⟨_, _, rfl, h, q⟩
theorem call_len_dk : CallR X (.builtin "len") (fun xs H Q => ∃ a kvs, xs = [.ref a] ∧ H a = some (.dK kvs) ∧ Q (.int kvs.length) H) := by
  intro pins s σ H xs us Q I r ⟨a, kvs, e, h, q⟩
  subst e
  obtain ⟨u, rfl, ru⟩ := vals1 r
  cases ru
  exact d_len I (.inl h) fun t s' I' => ⟨.int _, H, I', ⟨_, rfl⟩, q⟩
theorem RKs.length {kvs : List (Key × MV)} {kws : List (Key × V)} (r : RKs G B ι H kvs kws) : kvs.length = kws.length := by
  induction r with
  | nil => rfl
  | cons _ _ ih => simp [ih]
theorem b_len (hK : X.K = G.K) : BiR X G .len (.builtin "len") := by
  refine ⟨_, CallR.or call_len_str (CallR.or call_len_dk call_len_seq), fun {B ι H μ xs vs z Q} hr rs h q => ?_⟩
  have fin : ∀ n : Nat, z = .int n → Q (.int n) H := fun n e => by
    subst e
    exact q _ _ Ext.refl hr (.int _) fun z => by cases z
  unfold evBi at h
  split at h <;> try contradiction
  · obtain ⟨v, rfl, r⟩ := rs.one
    split at h
    · rename_i hl
      cases h
      rw [r.str_inv]
      exact .inl ⟨_, rfl, most_le hl, fin _ rfl⟩
    · cases h
  · obtain ⟨v, rfl, r⟩ := rs.one
    split at h
    · rename_i kvs e
      cases h
      obtain ⟨a, kws, rfl, h1, rk⟩ := dcOf_rv hr e r
      exact .inr (.inl ⟨a, kws, rfl, h1, by rw [← rk.length]; exact fin _ rfl⟩)
    · obtain ⟨ys, e, rfl⟩ := Option.map_eq_some_iff.mp h
      obtain ⟨a, ws, rfl, hs, r2, _⟩ := sqOf_rv hr e r
      exact .inr (.inr ⟨a, ws, rfl, by rw [hK]; exact hs, by rw [← r2.length]; exact fin _ rfl⟩)
theorem b_abs : BiR X G .abs (.builtin "abs") := by
  refine ⟨_, call_abs, fun {B ι H μ xs vs z Q} hr rs h q => ?_⟩
  unfold evBi at h
  split at h <;> try contradiction
  cases h
  obtain ⟨v, rfl, r⟩ := rs.one
  rw [r.int_inv]
  exact ⟨_, rfl, q _ _ Ext.refl hr (.int _) fun z => by cases z⟩
theorem b_min2 (hc : X.calm = true) : BiR X G .min2 (.builtin "min") := by
  refine ⟨_, call_min2 hc, fun {B ι H μ xs vs z Q} hr rs h q => ?_⟩
  unfold evBi at h
  split at h <;> try contradiction
  cases h
  obtain ⟨v, w, rfl, r1, r2⟩ := rs.two
  rw [r1.int_inv, r2.int_inv]
  exact ⟨_, _, rfl, q _ _ Ext.refl hr (.int _) fun z => by cases z⟩
theorem b_max2 (hc : X.calm = true) : BiR X G .max2 (.builtin "max") := by
  refine ⟨_, call_max2 hc, fun {B ι H μ xs vs z Q} hr rs h q => ?_⟩
  unfold evBi at h
  split at h <;> try contradiction
  cases h
  obtain ⟨v, w, rfl, r1, r2⟩ := rs.two
  rw [r1.int_inv, r2.int_inv]
  exact ⟨_, _, rfl, q _ _ Ext.refl hr (.int _) fun z => by cases z⟩
theorem b_int1 : BiR X G .int1 (.type "int") := by
  refine ⟨_, call_int1, fun {B ι H μ xs vs z Q} hr rs h q => ?_⟩
  unfold evBi at h
  split at h <;> try contradiction
  · cases h
    obtain ⟨v, rfl, r⟩ := rs.one
    rw [r.int_inv]
    exact .inl ⟨_, rfl, q _ _ Ext.refl hr (.int _) fun z => by cases z⟩
  · cases h
    obtain ⟨v, rfl, r⟩ := rs.one
    rw [r.bl_inv]
    exact .inr ⟨_, rfl, q _ _ Ext.refl hr (.int _) fun z => by cases z⟩
theorem b_tup1 (hK : X.K = G.K) : BiR X G .tup1 (.type "tuple") := by
  refine ⟨_, call_tuple_of, fun {B ι H μ xs vs z Q} hr rs h q => ?_⟩
  unfold evBi at h
  split at h <;> try contradiction
  rename_i x _
  obtain ⟨ys, e, rfl⟩ := Option.map_eq_some_iff.mp h
  obtain ⟨v, rfl, r⟩ := rs.one
  obtain ⟨a, ws, rfl, hs, r2, h3, h4⟩ := sqOf_rv hr e r
  rw [hK]
  refine ⟨a, ws, rfl, ?_⟩
  by_cases ht : ∃ us, x = .tup us
  · exact .inr ⟨h3 ht, q _ _ Ext.refl hr (.tup (h3 ht) r2) fun z => by cases z⟩
  · exact .inl ⟨h4 fun us e => ht ⟨us, e⟩, fun p hp => q _ _ (Ext.push hp) (hr.pushO hp) (RV.newTup hp r2) fun z => by cases z⟩
theorem b_lst1 (hK : X.K = G.K) : BiR X G .lst1 (.type "list") := by
  refine ⟨_, call_list_of, fun {B ι H μ xs vs z Q} hr rs h q => ?_⟩
  unfold evBi at h
  split at h <;> try contradiction
  obtain ⟨ys, e, rfl⟩ := Option.map_eq_some_iff.mp h
  obtain ⟨v, rfl, r⟩ := rs.one
  obtain ⟨a, ws, rfl, hs, r2, h3, h4⟩ := sqOf_rv hr e r
  rw [hK]
  exact ⟨a, ws, rfl, hs, fun p hp => q _ _ (Ext.push hp) (hr.pushO hp) (RV.newLst hr hp r2) (New.lst hr hp r2)⟩
theorem bools_rv : ∀ {xs : List MV} {vs : List V} {bs : List Bool}, RVs G B ι H xs vs → xs.mapM blO = some bs → vs = bs.map V.bl
  | [], _, bs, .nil, h => by simp at h; subst h; rfl
  | x :: xs, _, bs, .cons h r, e => by
    simp only [List.mapM_cons, Option.bind_eq_bind, Option.pure_def, Option.bind_eq_some_iff] at e
    obtain ⟨b, hb, cs, hc, e⟩ := e
    cases e
    have := blO_inv hb
    subst this
    rw [h.bl_inv, bools_rv r hc]
    rfl
theorem ints_rv : ∀ {xs : List MV} {vs : List V} {bs : List Int}, RVs G B ι H xs vs → xs.mapM intO = some bs → vs = bs.map V.int
  | [], _, bs, .nil, h => by simp at h; subst h; rfl
  | x :: xs, _, bs, .cons h r, e => by
    simp only [List.mapM_cons, Option.bind_eq_bind, Option.pure_def, Option.bind_eq_some_iff] at e
    obtain ⟨b, hb, cs, hc, e⟩ := e
    cases e
    cases x <;> simp only [intO, reduceCtorEq, Option.some.injEq] at hb
    subst hb
    rw [h.int_inv, ints_rv r hc]
    rfl
theorem b_all1 (hK : X.K = G.K) (hc : X.calm = true) : BiR X G .all1 (.builtin "all") := by
  refine ⟨_, cr_all hc, fun {B ι H μ xs vs z Q} hr rs h q => ?_⟩
  unfold evBi at h
  split at h <;> try contradiction
  obtain ⟨ys, e, h⟩ := Option.bind_eq_some_iff.mp h
  obtain ⟨bs, e2, rfl⟩ := Option.map_eq_some_iff.mp h
  obtain ⟨v, rfl, r⟩ := rs.one
  obtain ⟨a, ws, rfl, h1, r2⟩ := lsOf_rv hr e r
  have := bools_rv r2 e2
  subst this
  exact ⟨a, bs, rfl, SqL.of h1, q _ _ Ext.refl hr (.bl _) fun z => by cases z⟩
theorem b_any1 (hK : X.K = G.K) (hc : X.calm = true) : BiR X G .any1 (.builtin "any") := by
  refine ⟨_, cr_any hc, fun {B ι H μ xs vs z Q} hr rs h q => ?_⟩
  unfold evBi at h
  split at h <;> try contradiction
  obtain ⟨ys, e, h⟩ := Option.bind_eq_some_iff.mp h
  obtain ⟨bs, e2, rfl⟩ := Option.map_eq_some_iff.mp h
  obtain ⟨v, rfl, r⟩ := rs.one
  obtain ⟨a, ws, rfl, h1, r2⟩ := lsOf_rv hr e r
  have := bools_rv r2 e2
  subst this
  exact ⟨a, bs, rfl, SqL.of h1, q _ _ Ext.refl hr (.bl _) fun z => by cases z⟩
theorem b_sum1 (hK : X.K = G.K) (hc : X.calm = true) : BiR X G .sum1 (.builtin "sum") := by
  refine ⟨_, cr_sum hc, fun {B ι H μ xs vs z Q} hr rs h q => ?_⟩
  unfold evBi at h
  split at h <;> try contradiction
  obtain ⟨ys, e, h⟩ := Option.bind_eq_some_iff.mp h
  obtain ⟨bs, e2, rfl⟩ := Option.map_eq_some_iff.mp h
  obtain ⟨v, rfl, r⟩ := rs.one
  obtain ⟨a, ws, rfl, h1, r2⟩ := lsOf_rv hr e r
  have := ints_rv r2 e2
  subst this
  exact ⟨a, bs, rfl, SqL.of h1, q _ _ Ext.refl hr (.int _) fun z => by cases z⟩
end
section
variable {X : Cx} {G : GI} {W : WX} {wd : Wd}
theorem blt_of {f : Bi} {e' : ES} {r : List V → Hp → VK → Prop} {σ : L2.St} {H : Hp} {Q : VK}
    (hb : ∀ {B ι : List Addr} {H : Hp} {μ : Mem} {xs : List MV} {vs : List V} {z : MV} {Q : VK}, HR G B ι H μ → RVs G B ι H xs vs → evBi μ f xs = some z →
      (∀ (u : V) (H' : Hp), Ext G.K ι H ι H' → HR G B ι H' μ → RV G B ι H' z u → New G B H ι H' μ (al (.blt f .nil)) z u → Q u H') → r vs H Q)
    (h : tE G W wd (.blt f e') σ H Q) : tCB r (tEs G W wd e') σ H Q := by
  obtain ⟨B, ι, μ, ρ, er, hr, h⟩ := h
  simp only [ev] at h
  refine tEs_then er hr h.bnd fun xs μ1 vs H1 ι1 g e1 hr1 rs => ?_
  obtain ⟨z, hz, g⟩ := g.ok
  refine hb hr1 rs hz fun u H' e' hr' rz n => g u H' ι1 (e1.trans e') hr' rz ?_
  have e : al (.blt f .nil) = al (.blt f ‹ES›) := by cases f <;> rfl
  rw [e] at n
  exact n.ext e1
theorem s_bltB {f : Bi} {id : String} {x : Str} {e : Expr} {es : List Expr} {e' : ES} {p pos : Pos} (hb : BiR X G f (.builtin id)) (hg : Gl X x) (hm : X.mg x = none) (hv : bootBuiltins x = some (.builtin id)) (ha : PA X (e :: es) (tEs G W wd e')) (hn : x ≠ "__name__") (hdb : (x == ("__debug__" : Str)) = false)
    (he : starEach (e :: es) X.env = (false, eval e X.env) :: starEach es X.env) (hpl : (backTo pos (starEach es X.env)).any (·.1) = false) : PE X (.Call (.Name x p) (e :: es) [] pos) (tE G W wd (.blt f e')) := by
  obtain ⟨r, hc, hb⟩ := hb
  exact peW (pe_callB hc hg hm hv ha hn hdb he hpl) fun σ H Q h => blt_of hb h
theorem s_bltT {f : Bi} {id : String} {x : Str} {e : Expr} {es : List Expr} {e' : ES} {p pos : Pos} (hb : BiR X G f (.type id)) (hg : Gl X x) (hm : X.mg x = none) (hv : bootBuiltins x = some (.type id)) (ha : PA X (e :: es) (tEs G W wd e')) (hn : x ≠ "__name__") (hdb : (x == ("__debug__" : Str)) = false)
    (he : starEach (e :: es) X.env = (false, eval e X.env) :: starEach es X.env) (hpl : (backTo pos (starEach es X.env)).any (·.1) = false) : PE X (.Call (.Name x p) (e :: es) [] pos) (tE G W wd (.blt f e')) := by
  obtain ⟨r, hc, hb⟩ := hb
  exact peW (pe_callTy hc hg hm hv ha hn hdb he hpl) fun σ H Q h => blt_of hb h
end
end MI
end
section
set_option Elab.async false
set_option linter.all false
set_option maxHeartbeats 4000000
/-! MI: enumerate of a tuple, walked. -/
namespace MI
open PySem PySem.Spec PyProof.Rows L2
set_option maxHeartbeats 1000000 in
theorem newEnum {v : Value} {o : Obj} {Hd : Heap → Prop} (B : Begins v o Hd) :
    Meets (Builtin.«enumerate.__new__» ⟨[.type "enumerate", v], []⟩) (fun _ R s => Hd s.heap ∧ R (.ok (.ret (.ref (s.heap.push o).objs.size)))
      { s with heap := (s.heap.push o).push { cls := .type "enumerate", data := .fields #[.none, .bool false, .ref s.heap.objs.size, rawInt 0, .none, .none] } }) :=
  .of_wp fun prog w A R s z => by
    obtain ⟨hp, g, d, tk, os⟩ := s; obtain ⟨z1, z⟩ := z
    have hs := sub_enumerate
    have q1 : ∀ {A' : Around} {E Q : Value → Shared → Prop}, Q (.ref hp.objs.size) ⟨hp.push o, g, d, tk, os⟩ → wpAny (model prog w) A' (pyIter v) Q E ⟨hp, g, d, tk, os⟩ :=
      fun q => B.iter prog w _ _ ⟨hp, g, d, tk, os⟩ _ z1 q
    wp_walk using q1
    refine wpAny_stack_any fun st => wpAny_pure ?_
    split
    · rename_i c _ _ _ _ _
      cases (c == Value.type "enumerate") <;> (wp_walk using q1; exact ⟨_, rfl, z⟩)
    · wp_walk using q1
      exact ⟨_, rfl, z⟩
theorem newEnumT {prog : Program} {w : World} {A : Around} {E : Value → Shared → Prop} {s : Shared} {l : Addr} {items : Array Value} {Q : Value → Shared → Prop} (hL : s.heap.IsTuple l items)
    (h : ∀ h', IsEnum h' (s.heap.objs.size + 1) s.heap.objs.size 0 .none → h'.IsTupleIter s.heap.objs.size l 0 → (∀ b o, s.heap.get? b = some o → h'.get? b = some o) → Q (.ref (s.heap.objs.size + 1)) { s with heap := h' }) :
    wpAny (model prog w) A (call (.type "enumerate") [.ref l]) Q E s := by
  refine callType_new F.called_enumerate (by decide) (F.typeCall_enumerate_1 _) (F.newCall_enumerate_1 _) (fun obj => F.args_object_init_2 obj _) F.entry_enumerate_new (newEnum (begins_tuple l items)) ⟨hL, ?_⟩
  have hz : (s.heap.push { cls := .type "tuple_iterator", data := .fields #[.ref l, .int 0 0] }).objs.size = s.heap.objs.size + 1 := Heap.size_push ..
  rw [hz]
  have he := Heap.get?_push_size (s.heap.push { cls := .type "tuple_iterator", data := .fields #[.ref l, .int 0 0] }) (o := { cls := .type "enumerate", data := .fields #[.none, .bool false, .ref s.heap.objs.size, rawInt 0, .none, .none] }) rfl
  rw [hz] at he
  exact ⟨⟨_, he, rfl⟩, h _ he ⟨_, Heap.get?_push_of_some _ (Heap.get?_push_size _ rfl), rfl, rfl⟩ fun b o x => Heap.get?_push_of_some _ (Heap.get?_push_of_some _ x)⟩
/-- the tuple at a, each of its items in a pair -/
def IteT (K : PySem.W.Frag) (a : Addr) : L2.It :=
  ⟨fun i H => ∃ (xs : List V) (x : V), SqT K H a xs ∧ xs[i]? = some x, fun i H v H' => ∃ T x, v = .ref T ∧ H T = none ∧ H' = upd H T (.tup [.int (i : Nat), x]) ∧ ∀ xs, SqT K H a xs → xs[i]? = some x, fun i H => ∃ xs : List V, SqT K H a xs ∧ xs.length ≤ i⟩
theorem turn_enumT {P : Program} {w : World} {K : PySem.W.Frag} {elts : List Expr} {kk : Nat} {tpos : Pos} (a e it : Addr) :
    Turn P w K (.Tuple elts kk tpos) (IteT K a) [e, it] e (fun i h => (∃ old, IsEnum h e it ((i : Nat) : Int) old) ∧ h.IsTupleIter it a i ∧ e ≠ it ∧ a ≠ it) where
  mem := by simp
  obj := fun i h st b hb => by
    obtain ⟨⟨old, he⟩, ⟨o, ho, hc, hd⟩, _⟩ := st
    have z : b = e ∨ b = it := by simpa using hb
    rcases z with rfl | rfl
    · exact ⟨_, he, fun v q => nomatch q⟩
    · exact ⟨o, ho, fun v q => by rw [hd] at q; cases q⟩
  keep := fun i h h' ⟨⟨old, he⟩, hi, hne⟩ k => ⟨⟨old, k e (by simp) _ he⟩, hi.at fun o q => k it (by simp) o q, hne⟩
  item := by
    intro X hP hw hK hc i pins s σ H E I hf st hg
    subst hP hw hK
    obtain ⟨⟨old, he⟩, hit, hne, hat⟩ := st
    obtain ⟨xs, x, hq, hx⟩ := hg
    obtain ⟨its, rv, p, hz⟩ := I.tuple hq
    obtain ⟨u, hu, ru⟩ := rv.get hx
    have p' : s.heap.IsTuple a its.toArray := p
    have hel : e < s.heap.objs.size := Heap.lt_size he
    have hil : it < s.heap.objs.size := by obtain ⟨_, q, _⟩ := hit; exact Heap.lt_size q
    have hea : e ≠ a := fun z => by
      subst z
      obtain ⟨o, ho, hc, n, hd⟩ := p'
      have he' : s.heap.get? e = some _ := he
      rw [ho] at he'
      cases he'
      cases hd
    have D := Draws.tuple (prog := X.prog) (w := X.w) (A := X.A.in1) (I.ok.hd hc) it a hat its.toArray
    refine wpAny_pyNext_enum_itemD (i := i) D he ⟨hit, p'⟩ (by have := (List.getElem?_eq_some_iff.mp hu).1; simpa using this) hne (by simp [hne, hea]) fun y h' tk hP ho st' hT hsz hk => ?_
    have hy : y = u := by
      have : its[i]? = some y := by simpa using hP
      rw [hu] at this
      exact (Option.some.inj this).symm
    subst hy
    refine ⟨_, rfl, wpAny_letOwnedTupleGo_enum (s := { s with heap := h', toks := tk + 1 }) ho fun h'' he' sb => ?_⟩
    have hT2 := (sb.2 _ (Nat.ne_of_gt hel)).trans hT
    have new : ObjOk X.prog X.w (upd H s.heap.objs.size (.tup [.int (i : Nat), x])) h'' s.heap.objs.size (.tup [.int (i : Nat), x]) :=
      ⟨by show 2 ≤ sizeLine; decide, [.int i tk, y], .cons ⟨_, rfl⟩ (.cons ru .nil), ⟨_, hT2, rfl, _, rfl⟩⟩
    have I1 : Inv X pins σ (upd H s.heap.objs.size (.tup [.int (i : Nat), x])) { s with heap := h'', toks := tk + 1 } :=
      I.turnedNew (ch := [e, it]) (fun b ob hb q => (sb.2 b (fun z => hb (by simp [z]))).trans (hk b ob (fun z => hb (by simp [z])) (fun z => hb (by simp [z])) q)) hf (Nat.le_refl _) new
    refine ⟨.ref s.heap.objs.size, _, I1, rfl, ⟨_, x, rfl, I.hok.fresh (Nat.le_refl _), rfl, fun ys hy => by rw [I.tuple_inj hy hq]; exact hx⟩, ⟨⟨y, ?_⟩, st'.1.at fun o q => (sb.2 it (Ne.symm hne)).trans q, hne, hat⟩, fun b hb => ?_⟩
    · have e1 : ((i + 1 : Nat) : Int) = (i : Int) + 1 := by omega
      rw [e1]; exact he'
    · have z : b = e ∨ b = it := by simpa using hb
      have hb' : b < s.heap.objs.size := by
        rcases z with rfl | rfl
        · exact hel
        · exact hil
      rw [upd_ne (Nat.ne_of_lt hb')]
      exact (hf b hb).1
  done := by
    intro X hP hw hK hc i pins s σ H E I hf st hg
    subst hP hw hK
    obtain ⟨⟨old, he⟩, hit, hne, hat⟩ := st
    obtain ⟨xs, hq, hx⟩ := hg
    obtain ⟨its, rv, p, hz⟩ := I.tuple hq
    have p' : s.heap.IsTuple a its.toArray := p
    obtain ⟨f0, f1, f2, f3, f4, f5⟩ := hf it (by simp)
    have hl := rv.length
    have hh := I.ok.hd hc
    have hT : s.TypeIs (.ref e) "enumerate" := ⟨_, he, rfl⟩
    unfold pyNext
    refine wpAny_bind (wpAny_attempt (wpAny_callSpecial?_slot (name := Str.ofString "__next__") hT F.slot_enumerate_next (wpAny_call_entry F.slot_enumerate_next hT F.entry_enumerate_next ?_ (F.args_enumerate_next_1 _))))
    show wpAny _ _ (field (.ref e) 2 >>= _) _ _ _
    refine wpAny_bind (wpAny_field he rfl (x := .ref it) rfl ?_)
    refine wpAny_bind (wpAny_nextOf_tuple_end (A := X.A.in1) hh hit p' (by simp; omega) fun h' x he' hx' => ?_)
    obtain ⟨o, ho, hcl⟩ := hx'
    refine wpAny_bind (wpAny_isInstance (T := "StopIteration") (b := true) ⟨o, ho, hcl⟩ isSubtype_stop ?_)
    exact wpAny_pure ⟨rfl, I.turned (t' := s.toks) (fun b o hb q => he' b o hb q) f0 f1 f3 f4 f5⟩
  self := fun A i s Q E st h => let ⟨⟨_, he⟩, _⟩ := st; wpAny_pyIter_enum he h
def iEnumT (K : PySem.W.Frag) (ta : TA) : TI := fun σ H R => ta σ H fun vs H1 => ∃ a xs, vs = [.ref a] ∧ SqT K H1 a xs ∧ R (IteT K a) H1
theorem pi_enumT {X : Cx} {e : Expr} {ta : TA} {p pos tpos : Pos} {elts : List Expr} {kk : Nat} (hg : Gl X "enumerate") (hm : X.mg "enumerate" = none) (ha : PA X [e] ta) (hs : starEach [e] X.env = [(false, eval e X.env)]) :
    PI X (.Tuple elts kk tpos) (.Call (.Name "enumerate" p) [e] [] pos) (iEnumT X.K ta) := by
  refine ⟨fun pins s σ H R I h => ?_⟩
  refine Call_ (ld_blt I hg hm boot_enumerate (PyProof.Rows.callWith_type1 (thn (ha.run pos pins s σ H _ I h) fun us s1 ⟨vs, H1, I1, r1, q1⟩ => ?_) hs rfl))
  obtain ⟨a, xs, ex, hq, q⟩ := q1
  subst ex
  cases r1 with
  | cons r rr =>
    cases rr
    cases r
    obtain ⟨its, rv, p', hz⟩ := I1.tuple hq
    have pt : s1.heap.IsTuple a its.toArray := p'
    have hlt : a < s1.heap.objs.size := by obtain ⟨o, ho, _⟩ := pt; exact Heap.lt_size ho
    refine newEnumT pt fun h' he hit hk => wpAny_pyIter_enum he ?_
    have I2 : Inv X pins σ H1 { s1 with heap := h' } := I1.kept (t' := s1.toks) hk
    refine ⟨s1.heap.objs.size + 1, [s1.heap.objs.size + 1, s1.heap.objs.size], _, _, H1, rfl, I2, turn_enumT a (s1.heap.objs.size + 1) s1.heap.objs.size, ⟨⟨.none, he⟩, hit, Nat.succ_ne_self _, Nat.ne_of_lt hlt⟩, fun b hb => ?_, q⟩
    have z : b = s1.heap.objs.size + 1 ∨ b = s1.heap.objs.size := by simpa using hb
    have hle : s1.heap.objs.size ≤ b := by
      rcases z with rfl | rfl
      · exact Nat.le_add_right _ _
      · exact Nat.le_refl _
    exact I1.fpOk hle (I1.hok.fresh hle)
end MI
end
section
set_option Elab.async false
set_option linter.all false
set_option maxHeartbeats 4000000
/-! MI: what is walked. -/
namespace MI
open PySem PySem.Spec PyProof.Rows L2
/-- what was told stays told -/
def Fut (G : GI) (B ι : List Addr) (H : Hp) (B' ι' : List Addr) (H' : Hp) : Prop := ∀ v w, RV G B ι H v w → RV G B' ι' H' v w
theorem Fut.refl {G : GI} {B ι : List Addr} {H : Hp} : Fut G B ι H B ι H := fun _ _ r => r
theorem Fut.trans {G : GI} {B ι B1 ι1 B2 ι2 : List Addr} {H H1 H2 : Hp} (a : Fut G B ι H B1 ι1 H1) (b : Fut G B1 ι1 H1 B2 ι2 H2) : Fut G B ι H B2 ι2 H2 := fun _ _ r => b _ _ (a _ _ r)
theorem Fut.ext {G : GI} {B ι ι' : List Addr} {H H' : Hp} (e : Ext G.K ι H ι' H') : Fut G B ι H B ι' H' := fun _ _ r => r.mono e
/-- the walk J gives the things of p, one by one -/
def Wk (G : GI) (B ι : List Addr) (H : Hp) (J : L2.It) (p : Items) : Prop := ∃ (Gd : Hp → Prop) (Y : Nat → Hp → V → Hp → Prop), Walk J p.1.length Gd Y ∧
  ∀ (B' ι' : List Addr) (H' : Hp) (μ' : Mem), Fut G B ι H B' ι' H' → HR G B' ι' H' μ' → gdOk μ' p.2 = true → Gd H' ∧
    ∀ (i : Nat) (x : V) (H'' : Hp), i < p.1.length → Y i H' x H'' → ∃ v, p.1[i]? = some v ∧ Ext G.K ι' H' ι' H'' ∧ HR G B' ι' H'' μ' ∧ RV G B' ι' H'' v x
def tI (G : GI) (W : WX) (wd : Wd) (it : It) : TI := fun σ H R => ∃ B ι μ ρ, ER G B ι H ρ σ ∧ HR G B ι H μ ∧
  Out (evIt wd it ρ μ) (fun p μ1 => ∀ J H1 ι1, Ext G.K ι H ι1 H1 → HR G B ι1 H1 μ1 → Wk G B ι1 H1 J p → R J H1) (Bad G B ι H W σ)
theorem piW {X : Cx} {tg e : Expr} {t t' : TI} (h : PI X tg e t) (k : ∀ σ H R, t' σ H R → t σ H R) : PI X tg e t' := ⟨fun pins s σ H R I q => h.run pins s σ H R I (k σ H R q)⟩
theorem piOr {X : Cx} {tg e : Expr} {t t' : TI} (h : PI X tg e t) (h' : PI X tg e t') : PI X tg e (fun σ H R => t σ H R ∨ t' σ H R) := ⟨fun pins s σ H R I q => q.elim (h.run pins s σ H R I) (h'.run pins s σ H R I)⟩
section
variable {G : GI} {B ι : List Addr} {H : Hp} {μ : Mem}
/-- a thing that can be walked still holds the same -/
theorem sq_stays {v : MV} {xs : List MV} {μ' : Mem} (h : sqOf μ v = some xs) (g : gdOk μ' (gdOf v xs) = true) : sqOf μ' v = some xs := by
  cases v with
  | loc k =>
    simp only [gdOf, gdOk, List.all_cons, List.all_nil, Bool.and_true, decide_eq_true_eq] at g
    simp only [sqOf, g]
  | _ => simpa [sqOf] using h
theorem wk_list {v : MV} {xs : List MV} {a : Addr} (h : sqOf μ v = some xs) (nt : ∀ ys, v ≠ .tup ys) (r : RV G B ι H v (.ref a)) : Wk G B ι H (Itl G.K a) (xs, gdOf v xs) := by
  refine ⟨fun H' => ∃ ws, SqL G.K H' a ws ∧ ws.length = xs.length, fun i H' x H'' => H'' = H' ∧ ∀ ws, SqL G.K H' a ws → ws[i]? = some x, ⟨?_, ?_, ?_⟩, fun B' ι' H' μ' fu hr g => ?_⟩
  · rintro i H' hi ⟨ws, q, e⟩
    have hi' : i < ws.length := by rw [e]; exact hi
    exact ⟨ws, ws[i], q, by simp [hi']⟩
  · rintro H' ⟨ws, q, e⟩
    exact ⟨ws, q, by rw [e]; exact Nat.le_refl _⟩
  · exact fun i H' x H'' hi q y => y
  · have r' := fu _ _ r
    obtain ⟨b, ws, e, hs, r2, _, hL⟩ := sqOf_rv hr (sq_stays h g) r'
    cases e
    refine ⟨⟨ws, hL nt, r2.length.symm⟩, fun i x H'' hi ⟨e, y⟩ => ?_⟩
    subst e
    obtain ⟨v', hv, rv⟩ := r2.get' (y ws (hL nt))
    exact ⟨v', hv, Ext.refl, hr, rv⟩
theorem wk_tup {xs : List MV} {a : Addr} (r : RV G B ι H (.tup xs) (.ref a)) : Wk G B ι H (Itt G.K a) (xs, []) := by
  refine ⟨fun H' => ∃ ws, SqT G.K H' a ws ∧ ws.length = xs.length, fun i H' x H'' => H'' = H' ∧ ∀ ws, SqT G.K H' a ws → ws[i]? = some x, ⟨?_, ?_, ?_⟩, fun B' ι' H' μ' fu hr g => ?_⟩
  · rintro i H' hi ⟨ws, q, e⟩
    have hi' : i < ws.length := by rw [e]; exact hi
    exact ⟨ws, ws[i], q, by simp [hi']⟩
  · rintro H' ⟨ws, q, e⟩
    exact ⟨ws, q, by rw [e]; exact Nat.le_refl _⟩
  · exact fun i H' x H'' hi q y => y
  · cases fu _ _ r with
    | tup hq r2 =>
      rename_i ws
      refine ⟨⟨ws, hq, r2.length.symm⟩, fun i x H'' hi ⟨e, y⟩ => ?_⟩
      subst e
      obtain ⟨v', hv, rv⟩ := r2.get' (y ws hq)
      exact ⟨v', hv, Ext.refl, hr, rv⟩
theorem wk_range {lo : Int} {n : Nat} : Wk G B ι H (Itr lo n) ((List.range n).map fun (k : Nat) => .int (lo + k), []) := by
  refine ⟨fun _ => True, YFn fun i => .int (lo + i), by simpa using walk_range, fun B' ι' H' μ' fu hr g => ⟨trivial, fun i x H'' hi ⟨e, y⟩ => ?_⟩⟩
  subst e y
  have hi' : i < n := by simpa using hi
  exact ⟨.int (lo + i), by simp [hi'], Ext.refl, hr, .int _⟩
theorem wk_rangeC {lo c : Int} {n : Nat} : Wk G B ι H (Itc lo c n) ((List.range n).map fun (k : Nat) => .int (lo + (k : Nat) * c), []) := by
  refine ⟨fun _ => True, YFn fun i => .int (lo + (i : Nat) * c), by simpa using walk_rangeC, fun B' ι' H' μ' fu hr g => ⟨trivial, fun i x H'' hi ⟨e, y⟩ => ?_⟩⟩
  subst e y
  have hi' : i < n := by simpa using hi
  exact ⟨.int (lo + (i : Nat) * c), by simp [hi'], Ext.refl, hr, .int _⟩
theorem enumF_length : ∀ (xs : List MV) (n : Nat), (enumF n xs).length = xs.length
  | [], _ => rfl
  | x :: xs, n => by simp [enumF, enumF_length xs]
theorem enumF_at : ∀ {xs : List MV} {n i : Nat} {x : MV}, xs[i]? = some x → (enumF n xs)[i]? = some (.tup [.int ((n + i : Nat) : Int), x])
  | _ :: _, n, 0, x, h => by simp at h; subst h; rfl
  | _ :: xs, n, i + 1, x, h => by
    have := enumF_at (n := n + 1) (i := i) (xs := xs) (by simpa using h)
    simp only [enumF, List.getElem?_cons_succ]
    rw [this, show n + 1 + i = n + (i + 1) by omega]
theorem wk_enum {v : MV} {xs : List MV} {a : Addr} (h : sqOf μ v = some xs) (nt : ∀ ys, v ≠ .tup ys) (r : RV G B ι H v (.ref a)) : Wk G B ι H (Ite G.K a) (enumF 0 xs, gdOf v xs) := by
  refine ⟨fun H' => ∃ ws, SqL G.K H' a ws ∧ ws.length = xs.length, (Ite G.K a).yld, ⟨?_, ?_, ?_⟩, fun B' ι' H' μ' fu hr g => ?_⟩
  · rintro i H' hi ⟨ws, q, e⟩
    have hi' : i < ws.length := by rw [e, ← enumF_length xs 0]; exact hi
    exact ⟨ws, ws[i], q, by simp [hi']⟩
  · rintro H' ⟨ws, q, e⟩
    exact ⟨ws, q, by rw [e, enumF_length]; exact Nat.le_refl _⟩
  · exact fun i H' x H'' hi q y => y
  · have r' := fu _ _ r
    obtain ⟨b, ws, e, hs, r2, _, hL⟩ := sqOf_rv hr (sq_stays h g) r'
    cases e
    refine ⟨⟨ws, hL nt, r2.length.symm⟩, fun i x H'' hi ⟨T, y, e1, hT, e2, q⟩ => ?_⟩
    subst e1 e2
    obtain ⟨v', hv, rv⟩ := r2.get' (q ws (hL nt))
    exact ⟨_, by have := enumF_at (n := 0) hv; simpa using this, Ext.push hT, hr.pushO hT, .newTup hT (.cons (.int _) (.cons rv .nil))⟩
theorem wk_enumT {xs : List MV} {a : Addr} (r : RV G B ι H (.tup xs) (.ref a)) : Wk G B ι H (IteT G.K a) (enumF 0 xs, []) := by
  refine ⟨fun H' => ∃ ws, SqT G.K H' a ws ∧ ws.length = xs.length, (IteT G.K a).yld, ⟨?_, ?_, ?_⟩, fun B' ι' H' μ' fu hr g => ?_⟩
  · rintro i H' hi ⟨ws, q, e⟩
    have hi' : i < ws.length := by rw [e, ← enumF_length xs 0]; exact hi
    exact ⟨ws, ws[i], q, by simp [hi']⟩
  · rintro H' ⟨ws, q, e⟩
    exact ⟨ws, q, by rw [e, enumF_length]; exact Nat.le_refl _⟩
  · exact fun i H' x H'' hi q y => y
  · cases fu _ _ r with
    | tup hq r2 =>
      rename_i ws
      refine ⟨⟨ws, hq, r2.length.symm⟩, fun i x H'' hi ⟨T, y, e1, hT, e2, q⟩ => ?_⟩
      subst e1 e2
      obtain ⟨v', hv, rv⟩ := r2.get' (q ws hq)
      exact ⟨_, by have := enumF_at (n := 0) hv; simpa using this, Ext.push hT, hr.pushO hT, .newTup hT (.cons (.int _) (.cons rv .nil))⟩
end
section
variable {X : Cx} {G : GI} {W : WX} {wd : Wd}
theorem tup_of {v : MV} {xs : List MV} {μ : Mem} (h : sqOf μ v = some xs) : (v = .tup xs) ∨ ∀ ys, v ≠ .tup ys := by
  cases v with
  | tup ys => simp [sqOf] at h; exact .inl (by rw [h])
  | _ => exact .inr fun ys z => by cases z
theorem s_seq {tg e : Expr} {e' : E} (hK : X.K = G.K) (h : PE X e (tE G W wd e')) : PI X tg e (tI G W wd (.seq e')) :=
  piW (piOr (pi_list h) (pi_tup h)) fun σ H R ⟨B, ι, μ, ρ, er, hr, h⟩ => by
    simp only [evIt] at h
    have h := h.bnd
    rw [hK]
    cases q : ev wd e' ρ μ with
    | none => rw [q] at h; exact h.elim
    | some z =>
      obtain ⟨o, μ1⟩ := z
      rw [q] at h
      cases o with
      | error x => exact .inl ⟨B, ι, μ, ρ, er, hr, by rw [q]; exact h⟩
      | ok v =>
        obtain ⟨p, hp, g⟩ := Out.ok h
        obtain ⟨xs, e, rfl⟩ := Option.map_eq_some_iff.mp hp
        rcases tup_of e with rfl | nt
        · refine .inr ⟨B, ι, μ, ρ, er, hr, by
            rw [q]
            intro w H1 ι1 e1 hr1 r1 _
            obtain ⟨a, vs, rfl, _, _, hT, _⟩ := sqOf_rv hr1 e r1
            exact ⟨a, rfl, ⟨vs, hT ⟨_, rfl⟩⟩, g _ _ ι1 e1 hr1 (wk_tup r1)⟩⟩
        · refine .inl ⟨B, ι, μ, ρ, er, hr, by
            rw [q]
            intro w H1 ι1 e1 hr1 r1 _
            obtain ⟨a, vs, rfl, _, _, _, hL⟩ := sqOf_rv hr1 e r1
            exact ⟨a, rfl, ⟨vs, hL nt⟩, g _ _ ι1 e1 hr1 (wk_list e nt r1)⟩⟩
/-- one argument that is evaluated -/
theorem one_arg {e' : E} {σ : L2.St} {H : Hp} {Q : List V → Hp → Prop} {B ι : List Addr} {μ : Mem} {ρ : Env} {good : MV → Mem → Prop} (er : ER G B ι H ρ σ) (hr : HR G B ι H μ) (h : Out (ev wd e' ρ μ) good (Bad G B ι H W σ))
    (k : ∀ v μ1 w H1 ι1, good v μ1 → Ext G.K ι H ι1 H1 → HR G B ι1 H1 μ1 → RV G B ι1 H1 v w → Q [w] H1) : tEs G W wd (.cons e' .nil) σ H Q := by
  refine ⟨B, ι, μ, ρ, er, hr, ?_⟩
  cases q : ev wd e' ρ μ with
  | none => rw [q] at h; exact h.elim
  | some z =>
    obtain ⟨o, μ1⟩ := z
    rw [q] at h
    cases o with
    | error x => simp only [evs, q, bnd_error]; exact h
    | ok v =>
      simp only [evs, q, bnd_ok]
      intro vs H1 ι1 e1 hr1 rs
      obtain ⟨w, rfl, r⟩ := rs.one
      exact k v μ1 w H1 ι1 h e1 hr1 r
theorem s_enu {elts : List Expr} {kk : Nat} {p pos tpos : Pos} {e : Expr} {e' : E} (hK : X.K = G.K) (hg : Gl X "enumerate") (hm : X.mg "enumerate" = none) (ha : PA X [e] (tEs G W wd (.cons e' .nil))) (hs : starEach [e] X.env = [(false, eval e X.env)]) :
    PI X (.Tuple elts kk tpos) (.Call (.Name "enumerate" p) [e] [] pos) (tI G W wd (.enu e')) :=
  piW (piOr (pi_enum hg hm ha hs) (pi_enumT hg hm ha hs)) fun σ H R ⟨B, ι, μ, ρ, er, hr, h⟩ => by
    simp only [evIt] at h
    have h := h.bnd
    rw [hK]
    cases q : ev wd e' ρ μ with
    | none => rw [q] at h; exact h.elim
    | some z =>
      obtain ⟨o, μ1⟩ := z
      rw [q] at h
      cases o with
      | error x => exact .inl ⟨B, ι, μ, ρ, er, hr, by simp only [evs, q, bnd_error]; exact h⟩
      | ok v =>
        obtain ⟨p, hp, g⟩ := Out.ok h
        obtain ⟨xs, e, rfl⟩ := Option.map_eq_some_iff.mp hp
        rcases tup_of e with rfl | nt
        · refine .inr (one_arg er hr (good := fun v μ' => v = .tup xs ∧ μ' = μ1) (by rw [q]; exact ⟨rfl, rfl⟩) fun v μ2 w H1 ι1 ⟨e1, e2⟩ e3 hr1 r1 => ?_)
          subst e1 e2
          obtain ⟨a, vs, rfl, _, _, hT, _⟩ := sqOf_rv hr1 e r1
          exact ⟨a, vs, rfl, hT ⟨_, rfl⟩, g _ _ ι1 e3 hr1 (wk_enumT r1)⟩
        · refine .inl (one_arg er hr (good := fun v' μ' => v' = v ∧ μ' = μ1) (by rw [q]; exact ⟨rfl, rfl⟩) fun v' μ2 w H1 ι1 ⟨e1, e2⟩ e3 hr1 r1 => ?_)
          subst e1 e2
          obtain ⟨a, vs, rfl, _, _, _, hL⟩ := sqOf_rv hr1 e r1
          exact ⟨a, vs, rfl, hL nt, g _ _ ι1 e3 hr1 (wk_enum e nt r1)⟩
theorem small_i {i : Int} (h : small i = true) : -(2 ^ 62) ≤ i ∧ i < 2 ^ 62 := by
  simp only [small, Bool.and_eq_true, decide_eq_true_eq] at h
  omega
def esLen : ES → Nat
  | .nil => 0
  | .cons _ es => esLen es + 1
theorem evs_len {ρ : Env} : ∀ {es : ES} {μ μ' : Mem} {xs : List MV}, evs wd es ρ μ = some (.ok xs, μ') → xs.length = esLen es
  | .nil, μ, μ', xs, h => by simp [evs] at h; simp [← h.1, esLen]
  | .cons e es, μ, μ', xs, h => by
    simp only [evs] at h
    cases q : ev wd e ρ μ with
    | none => rw [q] at h; cases h
    | some z =>
      obtain ⟨o, μ1⟩ := z
      cases o with
      | error x => rw [q] at h; cases h
      | ok v =>
        rw [q, bnd_ok] at h
        cases q2 : evs wd es ρ μ1 with
        | none => rw [q2] at h; cases h
        | some z2 =>
          obtain ⟨o2, μ2⟩ := z2
          cases o2 with
          | error x => rw [q2] at h; cases h
          | ok ys =>
            rw [q2, bnd_ok] at h
            cases h
            simp [esLen, evs_len q2]
theorem Out.len {ρ : Env} {es : ES} {μ : Mem} {good : List MV → Mem → Prop} {bad : Ex → Mem → Prop} (h : Out (evs wd es ρ μ) good bad) : Out (evs wd es ρ μ) (fun xs μ' => xs.length = esLen es ∧ good xs μ') bad := by
  cases q : evs wd es ρ μ with
  | none => rw [q] at h; exact h.elim
  | some z =>
    obtain ⟨o, μ1⟩ := z
    rw [q] at h
    cases o with
    | error x => exact h
    | ok xs => exact ⟨evs_len q, h⟩
theorem rngOf_1 {xs ys : List MV} (h : rngOf xs = some ys) (hl : xs.length = 1) : ∃ n, xs = [.int n] ∧ small n = true ∧ ys = (List.range n.toNat).map fun (k : Nat) => .int (0 + k) := by
  unfold rngOf at h
  split at h
  · split at h
    · cases h; exact ⟨_, rfl, by assumption, by simp⟩
    · cases h
  · simp at hl
  · simp at hl
  · cases h
theorem rngOf_2 {xs ys : List MV} (h : rngOf xs = some ys) (hl : xs.length = 2) : ∃ a b, xs = [.int a, .int b] ∧ small a = true ∧ small b = true ∧ ys = (List.range (b - a).toNat).map fun (k : Nat) => .int (a + k) := by
  unfold rngOf at h
  split at h
  · simp at hl
  · split at h
    · rename_i z
      cases h; exact ⟨_, _, rfl, z.1, z.2, rfl⟩
    · cases h
  · simp at hl
  · cases h
theorem rngOf_3 {xs ys : List MV} (h : rngOf xs = some ys) (hl : xs.length = 3) : ∃ a b, xs = [.int a, .int b, .int (-1)] ∧ small a = true ∧ small b = true ∧ ys = (List.range (a - b).toNat).map fun (k : Nat) => .int (a + (k : Nat) * (-1)) := by
  unfold rngOf at h
  split at h
  · simp at hl
  · simp at hl
  · split at h
    · rename_i z
      obtain ⟨z1, z2, rfl⟩ := z
      cases h
      refine ⟨_, _, rfl, z1, z2, ?_⟩
      congr 1
      funext k
      rw [Int.mul_neg, Int.mul_one, Int.sub_eq_add_neg]
    · cases h
  · cases h
theorem s_rng1 {tg a : Expr} {es : ES} {p pos : Pos} (hl : esLen es = 1) (hg : Gl X "range") (hm : X.mg "range" = none) (ha : PA X [a] (tEs G W wd es)) (hs : starEach [a] X.env = [(false, eval a X.env)]) :
    PI X tg (.Call (.Name "range" p) [a] [] pos) (tI G W wd (.rng es)) :=
  piW (pi_range1 hg hm ha hs) fun σ H R ⟨B, ι, μ, ρ, er, hr, h⟩ => by
    simp only [evIt] at h
    refine tEs_then er hr h.bnd.len fun xs μ1 vs H1 ι1 ⟨hx, g⟩ e1 hr1 rs => ?_
    obtain ⟨p, hp, g⟩ := Out.ok g
    obtain ⟨ys, e, rfl⟩ := Option.map_eq_some_iff.mp hp
    obtain ⟨n, rfl, sn, rfl⟩ := rngOf_1 e (hx.trans hl)
    obtain ⟨w, rfl, r⟩ := rs.one
    rw [r.int_inv]
    exact ⟨n, rfl, (small_i sn).1, (small_i sn).2, g _ _ ι1 e1 hr1 wk_range⟩
theorem s_rng2 {tg a b : Expr} {es : ES} {p pos : Pos} (hl : esLen es = 2) (hg : Gl X "range") (hm : X.mg "range" = none) (ha : PA X [a, b] (tEs G W wd es)) (hs : starEach [a, b] X.env = [(false, eval a X.env), (false, eval b X.env)]) (hs2 : starEach [b] X.env = [(false, eval b X.env)]) :
    PI X tg (.Call (.Name "range" p) [a, b] [] pos) (tI G W wd (.rng es)) :=
  piW (pi_range2 hg hm ha hs hs2) fun σ H R ⟨B, ι, μ, ρ, er, hr, h⟩ => by
    simp only [evIt] at h
    refine tEs_then er hr h.bnd.len fun xs μ1 vs H1 ι1 ⟨hx, g⟩ e1 hr1 rs => ?_
    obtain ⟨p, hp, g⟩ := Out.ok g
    obtain ⟨ys, e, rfl⟩ := Option.map_eq_some_iff.mp hp
    obtain ⟨i, j, rfl, si, sj, rfl⟩ := rngOf_2 e (hx.trans hl)
    obtain ⟨v, w, rfl, r1, r2⟩ := rs.two
    rw [r1.int_inv, r2.int_inv]
    exact ⟨i, j, rfl, ⟨(small_i si).1, (small_i si).2, (small_i sj).1, (small_i sj).2⟩, g _ _ ι1 e1 hr1 wk_range⟩
theorem RVs.three {B ι : List Addr} {H : Hp} {x y z : MV} {vs : List V} (r : RVs G B ι H [x, y, z] vs) : ∃ u v w, vs = [u, v, w] ∧ RV G B ι H x u ∧ RV G B ι H y v ∧ RV G B ι H z w := by
  cases r with
  | cons h r =>
    obtain ⟨v, w, rfl, q⟩ := r.two
    exact ⟨_, _, _, rfl, h, q⟩
theorem s_rng3 {tg a b c : Expr} {es : ES} {p pos : Pos} (hl : esLen es = 3) (hg : Gl X "range") (hm : X.mg "range" = none) (ha : PA X [a, b, c] (tEs G W wd es)) (hs : starEach [a, b, c] X.env = (false, eval a X.env) :: starEach [b, c] X.env) (hpl : (backTo pos (starEach [b, c] X.env)).any (·.1) = false) :
    PI X tg (.Call (.Name "range" p) [a, b, c] [] pos) (tI G W wd (.rng es)) :=
  piW (pi_range3 hg hm ha hs hpl) fun σ H R ⟨B, ι, μ, ρ, er, hr, h⟩ => by
    simp only [evIt] at h
    refine tEs_then er hr h.bnd.len fun xs μ1 vs H1 ι1 ⟨hx, g⟩ e1 hr1 rs => ?_
    obtain ⟨p, hp, g⟩ := Out.ok g
    obtain ⟨ys, e, rfl⟩ := Option.map_eq_some_iff.mp hp
    obtain ⟨i, j, rfl, si, sj, rfl⟩ := rngOf_3 e (hx.trans hl)
    obtain ⟨u, v, w, rfl, r1, r2, r3⟩ := rs.three
    rw [r1.int_inv, r2.int_inv, r3.int_inv]
    exact ⟨i, j, -1, _, rfl, RgC.neg (small_i si).1 (small_i si).2 (small_i sj).1 (small_i sj).2, g _ _ ι1 e1 hr1 wk_rangeC⟩
end
end MI
end
section
set_option Elab.async false
set_option linter.all false
set_option maxHeartbeats 4000000
/-! MI: what is written: places, targets. -/
namespace MI
open PySem PySem.Spec PyProof.Rows L2
section
variable {G : GI} {B ι : List Addr} {H : Hp} {μ : Mem}
theorem wr_ext {k : Nat} {a : Addr} {xs : List V} {o : HO} (ho : ∀ ps, o ≠ .tbl ps) (hn : ι[k]? = some a) (h : H a = some (.lst xs)) : Ext G.K ι H ι (upd H a o) :=
  Ext.upd hn (fun ys z => by rw [h] at z; cases z) (fun ob ys z => by rw [h] at z; cases z) ho
theorem wr_extD {k : Nat} {a : Addr} {xs : List (Key × V)} {o : HO} (ho : ∀ ps, o ≠ .tbl ps) (hn : ι[k]? = some a) (h : H a = some (.dK xs)) : Ext G.K ι H ι (upd H a o) :=
  Ext.upd hn (fun ys z => by rw [h] at z; cases z) (fun ob ys z => by rw [h] at z; cases z) ho
theorem wr_lst {k : Nat} {a : Addr} {vs ws : List V} {ys : List MV} (hr : HR G B ι H μ) (hn : ι[k]? = some a) (h : H a = some (.lst vs)) (r : RVs G B ι H ys ws) :
    Ext G.K ι H ι (upd H a (.lst ws)) ∧ HR G B ι (upd H a (.lst ws)) (μ.set k (.lst ys)) := by
  have e : Ext G.K ι H ι (upd H a (.lst ws)) := wr_ext (fun _ z => by cases z) hn h
  exact ⟨e, hr.set (u := .lst ys) hn e ⟨ws, upd_same, r.mono e⟩ (tabs_lst hr.tb h)⟩
theorem wr_dic {k : Nat} {a : Addr} {vs ws : List (Key × V)} {ys : List (Key × MV)} (hr : HR G B ι H μ) (hn : ι[k]? = some a) (h : H a = some (.dK vs)) (r : RKs G B ι H ys ws) :
    Ext G.K ι H ι (upd H a (.dK ws)) ∧ HR G B ι (upd H a (.dK ws)) (μ.set k (.dic ys)) := by
  have e : Ext G.K ι H ι (upd H a (.dK ws)) := wr_extD (fun _ z => by cases z) hn h
  exact ⟨e, hr.set (u := .dic ys) hn e ⟨ws, upd_same, r.mono e⟩ (tabs_dic hr.tb h)⟩
theorem RKs.any {k : Key} {kvs : List (Key × MV)} {kws : List (Key × V)} (r : RKs G B ι H kvs kws) : (kvs.any fun kv => decide (kv.1 = k)) = kws.any fun kv => decide (kv.1 = k) := by
  induction r with
  | nil => rfl
  | cons _ _ ih => simp only [List.any_cons, ih]
theorem RKs.snoc {k : Key} {x : MV} {v : V} {kvs : List (Key × MV)} {kws : List (Key × V)} (r : RKs G B ι H kvs kws) (h : RV G B ι H x v) : RKs G B ι H (kvs ++ [(k, x)]) (kws ++ [(k, v)]) := by
  induction r with
  | nil => exact .cons h .nil
  | cons q _ ih => exact .cons q ih
theorem RKs.over {k : Key} {x : MV} {v : V} {kvs : List (Key × MV)} {kws : List (Key × V)} (h : RV G B ι H x v) (r : RKs G B ι H kvs kws) : RKs G B ι H (kvs.map fun kv => if kv.1 = k then (kv.1, x) else kv) (kws.map fun kv => if kv.1 = k then (kv.1, v) else kv) := by
  induction r with
  | nil => exact .nil
  | @cons k2 x2 xs2 v2 vs2 q _ ih =>
    by_cases e : k2 = k
    · simp only [List.map_cons, e, if_true]; exact .cons h ih
    · simp only [List.map_cons, e, if_false]; exact .cons q ih
theorem RKs.put {k : Key} {x : MV} {v : V} {kvs : List (Key × MV)} {kws : List (Key × V)} (r : RKs G B ι H kvs kws) (h : RV G B ι H x v) : RKs G B ι H (setK kvs k x) (putK kws k v) := by
  unfold setK putK
  rw [r.any (k := k)]
  split
  · exact r.over h
  · exact r.snoc h
/-- what a subscript's store asks -/
def rSetA : TSet := fun o i v H Q => rSetL o i v H Q ∨ rSetD o i v H Q
theorem set_any {X : Cx} (hu : X.A.units + 1 < cLine) : PSet X rSetA := fun pins s σ H o i v ov iv u Q I ro ri rv h =>
  h.elim (set_list pins s σ H o i v ov iv u Q I ro ri rv) (set_dict hu pins s σ H o i v ov iv u Q I ro ri rv)
theorem asgIx_ok {x y z : MV} {o i v : V} {μ' : Mem} {Q : Hp → Prop} (hr : HR G B ι H μ) (h : asgIx μ x y z = some μ') (ro : RV G B ι H x o) (ri : RV G B ι H y i) (rv : RV G B ι H z v)
    (q : ∀ H', Ext G.K ι H ι H' → HR G B ι H' μ' → Q H') : rSetA o i v H Q := by
  unfold asgIx at h
  split at h
  · rename_i k
    cases ro with
    | loc hn =>
      rename_i a
      split at h
      · rename_i xs e
        obtain ⟨a', hn', vs, h1, rs⟩ := hr.get e
        rw [hn] at hn'
        cases hn'
        split at h
        · rename_i j
          obtain ⟨m, hm, rfl⟩ := Option.map_eq_some_iff.mp h
          obtain ⟨e1, hr'⟩ := wr_lst hr hn h1 (rs.set rv m)
          exact .inl ⟨a, vs, j, m, rfl, ri.int_inv, h1, by rw [← rs.length]; exact hm, q _ e1 hr'⟩
        · cases h
      · rename_i kvs e
        obtain ⟨a', hn', vs, h1, rs⟩ := hr.get e
        rw [hn] at hn'
        cases hn'
        obtain ⟨key, hk, h⟩ := Option.bind_eq_some_iff.mp h
        split at h
        · rename_i hl
          cases h
          obtain ⟨e1, hr'⟩ := wr_dic hr hn h1 (rs.put (k := key) rv)
          have e2 := keyOf_rv hk ri
          subst e2
          exact .inr ⟨a, _, rfl, DPut.k h1 (by rw [← rs.length]; exact most_lt hl), q _ e1 hr'⟩
        · cases h
      · cases h
  · cases h
end
mutual
def gNames : G → List Nat
  | .nm i => [i]
  | .tp gs => gsNames gs
  | .ix _ _ => []
def gsNames : GS → List Nat
  | .nil => []
  | .cons g gs => gNames g ++ gsNames gs
end
def tG (G : GI) (wd : Wd) (g : MI.G) : TG := fun v σ H Q => ∃ B ι μ ρ x ρ' μ', ER G B ι H ρ σ ∧ HR G B ι H μ ∧ RV G B ι H x v ∧ asg wd g x ρ μ = some (ρ', μ') ∧
  ∀ σ' H' ι', Ext G.K ι H ι' H' → HR G B ι' H' μ' → ER G B ι' H' ρ' σ' → σ'.length = σ.length → (∀ i, i ∉ gNames g → σ'[i]? = σ[i]?) → Q σ' H'
def tGs (G : GI) (wd : Wd) (g : GS) : TGs := fun vs σ H Q => ∃ B ι μ ρ xs ρ' μ', ER G B ι H ρ σ ∧ HR G B ι H μ ∧ RVs G B ι H xs vs ∧ asgs wd g xs ρ μ = some (ρ', μ') ∧
  ∀ σ' H' ι', Ext G.K ι H ι' H' → HR G B ι' H' μ' → ER G B ι' H' ρ' σ' → σ'.length = σ.length → (∀ i, i ∉ gsNames g → σ'[i]? = σ[i]?) → Q σ' H'
theorem pgW {X : Cx} {e : Expr} {t t' : TG} (h : PG X e t) (k : ∀ v σ H Q, t' v σ H Q → t v σ H Q) : PG X e t' := ⟨fun pins s σ H v u Q I r q => h.run pins s σ H v u Q I r (k v σ H Q q)⟩
theorem pgOr {X : Cx} {e : Expr} {t t' : TG} (h : PG X e t) (h' : PG X e t') : PG X e (fun v σ H Q => t v σ H Q ∨ t' v σ H Q) := ⟨fun pins s σ H v u Q I r q => q.elim (h.run pins s σ H v u Q I r) (h'.run pins s σ H v u Q I r)⟩
theorem pgsW {X : Cx} {e : List Expr} {t t' : TGs} (h : PGs X e t) (k : ∀ v σ H Q, t' v σ H Q → t v σ H Q) : PGs X e t' := ⟨fun pins s σ H v u Q I r q => h.run pins s σ H v u Q I r (k v σ H Q q)⟩
section
variable {X : Cx} {G : GI} {W : WX} {wd : Wd} {B ι : List Addr} {H : Hp}
theorem ER.put {ρ : Env} {σ : L2.St} {i : Nat} {x : MV} {v : V} (er : ER G B ι H ρ σ) (r : RV G B ι H x v) : ER G B ι H (ρ.set i (some x)) (σ.set i (some v)) := by
  refine ⟨by simp [er.len], fun j y h => ?_⟩
  by_cases e : i = j
  · subst e
    have hl : i < ρ.length := by
      have := (List.getElem?_eq_some_iff.mp h).1
      simpa using this
    rw [List.getElem?_set_self hl] at h
    cases h
    exact ⟨v, by rw [List.getElem?_set_self (by rw [← er.len]; exact hl)], r⟩
  · rw [List.getElem?_set_ne e] at h
    rw [List.getElem?_set_ne e]
    exact er.get j y h
theorem g_nm {i : Nat} {x : Str} {pos : Pos} (hN : X.N.Nodup) (hi : X.N[i]? = some x) (hx : Loc X.env.scope x) (hf : X.fn x = true ∨ X.env.scope.names.lookup x = some .local) : PG X (.Name x pos) (tG G wd (.nm i)) :=
  pgW (pg_name hN hi hx hf) fun v σ H Q ⟨B, ι, μ, ρ, x, ρ', μ', er, hr, r, h, q⟩ => by
    simp only [asg] at h
    split at h
    · cases h
      refine q _ _ ι Ext.refl hr (er.put r) (by simp) fun j hj => ?_
      rw [List.getElem?_set_ne]
      rintro rfl
      exact hj (by simp [gNames])
    · cases h
theorem gs_nil : PGs X [] (tGs G wd .nil) :=
  pgsW pgs_nil fun vs σ H Q ⟨B, ι, μ, ρ, xs, ρ', μ', er, hr, r, h, q⟩ => by
    cases r with
    | nil =>
      simp only [asgs] at h
      cases h
      exact ⟨rfl, q _ _ ι Ext.refl hr er rfl fun _ _ => rfl⟩
    | cons _ _ => simp [asgs] at h
theorem gs_cons {e : Expr} {es : List Expr} {g : MI.G} {gs : GS} (h1 : PG X e (tG G wd g)) (h2 : PGs X es (tGs G wd gs)) (hs : (assignEach (e :: es) X.env).map (·.2) = assign e X.env :: (assignEach es X.env).map (·.2)) : PGs X (e :: es) (tGs G wd (.cons g gs)) :=
  pgsW (pgs_cons h1 h2 hs) fun vs σ H Q ⟨B, ι, μ, ρ, xs, ρ', μ', er, hr, r, h, q⟩ => by
    cases r with
    | nil => simp [asgs] at h
    | cons r rs =>
      simp only [asgs] at h
      split at h
      · rename_i ρ1 μ1 e1
        refine ⟨_, _, rfl, B, ι, μ, ρ, _, ρ1, μ1, er, hr, r, e1, fun σ1 H1 ι1 x1 hr1 er1 hl1 hn1 => ?_⟩
        refine ⟨B, ι1, μ1, ρ1, _, ρ', μ', er1, hr1, rs.mono x1, h, fun σ2 H2 ι2 x2 hr2 er2 hl2 hn2 => q σ2 H2 ι2 (x1.trans x2) hr2 er2 (hl2.trans hl1) fun i hi => ?_⟩
        simp only [gsNames, List.mem_append, not_or] at hi
        rw [hn2 i hi.2, hn1 i hi.1]
      · cases h
theorem g_tp {es : List Expr} {k : Nat} {pos : Pos} {gs : GS} {n : Nat} (hK : X.K = G.K) (hc : X.calm = true) (h : PGs X es (tGs G wd gs)) (hn : (assignEach es X.env).length = n) (hst : (assignEach es X.env).findIdx? (·.1) = none) (hl : ∀ xs ρ μ, asgs wd gs xs ρ μ ≠ none → xs.length = n) :
    PG X (.Tuple es k pos) (tG G wd (.tp gs)) :=
  pgW (pgOr (pg_tup hc h hn hst) (pg_unl hc h hn hst)) fun v σ H Q ⟨B, ι, μ, ρ, x, ρ', μ', er, hr, r, h, q⟩ => by
    have hlen : ∀ xs, asgs wd gs xs ρ μ = some (ρ', μ') → xs.length = n := fun xs z => hl xs ρ μ (by rw [z]; simp)
    have other : ((lsOf μ x).bind fun xs => asgs wd gs xs ρ μ) = some (ρ', μ') → (∀ ys, x ≠ .tup ys) → gUnl X.K n (tGs G wd gs) v σ H Q := fun z _ => by
      obtain ⟨xs, e, z⟩ := Option.bind_eq_some_iff.mp z
      obtain ⟨a, vs, rfl, h1, rs⟩ := lsOf_rv hr e r
      exact ⟨a, vs, rfl, .inl (.inl h1), by rw [← rs.length]; exact hlen _ z, B, ι, μ, ρ, xs, ρ', μ', er, hr, rs, z, q⟩
    cases x with
    | tup xs =>
      simp only [asg] at h
      cases r with
      | tup hq rs => exact .inl ⟨_, _, rfl, by rw [hK]; exact hq, by rw [← rs.length]; exact hlen _ h, B, ι, μ, ρ, xs, ρ', μ', er, hr, rs, h, q⟩
    | _ => exact .inr (other (by simpa only [asg] using h) (fun ys z => by cases z))
theorem g_ix {o i : Expr} {a b : E} {pos : Pos} (hu : X.A.units + 1 < cLine) (ho : PE X o (tE G W wd a)) (hi : PE X i (tE G W wd b))
    (ha : ∀ v, assign (.Subscript o i pos) X.env v = (do
      let ov ← holding [v] (eval o X.env)
      let iv ← holding [v, ov] (eval i X.env)
      standAt pos
      holding [v, ov, iv] (setItem ov iv v)
      release [v, ov, iv] [])) : PG X (.Subscript o i pos) (tG G wd (.ix a b)) :=
  pgW (pg_sub ho hi (set_any hu) ha) fun v σ H Q ⟨B, ι, μ, ρ, x, ρ', μ', er, hr, r, h, q⟩ => by
    simp only [asg] at h
    split at h
    · rename_i y μ1 e1
      split at h
      · rename_i z μ2 e2
        obtain ⟨μ3, h3, h⟩ := Option.map_eq_some_iff.mp h
        cases h
        refine tE_then er hr (good := fun v' μ' => v' = y ∧ μ' = μ1) (by rw [e1]; exact ⟨rfl, rfl⟩) fun v1 μ1' w1 H1 ι1 ⟨z1, z2⟩ x1 hr1 r1 _ => ?_
        subst z1 z2
        refine tE_then (er.mono x1) hr1 (good := fun v' μ' => v' = z ∧ μ' = μ2) (by rw [e2]; exact ⟨rfl, rfl⟩) fun v2 μ2' w2 H2 ι2 ⟨z1, z2⟩ x2 hr2 r2 _ => ?_
        subst z1 z2
        refine asgIx_ok hr2 h3 (r1.mono x2) r2 (r.mono (x1.trans x2)) fun H3 x3 hr3 => ?_
        have x123 := (x1.trans x2).trans x3
        exact q σ H3 ι2 x123 hr3 (er.mono x123) rfl fun _ _ => rfl
      · cases h
    · cases h
end
end MI
end
section
set_option Elab.async false
set_option linter.all false
set_option maxHeartbeats 4000000
/-! MI: comprehensions. -/
namespace MI
open PySem PySem.Spec PyProof.Rows L2
section
variable {G : GI} {B ι ι' : List Addr} {H H' : Hp} {D : Addr}
mutual
theorem RV.later {v : MV} {w : V} (e : Ext G.K ι H ι' H') (h : H D = none) : RV G B ι H v w → RV G (D :: B) ι' H' v w
  | .non => .non
  | .bl b => .bl b
  | .int i => .int i
  | .str s => .str s
  | .tup q r => .tup (e.tup _ _ q) (RVs.later e h r)
  | .lv q nb ni r => .lv (e.oth _ _ q ni (fun _ z => by cases z)) (by rw [List.mem_cons, not_or]; exact ⟨ne_of_none q h, nb⟩) (e.ni q (fun _ z => by cases z) ni) (RVs.later e h r)
  | .exo q qd nb ni r => .exo (e.oth _ _ q ni.1 exT_tbl) (e.oth _ _ qd ni.2 (fun _ z => by cases z)) (by simp only [List.mem_cons, not_or]; exact ⟨⟨ne_of_none q h, nb.1⟩, ne_of_none qd h, nb.2⟩) ⟨e.ni q exT_tbl ni.1, e.ni qd (fun _ z => by cases z) ni.2⟩ (RV.later e h r)
  | .thk a => .thk a
  | .loc q => .loc (by
      obtain ⟨t, rfl⟩ := e.pre
      rw [List.getElem?_append_left (List.getElem?_eq_some_iff.mp q).1]; exact q)
  | .flH q ni r => .flH (e.oth _ _ q ni (fun _ z => by cases z)) (e.ni q (fun _ z => by cases z) ni) (RVs.later e h r)
  | .flK q r => .flK q (RVs.later e h r)
theorem RVs.later {v : List MV} {w : List V} (e : Ext G.K ι H ι' H') (h : H D = none) : RVs G B ι H v w → RVs G (D :: B) ι' H' v w
  | .nil => .nil
  | .cons q r => .cons (RV.later e h q) (RVs.later e h r)
end
theorem ER.later {ρ : Env} {σ : L2.St} (e : Ext G.K ι H ι' H') (h : H D = none) (r : ER G B ι H ρ σ) : ER G (D :: B) ι' H' ρ σ :=
  ⟨r.len, fun i v q => let ⟨w, a, b⟩ := r.get i v q; ⟨w, a, b.later e h⟩⟩
/-! the new list grows -/
mutual
theorem RV.grow {ws ws' : List V} {v : MV} {w : V} (h : H D = some (.lst ws)) : RV G (D :: B) ι H v w → RV G (D :: B) ι (upd H D (.lst ws')) v w
  | .non => .non
  | .bl b => .bl b
  | .int i => .int i
  | .str s => .str s
  | .tup q r => .tup (by
      rcases q with (q | ⟨ob, q⟩) | q
      · exact .inl (.inl (by rw [upd_ne (by rintro rfl; rw [h] at q; cases q)]; exact q))
      · exact .inl (.inr ⟨ob, by rw [upd_ne (by rintro rfl; rw [h] at q; cases q)]; exact q⟩)
      · exact .inr q) (RVs.grow h r)
  | .lv q nb ni r => .lv (by rw [upd_ne (by rintro rfl; exact nb List.mem_cons_self)]; exact q) nb ni (RVs.grow h r)
  | .loc q => .loc q
  | .flH q ni r => .flH (by rw [upd_ne (by rintro rfl; rw [h] at q; cases q)]; exact q) ni (RVs.grow h r)
  | .flK q r => .flK q (RVs.grow h r)
  | .exo q qd nb ni r => .exo (by rw [upd_ne (by rintro rfl; exact nb.1 List.mem_cons_self)]; exact q) (by rw [upd_ne (by rintro rfl; exact nb.2 List.mem_cons_self)]; exact qd) nb ni (RV.grow h r)
  | .thk a => .thk a
theorem RVs.grow {ws ws' : List V} {v : List MV} {w : List V} (h : H D = some (.lst ws)) : RVs G (D :: B) ι H v w → RVs G (D :: B) ι (upd H D (.lst ws')) v w
  | .nil => .nil
  | .cons q r => .cons (RV.grow h q) (RVs.grow h r)
end
theorem RKs.grow {ws ws' : List V} {v : List (Key × MV)} {w : List (Key × V)} (h : H D = some (.lst ws)) (r : RKs G (D :: B) ι H v w) : RKs G (D :: B) ι (upd H D (.lst ws')) v w := by
  induction r with
  | nil => exact .nil
  | cons q _ ih => exact .cons (q.grow h) ih
theorem HR.grow {ws ws' : List V} {μ : Mem} (h : H D = some (.lst ws)) (hr : HR G (D :: B) ι H μ) : HR G (D :: B) ι (upd H D (.lst ws')) μ where
  len := hr.len
  nd := hr.nd
  tb := tabs_lst hr.tb h
  ce := ⟨hr.ce.len, fun i v e => let ⟨w, q, z⟩ := hr.ce.get i v e; ⟨w, q, z.grow h⟩⟩
  co := fun p hp => ⟨by rw [upd_ne (fun z => (hr.co p hp).2.2 (by rw [z]; exact List.mem_cons_self))]; exact (hr.co p hp).1, (hr.co p hp).2⟩
  bu := fun b hb => ⟨by
    by_cases e : b = D
    · subst e; exact ⟨_, upd_same, .l⟩
    · rw [upd_ne e]
      exact (hr.bu b hb).1, (hr.bu b hb).2⟩
  ob := fun n b u h1 h2 => by
    have hne : b ≠ D := by
      rintro rfl
      exact (hr.bu b List.mem_cons_self).2 (List.mem_of_getElem? h1)
    have q := hr.ob n b u h1 h2
    cases u with
    | lst xs => obtain ⟨vs, q, r⟩ := q; exact ⟨vs, by rw [upd_ne hne]; exact q, r.grow h⟩
    | dic xs => obtain ⟨vs, q, r⟩ := q; exact ⟨vs, by rw [upd_ne hne]; exact q, r.grow h⟩
theorem Ext.grow {K : PySem.W.Frag} {ws : List V} {o : HO} (e : Ext K ι H ι' H') (hn : H D = none) (h : H' D = some (.lst ws)) : Ext K ι H ι' (L2.upd H' D o) where
  pre := e.pre
  fr := e.fr
  tup := fun a vs q => by
    rcases e.tup a vs q with (q | ⟨ob, q⟩) | q
    · exact .inl (.inl (by rw [upd_ne (by rintro rfl; rw [h] at q; cases q)]; exact q))
    · exact .inl (.inr ⟨ob, by rw [upd_ne (by rintro rfl; rw [h] at q; cases q)]; exact q⟩)
    · exact .inr q
  oth := fun a u q hi ht => by rw [upd_ne (ne_of_none q hn)]; exact e.oth a u q hi ht
  thr := fun a u q n => by
    have z : a ≠ D := ne_of_none q hn
    rw [upd_ne z]; exact e.thr a u q n
end
section
theorem wipe_len (ρ : Env) : ∀ vs : List Nat, (wipe ρ vs).length = ρ.length
  | [] => rfl
  | v :: vs => by simp only [wipe, List.length_set, wipe_len ρ vs]
theorem wipe_get {ρ : Env} {i : Nat} {x : MV} : ∀ {vs : List Nat}, (wipe ρ vs)[i]? = some (some x) → ρ[i]? = some (some x) ∧ i ∉ vs
  | [], h => ⟨h, by simp⟩
  | v :: vs, h => by
    simp only [wipe] at h
    by_cases hi : v = i
    · subst hi
      by_cases hv : v < (wipe ρ vs).length
      · rw [List.getElem?_set_self hv] at h; cases h
      · rw [List.getElem?_eq_none (by simpa using hv)] at h; cases h
    · rw [List.getElem?_set_ne hi] at h
      obtain ⟨h1, h2⟩ := wipe_get h
      exact ⟨h1, by simp only [List.mem_cons, not_or]; exact ⟨fun e => hi e.symm, h2⟩⟩
theorem wipe_at {σ : L2.St} {i : Nat} : ∀ {vs : List Nat}, (L2.wipe σ vs)[i]? = if i ∈ vs ∧ i < σ.length then some none else σ[i]?
  | [] => by simp [L2.wipe]
  | v :: vs => by
    simp only [L2.wipe]
    by_cases hi : v = i
    · subst hi
      by_cases hv : v < σ.length
      · rw [List.getElem?_set_self (by rw [wipe_length]; exact hv)]; simp [hv]
      · rw [List.getElem?_eq_none (by rw [List.length_set, wipe_length]; omega)]
        simp [hv]
    · rw [List.getElem?_set_ne hi, wipe_at]
      have : (i = v) ↔ False := by constructor <;> intro z; exact absurd z.symm hi; exact z.elim
      simp only [List.mem_cons, this, false_or]
theorem wipe_two {σ σ' : L2.St} {vs : List Nat} (hl : σ'.length = σ.length) (h : ∀ i, i ∉ vs → σ'[i]? = (L2.wipe σ vs)[i]?) : L2.wipe σ' vs = L2.wipe σ vs := by
  apply List.ext_getElem?
  intro i
  rw [wipe_at, wipe_at]
  by_cases hi : i ∈ vs
  · by_cases hl2 : i < σ.length
    · simp [hi, hl2, hl]
    · simp only [hi, true_and, hl, hl2, if_false]
      rw [List.getElem?_eq_none (by omega), List.getElem?_eq_none (by omega)]
  · have := h i hi
    rw [wipe_at] at this
    simp only [hi, false_and, if_false] at this ⊢
    exact this
end
section
variable {X : Cx} {G : GI} {W : WX} {wd : Wd} {B ι : List Addr} {H : Hp}
theorem ER.wipe {ρ : Env} {σ : L2.St} (er : ER G B ι H ρ σ) (vs : List Nat) : ER G B ι H (MI.wipe ρ vs) (L2.wipe σ vs) :=
  ⟨by rw [wipe_len, wipe_length]; exact er.len, fun i v h => by
    obtain ⟨h1, h2⟩ := wipe_get h
    obtain ⟨w, q, r⟩ := er.get i v h1
    exact ⟨w, by rw [wipe_at, if_neg (fun z => h2 z.1)]; exact q, r⟩⟩
theorem lcmL_ok {gd : List (Nat × List MV)} {step : MV → Mem → R (Option MV)} : ∀ {xs acc : List MV} {μ : Mem}, lcmL gd step xs acc μ ≠ none → ∃ ys μ', lcmL gd step xs acc μ = some (.ok ys, μ')
  | [], acc, μ, h => by
    unfold lcmL at h ⊢
    split at h
    · rename_i z; rw [if_pos z]; exact ⟨_, _, rfl⟩
    · exact absurd rfl h
  | x :: xs, acc, μ, h => by
    unfold lcmL at h ⊢
    split at h
    · rename_i z
      rw [if_pos z]
      split at h
      · exact lcmL_ok h
      · exact lcmL_ok h
      · exact absurd rfl h
    · exact absurd rfl h
theorem lcmL_gd {gd : List (Nat × List MV)} {step : MV → Mem → R (Option MV)} : ∀ {xs acc : List MV} {μ : Mem}, lcmL gd step xs acc μ ≠ none → gdOk μ gd = true
  | [], acc, μ, h => by
    unfold lcmL at h
    split at h
    · assumption
    · exact absurd rfl h
  | x :: xs, acc, μ, h => by
    unfold lcmL at h
    split at h
    · rename_i z; exact z.1
    · exact absurd rfl h
/-- errors stay where they are -/
abbrev W0 : WX := fun _ _ _ _ => False
/-- what a turn of a comprehension does -/
noncomputable def lcStep (wd : Wd) (own : List Nat) (g : MI.G) (c e : E) (ρ : Env) (x : MV) (μ : Mem) : R (Option MV) := match asg wd g x (MI.wipe ρ own) μ with
  | some (ρ', μ') => match ev wd c ρ' μ' with
    | some (.ok (.bl true), μ1) => bnd (ev wd e ρ' μ1) fun y μ2 => some (.ok (some y), μ2)
    | some (.ok (.bl false), μ1) => some (.ok none, μ1)
    | _ => none
  | none => none
theorem ev_lcm {own : List Nat} {it : It} {g : MI.G} {c e : E} {ρ : Env} {μ : Mem} : ev wd (.lcm own it g c e) ρ μ = bnd (evIt wd it ρ μ) fun p μ => bnd (lcmL p.2 (lcStep wd own g c e ρ) p.1 [] μ) fun ys μ => some (.ok (.lv ys), μ) := by
  rw [ev]
  rfl
theorem drop_at {α : Type} {xs : List α} {i : Nat} {x : α} (h : xs[i]? = some x) : xs.drop i = x :: xs.drop (i + 1) := by
  obtain ⟨hl, e⟩ := List.getElem?_eq_some_iff.mp h
  rw [List.drop_eq_getElem_cons hl, e]
theorem lcm_of {own : List Nat} {it : It} {g : MI.G} {c e : E} {σ : L2.St} {Q : VK} (hg : ∀ i ∈ gNames g, i ∈ own) (h : tE G W wd (.lcm own it g c e) σ H Q) :
    tLc (tI G W wd it) (tG G wd g) (tT G W0 wd c) (tE G W0 wd e) own σ H Q := by
  obtain ⟨B, ι, μ, ρ, er, hr, h⟩ := h
  rw [ev_lcm] at h
  refine ⟨B, ι, μ, ρ, er, hr, h.bnd.mono (fun p μ1 h J H1 ι1 e1 hr1 wk => ?_) fun _ _ q => q⟩
  intro D hD
  have hne : lcmL p.2 (lcStep wd own g c e ρ) p.1 [] μ1 ≠ none := fun z => by rw [z] at h; exact h
  obtain ⟨fin, μf, hf⟩ := lcmL_ok hne
  rw [hf] at h
  have gd : Gd G B ι H true Q (.lv fin) μf := h
  clear h hne
  obtain ⟨Gw, Y, wlk, wk⟩ := wk
  refine lc_it wlk (fun i H' => ∃ ι' μ' acc ws, Ext G.K ι1 H1 ι' H' ∧ HR G (D :: B) ι' H' μ' ∧ H' D = some (.lst ws) ∧ RVs G (D :: B) ι' H' acc ws ∧ lcmL p.2 (lcStep wd own g c e ρ) (p.1.drop i) acc μ' = some (.ok fin, μf)) ?_ ?_ ?_ ?_
  · exact ⟨ι1, μ1, [], [], Ext.push hD, hr1.busy hD .l, upd_same, .nil, hf⟩
  · rintro i H' hi ⟨ι', μ', acc, ws, x1, x2, x3, x4, x5⟩
    exact (wk _ _ _ _ (fun _ _ r => r.later x1 hD) x2 (lcmL_gd (by rw [x5]; simp))).1
  · rintro i x H' H'' hi ⟨ι', μ', acc, ws, x1, x2, x3, x4, x5⟩ y
    have fu : Fut G B ι1 H1 (D :: B) ι' H' := fun _ _ r => r.later x1 hD
    have gok := lcmL_gd (by rw [x5]; simp : lcmL p.2 (lcStep wd own g c e ρ) (p.1.drop i) acc μ' ≠ none)
    obtain ⟨v, hv, y1, y2, y3⟩ := (wk _ _ _ _ fu x2 gok).2 i x H'' hi y
    rw [drop_at hv] at x5
    unfold lcmL at x5
    have erw : ER G (D :: B) ι' H'' (MI.wipe ρ own) (L2.wipe σ own) := (((er.mono e1).later x1 hD).mono y1).wipe own
    have hD'' : H'' D = some (.lst ws) := y1.oth _ _ x3 (x2.bu D List.mem_cons_self).2 (fun _ z => by cases z)
    split at x5
    · rename_i z
      obtain ⟨z1, z2⟩ := z
      cases hs : lcStep wd own g c e ρ v μ' with
      | none => rw [hs] at x5; cases x5
      | some rr =>
        unfold lcStep at hs
        split at hs
        · rename_i ρ2 μ2 ha
          refine ⟨D :: B, ι', μ', MI.wipe ρ own, v, ρ2, μ2, erw, y2, y3, ha, fun σ3 H3 ι3 a1 a2 a3 a4 a5 => ⟨?_, ?_⟩⟩
          · refine wipe_two (a4.trans (wipe_length σ own)) fun j hj => a5 j fun hm => hj (hg j hm)
          · have step : ∀ {H4 : Hp} {ι4 : List Addr}, Ext G.K ι3 H3 ι4 H4 → Ext G.K ι1 H1 ι4 H4 := fun q => ((x1.trans y1).trans a1).trans q
            have hD3 : H3 D = some (.lst ws) := a1.oth _ _ hD'' (y2.bu D List.mem_cons_self).2 (fun _ z => by cases z)
            split at hs
            · rename_i μ4 hc
              refine tE_then a3 a2 (good := fun v' μ' => v' = .bl true ∧ μ' = μ4) (by rw [hc]; exact ⟨rfl, rfl⟩) fun v1 μ1' w1 H4 ι4 ⟨q1, q2⟩ b1 b2 b3 _ => ?_
              subst q1 q2
              refine ⟨true, b3.bl_inv, ?_⟩
              refine iteT ?_
              have hD4 : H4 D = some (.lst ws) := b1.oth _ _ hD3 (a2.bu D List.mem_cons_self).2 (fun _ z => by cases z)
              cases he : ev wd e ρ2 μ1' with
              | none => rw [he] at hs; cases hs
              | some ee =>
                obtain ⟨oo, μ5⟩ := ee
                rw [he] at hs
                cases oo with
                | error xx =>
                  cases hs
                  rename_i hsx
                  have hsx' : lcStep wd own g c e ρ v μ' = some (.error xx, μ5) := by
                    unfold lcStep
                    rw [ha]
                    simp only [hc, he, bnd_error]
                  rw [hsx'] at x5
                  cases x5
                | ok yv =>
                  have hsx' : lcStep wd own g c e ρ v μ' = some (.ok (some yv), μ5) := by
                    unfold lcStep
                    rw [ha]
                    simp only [hc, he, bnd_ok]
                  rw [hsx'] at x5
                  have x5 : lcmL p.2 (lcStep wd own g c e ρ) (p.1.drop (i + 1)) (acc ++ [yv]) μ5 = some (.ok fin, μf) := x5
                  refine tE_then (a3.mono b1) b2 (good := fun v' μ' => v' = yv ∧ μ' = μ5) (by rw [he]; exact ⟨rfl, rfl⟩) fun v2 μ2' w2 H5 ι5 ⟨q1, q2⟩ c1 c2 c3 _ => ?_
                  subst q1 q2
                  have hD5 : H5 D = some (.lst ws) := c1.oth _ _ hD4 (b2.bu D List.mem_cons_self).2 (fun _ z => by cases z)
                  have x4' := (((x4.mono y1).mono a1).mono b1).mono c1
                  refine ⟨ws, hD5, by rw [← x4.length]; exact most_lt z2, ι5, _, _, _, (step (b1.trans c1)).grow hD hD5, c2.grow hD5, upd_same, (x4'.append (.cons c3 .nil)).grow hD5, x5⟩
            · rename_i μ4 hc
              cases hs
              have hsx' : lcStep wd own g c e ρ v μ' = some (.ok none, μ4) := by
                unfold lcStep
                rw [ha]
                simp only [hc]
              rw [hsx'] at x5
              have x5 : lcmL p.2 (lcStep wd own g c e ρ) (p.1.drop (i + 1)) acc μ4 = some (.ok fin, μf) := x5
              refine tE_then a3 a2 (good := fun v' μ' => v' = .bl false ∧ μ' = μ4) (by rw [hc]; exact ⟨rfl, rfl⟩) fun v1 μ1' w1 H4 ι4 ⟨q1, q2⟩ b1 b2 b3 _ => ?_
              subst q1 q2
              refine ⟨false, b3.bl_inv, ?_⟩
              refine iteF ?_
              have hD4 : H4 D = some (.lst ws) := b1.oth _ _ hD3 (a2.bu D List.mem_cons_self).2 (fun _ z => by cases z)
              exact ⟨ι4, _, acc, ws, step b1, b2, hD4, ((x4.mono y1).mono a1).mono b1, x5⟩
            · cases hs
        · cases hs
    · cases x5
  · rintro H' ⟨ι', μ', acc, ws, x1, x2, x3, x4, x5⟩
    rw [List.drop_length] at x5
    unfold lcmL at x5
    split at x5
    · cases x5
      have e2 := e1.trans x1
      have hHD : Nw H D := (Nw.of hD).back e1
      exact gd (.ref D) H' ι' e2 x2.idle (.lv x3 (hr1.no hD) (x2.bu D List.mem_cons_self).2 x4.idle) fun _ xs e => by
        cases e
        exact ⟨D, ws, rfl, hHD, x3, x2, x4⟩
    · cases x5
end
end MI
end
section
set_option Elab.async false
set_option linter.all false
set_option maxHeartbeats 4000000
/-! MI: statements. -/
namespace MI
open PySem PySem.Spec PyProof.Rows L2
section
variable (G : GI) (B ι : List Addr) (H : Hp) (W : WX)
/-- how a statement ends, as D asks it -/
def OutS (D : Ends) (r : RS) : Prop := match r with
  | none => False
  | some (.nxt ρ, μ) => ∀ σ' H' ι', Ext G.K ι H ι' H' → HR G B ι' H' μ → ER G B ι' H' ρ σ' → D.nx σ' H'
  | some (.brk ρ, μ) => ∀ σ' H' ι', Ext G.K ι H ι' H' → HR G B ι' H' μ → ER G B ι' H' ρ σ' → D.bk σ' H'
  | some (.cnt ρ, μ) => ∀ σ' H' ι', Ext G.K ι H ι' H' → HR G B ι' H' μ → ER G B ι' H' ρ σ' → D.ct σ' H'
  | some (.ret v, μ) => ∀ w H' ι', Ext G.K ι H ι' H' → HR G B ι' H' μ → RV G B ι' H' v w → D.rt w H'
  | some (.exc x ρ, μ) => ∀ cls d σ' H' ι', Ext G.K ι H ι' H' → HR G B ι' H' μ → ER G B ι' H' ρ σ' → RX G B ι' H' cls d x → W cls d σ' H'
end
section
variable {G : GI} {B ι ι' : List Addr} {H H' : Hp} {W : WX} {D : Ends}
theorem OutS.ext {r : RS} (h : OutS G B ι H W D r) (e : Ext G.K ι H ι' H') : OutS G B ι' H' W D r := by
  match r, h with
  | some (.nxt ρ, μ), h => exact fun σ' H2 ι2 e2 => h σ' H2 ι2 (e.trans e2)
  | some (.brk ρ, μ), h => exact fun σ' H2 ι2 e2 => h σ' H2 ι2 (e.trans e2)
  | some (.cnt ρ, μ), h => exact fun σ' H2 ι2 e2 => h σ' H2 ι2 (e.trans e2)
  | some (.ret v, μ), h => exact fun w H2 ι2 e2 => h w H2 ι2 (e.trans e2)
  | some (.exc x ρ, μ), h => exact fun c d σ' H2 ι2 e2 => h c d σ' H2 ι2 (e.trans e2)
/-- behind an expression -/
theorem OutS.thenE {α : Type} {ρ : Env} {r : R α} {k : α → Mem → RS} {σ : L2.St} (er : ER G B ι H ρ σ) (h : OutS G B ι H W D (thenE ρ r k)) : Out r (fun v μ => OutS G B ι H W D (k v μ)) (Bad G B ι H W σ) := by
  match r, h with
  | some (.ok v, μ), h => exact h
  | some (.error x, μ), h => exact fun cls d H' ι' e hr rx => h cls d σ H' ι' e hr (er.mono e) rx
end
def tS (G : GI) (W : WX) (wd : Wd) (s : S) : TS := fun D σ H => ∃ B ι μ ρ, ER G B ι H ρ σ ∧ HR G B ι H μ ∧ OutS G B ι H W D (exec wd s ρ μ)
def tSs (G : GI) (W : WX) (wd : Wd) (s : SS) : TS := fun D σ H => ∃ B ι μ ρ, ER G B ι H ρ σ ∧ HR G B ι H μ ∧ OutS G B ι H W D (execs wd s ρ μ)
section
variable {X : Cx} {G : GI} {W : WX} {wd : Wd}
theorem ss_nil : PSs X [] (tSs G W wd .nil) := pssW pss_nil fun D σ H ⟨B, ι, μ, ρ, er, hr, h⟩ => by
  simp only [execs] at h
  exact h σ H ι Ext.refl hr er
theorem ss_cons {st : Stmt} {rest : List Stmt} {s : S} {ss : SS} (h1 : PS X st (tS G W wd s)) (h2 : PSs X rest (tSs G W wd ss)) : PSs X (st :: rest) (tSs G W wd (.cons s ss)) :=
  pssW (pss_cons h1 h2) fun D σ H ⟨B, ι, μ, ρ, er, hr, h⟩ => by
    simp only [execs] at h
    refine ⟨B, ι, μ, ρ, er, hr, ?_⟩
    match q : exec wd s ρ μ with
    | none => rw [q] at h; exact h.elim
    | some (.nxt ρ1, μ1) =>
      rw [q] at h
      exact fun σ1 H1 ι1 e1 hr1 er1 => ⟨B, ι1, μ1, ρ1, er1, hr1, h.ext e1⟩
    | some (.brk ρ1, μ1) => rw [q] at h; exact h
    | some (.cnt ρ1, μ1) => rw [q] at h; exact h
    | some (.ret v, μ1) => rw [q] at h; exact h
    | some (.exc x ρ1, μ1) => rw [q] at h; exact h
theorem asg_of {g : MI.G} {e : E} {D : Ends} {σ : L2.St} {H : Hp} (h : tS G W wd (.asg g e) D σ H) : tAsg (tE G W wd e) (tG G wd g) D σ H := by
  obtain ⟨B, ι, μ, ρ, er, hr, h⟩ := h
  simp only [exec] at h
  refine tE_then er hr (h.thenE er) fun v μ1 w H1 ι1 g1 e1 hr1 r1 _ => ?_
  unfold asgK at g1
  cases q : asg wd g v ρ μ1 with
  | none => rw [q] at g1; exact g1.elim
  | some p =>
    obtain ⟨ρ', μ'⟩ := p
    rw [q] at g1
    exact ⟨B, ι1, μ1, ρ, v, ρ', μ', er.mono e1, hr1, r1, q, fun σ' H' ι' x1 x2 x3 _ _ => g1 σ' H' ι' (e1.trans x1) x2 x3⟩
theorem s_asg {tg e : Expr} {g : MI.G} {e' : E} {pos : Pos} (he : PE X e (tE G W wd e')) (hg : PG X tg (tG G wd g)) (hs : swapsWithSole [tg] e pos.line X.env = pure false) (hw : swappedStores [tg] e X.env = pure none) (h1 : (assignEach [tg] X.env).map (·.2) = [assign tg X.env]) :
    PS X (.Assign [tg] e pos) (tS G W wd (.asg g e')) := psW (ps_asg he hg hs hw h1) fun D σ H h => asg_of h
/-- a, b = x, y -/
theorem s_par {i j : Nat} {x y : Str} {a b : Expr} {a' b' : E} {px py pt pos : Pos} {kt k2 pt2} (hc : X.calm = true) (hN : X.N.Nodup) (hi : X.N[i]? = some x) (hj : X.N[j]? = some y) (hij : i ≠ j)
    (hx : X.env.scope.names.lookup x = some .local) (hy : X.env.scope.names.lookup y = some .local) (ha : PA X [a, b] (tEs G W wd (.cons a' (.cons b' .nil))))
    (hw : swappedStores [.Tuple [.Name x px, .Name y py] kt pt] (.Tuple [a, b] k2 pt2) X.env = pure (some [x, y]))
    (hs : swapsWithSole [.Tuple [.Name x px, .Name y py] kt pt] (.Tuple [a, b] k2 pt2) pos.line X.env = pure false) :
    PS X (.Assign [.Tuple [.Name x px, .Name y py] kt pt] (.Tuple [a, b] k2 pt2) pos) (tS G W wd (.asg (.tp (.cons (.nm i) (.cons (.nm j) .nil))) (.tup (.cons a' (.cons b' .nil))))) :=
  psW (ps_par hc hN hi hj hij hx hy ha hw hs) fun D σ H ⟨B, ι, μ, ρ, er, hr, h⟩ => by
    simp only [exec] at h
    have h := h.thenE er
    simp only [ev] at h
    refine tEs_then er hr h.bnd fun xs μ1 vs H1 ι1 g e1 hr1 rs => ?_
    split at g
    · have g : OutS G B ι H W D (asgK (asg wd (.tp (.cons (.nm i) (.cons (.nm j) .nil))) (.tup xs) ρ μ1)) := g
      simp only [asg] at g
      match xs, rs with
      | [], rs => exact g.elim
      | [p], rs => unfold asgs at g; simp only [asg] at g; split at g <;> simp only [asgs, asgK, Option.map_none] at g <;> exact g.elim
      | p :: q :: r :: t, rs =>
        exfalso
        by_cases hi2 : i < ρ.length <;> by_cases hj2 : j < ρ.length <;> simp [asgs, asg, asgK, hi2, hj2, OutS] at g
      | [p, q], rs =>
        obtain ⟨v, w, rfl, r1, r2⟩ := rs.two
        refine ⟨v, w, rfl, ?_⟩
        by_cases hi2 : i < ρ.length
        · by_cases hj2 : j < ρ.length
          · simp only [asgs, asg, asgK, hi2, hj2, List.length_set, if_true, Option.map_some] at g
            exact g _ H1 ι1 e1 hr1 (((er.mono e1).put r1).put r2)
          · simp [asgs, asg, asgK, hi2, hj2, OutS] at g
        · simp [asgs, asg, asgK, hi2, OutS] at g
    · exact g.elim
theorem s_ex {e : Expr} {e' : E} {pos : Pos} (he : PE X e (tE G W wd e')) (hs : swapsWith e none pos.line X.env = pure false) : PS X (.Expr e pos) (tS G W wd (.ex e')) :=
  psW (ps_expr he hs) fun D σ H ⟨B, ι, μ, ρ, er, hr, h⟩ => by
    simp only [exec] at h
    exact tE_then er hr (h.thenE er) fun v μ1 w H1 ι1 g e1 hr1 r1 _ => g σ H1 ι1 e1 hr1 (er.mono e1)
theorem s_ret {e : Expr} {e' : E} {pos : Pos} (he : PE X e (tE G W wd e')) : PS X (.Return (some e) pos) (tS G W wd (.ret e')) :=
  psW (ps_ret he) fun D σ H ⟨B, ι, μ, ρ, er, hr, h⟩ => by
    simp only [exec] at h
    exact tE_then er hr (h.thenE er) fun v μ1 w H1 ι1 g e1 hr1 r1 _ => g w H1 ι1 e1 hr1 r1
theorem s_retN {pos : Pos} : PS X (.Return none pos) (tS G W wd (.ret (.con .non))) :=
  psW ps_retN fun D σ H ⟨B, ι, μ, ρ, er, hr, h⟩ => by
    simp only [exec, ev, thenE_ok] at h
    exact h _ H ι Ext.refl hr .non
theorem s_pas {pos : Pos} : PS X (.Pass pos) (tS G W wd .pas) := psW ps_pass fun D σ H ⟨B, ι, μ, ρ, er, hr, h⟩ => by
  simp only [exec] at h
  exact h σ H ι Ext.refl hr er
theorem s_brk {pos : Pos} : PS X (.Break pos) (tS G W wd .brk) := psW ps_break fun D σ H ⟨B, ι, μ, ρ, er, hr, h⟩ => by
  simp only [exec] at h
  exact h σ H ι Ext.refl hr er
theorem s_cnt {pos : Pos} : PS X (.Continue pos) (tS G W wd .cnt) := psW ps_continue fun D σ H ⟨B, ι, μ, ρ, er, hr, h⟩ => by
  simp only [exec] at h
  exact h σ H ι Ext.refl hr er
theorem s_nev {x : Stmt} : PS X x (tS G W wd .nev) := psW ps_never fun D σ H ⟨B, ι, μ, ρ, er, hr, h⟩ => by
  simp only [exec] at h
  exact h.elim
theorem s_ite {c : Expr} {a b : List Stmt} {c' : E} {a' b' : SS} {pos : Pos} (hc : PT X c (tT G W wd c')) (ha : PSs X a (tSs G W wd a')) (hb : PSs X b (tSs G W wd b')) : PS X (.If c a b pos) (tS G W wd (.ite c' a' b')) :=
  psW (ps_if hc ha hb) fun D σ H ⟨B, ι, μ, ρ, er, hr, h⟩ => by
    simp only [exec] at h
    refine tE_then er hr (h.thenE er) fun v μ1 w H1 ι1 g e1 hr1 r1 _ => ?_
    split at g
    · exact ⟨true, r1.bl_inv, iteT ⟨B, ι1, μ1, ρ, er.mono e1, hr1, g.ext e1⟩⟩
    · exact ⟨false, r1.bl_inv, iteF ⟨B, ι1, μ1, ρ, er.mono e1, hr1, g.ext e1⟩⟩
    · exact g.elim
theorem wh_to {fu : Option Nat} {t : Env → Mem → R MV} {b : Env → Mem → RS} {ρ : Env} {μ : Mem} {r : Fl × Mem} (h : wh fu t b ρ μ = some r) : ∃ n, whN t b n ρ μ = some r := by
  unfold wh at h
  split at h
  · exact ⟨_, h⟩
  · exact whD_to h
theorem s_whl {c : Expr} {body : List Stmt} {c' : E} {b' : SS} {pos : Pos} (hp : PassesOwn (model X.prog X.w) X.A X.env X.xe) (hc : PT X c (tT G W wd c')) (hb : PSs X body (tSs G W wd b')) : PS X (.While c body [] pos) (tS G W wd (.whl c' b')) :=
  psW (ps_while hp hc hb) fun D σ H ⟨B, ι, μ, ρ, er, hr, h⟩ => by
    simp only [exec] at h
    obtain ⟨r, hw⟩ : ∃ r, wh wd.fu (fun ρ μ => ev wd c' ρ μ) (fun ρ μ => execs wd b' ρ μ) ρ μ = some r := by
      cases q : wh wd.fu (fun ρ μ => ev wd c' ρ μ) (fun ρ μ => execs wd b' ρ μ) ρ μ with
      | none => rw [q] at h; exact h.elim
      | some r => exact ⟨r, rfl⟩
    rw [hw] at h
    obtain ⟨n0, hn⟩ := wh_to hw
    refine ⟨fun m σ1 H1 => ∃ ι1 μ1 ρ1, Ext G.K ι H ι1 H1 ∧ HR G B ι1 H1 μ1 ∧ ER G B ι1 H1 ρ1 σ1 ∧ whN (fun ρ μ => ev wd c' ρ μ) (fun ρ μ => execs wd b' ρ μ) m ρ1 μ1 = some r, ⟨n0, ι, μ, ρ, Ext.refl, hr, er, hn⟩, ?_⟩
    rintro m σ1 H1 ⟨ι1, μ1, ρ1, e1, hr1, er1, hm⟩
    cases m with
    | zero => simp [whN] at hm
    | succ m =>
      rw [whN] at hm
      have he := h.ext e1
      match q : ev wd c' ρ1 μ1 with
      | none => rw [q] at hm; cases hm
      | some (.error x, μ2) =>
        rw [q] at hm
        cases hm
        exact ⟨B, ι1, μ1, ρ1, er1, hr1, by rw [q]; exact fun cls d H' ι' x1 x2 x3 => he cls d σ1 H' ι' x1 x2 (er1.mono x1) x3⟩
      | some (.ok v, μ2) =>
        rw [q] at hm
        refine tE_then er1 hr1 (good := fun v' μ' => v' = v ∧ μ' = μ2) (by rw [q]; exact ⟨rfl, rfl⟩) fun v' μ' w H2 ι2 ⟨z1, z2⟩ x1 hr2 r2 _ => ?_
        subst z1 z2
        cases v' with
        | bl k =>
          refine ⟨k, r2.bl_inv, ?_⟩
          cases k with
          | false =>
            simp only at hm
            cases hm
            exact iteF (he σ1 H2 ι2 x1 hr2 (er1.mono x1))
          | true =>
            simp only at hm
            refine iteT ⟨fun σ3 H3 => ∃ ι3 μ3 ρ3, Ext G.K ι H ι3 H3 ∧ HR G B ι3 H3 μ3 ∧ ER G B ι3 H3 ρ3 σ3 ∧ whN (fun ρ μ => ev wd c' ρ μ) (fun ρ μ => execs wd b' ρ μ) m ρ3 μ3 = some r, fun σ' H' z => ⟨m, Nat.lt_succ_self _, z⟩, ?_⟩
            refine ⟨B, ι2, μ', ρ1, er1.mono x1, hr2, ?_⟩
            have e2 := e1.trans x1
            match q2 : execs wd b' ρ1 μ' with
            | none => rw [q2] at hm; cases hm
            | some (.nxt ρ3, μ3) => rw [q2] at hm; exact fun σ3 H3 ι3 y1 y2 y3 => ⟨ι3, μ3, ρ3, e2.trans y1, y2, y3, hm⟩
            | some (.cnt ρ3, μ3) => rw [q2] at hm; exact fun σ3 H3 ι3 y1 y2 y3 => ⟨ι3, μ3, ρ3, e2.trans y1, y2, y3, hm⟩
            | some (.brk ρ3, μ3) => rw [q2] at hm; cases hm; exact he.ext x1
            | some (.ret v, μ3) => rw [q2] at hm; cases hm; exact he.ext x1
            | some (.exc x ρ3, μ3) => rw [q2] at hm; cases hm; exact he.ext x1
        | _ => cases hm
/-- a turn of a for -/
noncomputable def frStep (wd : Wd) (g : MI.G) (b : SS) (x : MV) (ρ : Env) (μ : Mem) : RS := match asg wd g x ρ μ with
  | some (ρ', μ') => execs wd b ρ' μ'
  | none => none
theorem forL_gd {gd : List (Nat × List MV)} {step : MV → Env → Mem → RS} {xs : List MV} {ρ : Env} {μ : Mem} (h : forL gd step xs ρ μ ≠ none) : gdOk μ gd = true := by
  cases xs <;> (unfold forL at h; split at h; assumption; exact absurd rfl h)
theorem s_fr {tg iter : Expr} {body : List Stmt} {it : It} {g : MI.G} {b' : SS} {pos : Pos} (hp : PassesOwn (model X.prog X.w) X.A X.env X.xe) (hc : X.calm = true) (hi : PI X tg iter (tI G W wd it)) (hg : PG X tg (tG G wd g)) (hb : PSs X body (tSs G W wd b'))
    (hs : ∀ x, foldedSetIterable iter X.env x = pure x) : PS X (.For tg iter body [] pos) (tS G W wd (.fr g it b')) :=
  psW (ps_for hp hc hi hg hb hs) fun D σ H ⟨B, ι, μ, ρ, er, hr, h⟩ => by
    simp only [exec] at h
    refine ⟨B, ι, μ, ρ, er, hr, (h.thenE er).mono (fun p μ1 g1 J H1 ι1 e1 hr1 wk => ?_) fun _ _ q => q⟩
    have g1 : OutS G B ι H W D (forL p.2 (frStep wd g b') p.1 ρ μ1) := g1
    obtain ⟨Gw, Y, wlk, wk⟩ := wk
    have def_ : ∀ {xs : List MV} {ρ : Env} {μ : Mem}, OutS G B ι H W D (forL p.2 (frStep wd g b') xs ρ μ) → forL p.2 (frStep wd g b') xs ρ μ ≠ none := fun z q => by rw [q] at z; exact z
    refine for_it wlk (fun i σ2 H2 => ∃ ι2 μ2 ρ2, Ext G.K ι1 H1 ι2 H2 ∧ HR G B ι2 H2 μ2 ∧ ER G B ι2 H2 ρ2 σ2 ∧ OutS G B ι H W D (forL p.2 (frStep wd g b') (p.1.drop i) ρ2 μ2)) ?_ ?_ ?_ ?_
    · exact ⟨ι1, μ1, ρ, Ext.refl, hr1, er.mono e1, g1⟩
    · rintro i σ2 H2 hi ⟨ι2, μ2, ρ2, x1, x2, x3, x4⟩
      exact (wk _ _ _ _ (Fut.ext x1) x2 (forL_gd (def_ x4))).1
    · rintro i x σ2 H2 H3 hi ⟨ι2, μ2, ρ2, x1, x2, x3, x4⟩ y
      have gok := forL_gd (def_ x4)
      obtain ⟨v, hv, y1, y2, y3⟩ := (wk _ _ _ _ (Fut.ext x1) x2 gok).2 i x H3 hi y
      rw [drop_at hv] at x4
      unfold forL at x4
      rw [if_pos gok] at x4
      match q : frStep wd g b' v ρ2 μ2 with
      | none => rw [q] at x4; exact x4.elim
      | some (f, μ4) =>
        have q' := q
        unfold frStep at q'
        split at q'
        · rename_i ρ3 μ3 ha
          refine ⟨B, ι2, μ2, ρ2, v, ρ3, μ3, x3.mono y1, y2, y3, ha, fun σ4 H4 ι4 a1 a2 a3 _ _ => ⟨B, ι4, μ3, ρ3, a3, a2, ?_⟩⟩
          have e4 := (x1.trans y1).trans a1
          rw [q'] 
          rw [q] at x4
          cases f with
          | nxt ρ5 => exact fun σ5 H5 ι5 c1 c2 c3 => ⟨ι5, μ4, ρ5, e4.trans c1, c2, c3, x4⟩
          | cnt ρ5 => exact fun σ5 H5 ι5 c1 c2 c3 => ⟨ι5, μ4, ρ5, e4.trans c1, c2, c3, x4⟩
          | brk ρ5 => exact x4.ext (e1.trans e4)
          | ret v => exact x4.ext (e1.trans e4)
          | exc x ρ5 => exact x4.ext (e1.trans e4)
        · cases q'
    · rintro σ2 H2 ⟨ι2, μ2, ρ2, x1, x2, x3, x4⟩
      have gok := forL_gd (def_ x4)
      rw [List.drop_length] at x4
      unfold forL at x4
      rw [if_pos gok] at x4
      exact x4 σ2 H2 ι2 (e1.trans x1) x2 x3
end
end MI
end
section
set_option Elab.async false
set_option linter.all false
set_option maxHeartbeats 4000000
/-! MI: isinstance, methods, rows of numbers, dict displays. -/
namespace MI
open PySem PySem.Spec PyProof.Rows L2
/-! ### isinstance -/
def tyM (μ : Mem) : MV → Option String
  | .non => some "NoneType"
  | .bl _ => some "bool"
  | .int _ => some "int"
  | .str _ => some "str"
  | .tup _ => some "tuple"
  | .lv _ => some "list"
  | .fl _ => some "list"
  | .loc k => match μ[k]? with
    | some (.lst _) => some "list"
    | some (.dic _) => some "dict"
    | none => none
  | _ => none
def clN : Cl → Option String
  | .int => some "int"
  | .bool => some "bool"
  | .tuple => some "tuple"
  | .list => some "list"
  | .str => some "str"
  | .dict => some "dict"
  | .own _ => none
section
variable {G : GI} {B ι : List Addr} {H : Hp} {μ : Mem}
theorem ty_of {v : MV} {w : V} {t : String} (hr : HR G B ι H μ) (r : RV G B ι H v w) (h : tyM μ v = some t) : TyX G.K H w (.type t) := by
  cases r with
  | non => cases h; exact .base .non
  | bl b => cases h; exact .base (.bl b)
  | int i => cases h; exact .base (.int i)
  | str s => cases h; exact .base (.str s)
  | tup q _ =>
    cases h
    rcases q with (q | ⟨o, q⟩) | ⟨o, its, n, q1, q2, _⟩
    · exact .base (.tup q)
    · exact .fTuple q
    · exact .kTuple q1 q2
  | lv q _ _ _ => cases h; exact .base (.lst q)
  | flH q _ _ => cases h; exact .base (.frz q)
  | flK q _ => cases h; exact .kList q.1 q.2.1
  | exo _ _ _ _ _ => simp [tyM] at h
  | thk _ => simp [tyM] at h
  | loc hn =>
    rename_i n a
    simp only [tyM] at h
    split at h
    · rename_i xs e
      cases h
      obtain ⟨a', hn', vs, q, _⟩ := hr.get e
      rw [hn] at hn'
      cases hn'
      exact .base (.lst q)
    · rename_i xs e
      cases h
      obtain ⟨a', hn', vs, q, _⟩ := hr.get e
      rw [hn] at hn'
      cases hn'
      exact .base (.dK q)
    · cases h
theorem ty_some {sub : Nat → Nat → Option Bool} {v : MV} {c : Cl} {n : String} {b : Bool} (hc : clN c = some n) (h : isCls μ sub v [c] = some b) : ∃ t, tyM μ v = some t := by
  cases v with
  | loc k =>
    unfold isCls at h
    simp only [tyM]
    cases e : μ[k]? with
    | none => cases c <;> simp [clN, e] at h hc
    | some o => cases o <;> exact ⟨_, rfl⟩
  | exo _ _ => unfold isCls at h; cases c <;> simp [isCl, clN] at h hc
  | thk _ => unfold isCls at h; cases c <;> simp [isCl] at h
  | _ => exact ⟨_, rfl⟩
theorem kit_cl {sub : Nat → Nat → Option Bool} {v : MV} {c : Cl} {n t : String} {b : Bool} (hc : clN c = some n) (ht : tyM μ v = some t) (h : isCls μ sub v [c] = some b) : kitB t n = some b := by
  cases v with
  | loc k =>
    simp only [tyM] at ht
    unfold isCls at h
    split at ht
    · rename_i xs e
      cases ht
      simp only [e, Option.bind_some] at h
      cases c <;> simp only [clN, reduceCtorEq, Option.some.injEq] at hc <;> subst hc <;> simp [isCls] at h <;> subst h <;> decide +kernel
    · rename_i xs e
      cases ht
      simp only [e, Option.bind_some] at h
      cases c <;> simp only [clN, reduceCtorEq, Option.some.injEq] at hc <;> subst hc <;> simp [isCls] at h <;> subst h <;> decide +kernel
    · cases ht
  | exo _ _ => simp [tyM] at ht
  | thk _ => simp [tyM] at ht
  | _ =>
    simp only [tyM, Option.some.injEq] at ht
    subst ht
    unfold isCls at h
    cases c <;> simp only [clN, reduceCtorEq, Option.some.injEq] at hc <;> subst hc <;> simp [isCl, isCls] at h <;> subst h <;> decide +kernel
end
section
variable {X : Cx} {G : GI} {W : WX} {wd : Wd}
theorem s_isi {x y : Str} {a : Expr} {a' : E} {c : Cl} {n : String} {p q pos : Pos} (hK : X.K = G.K) (hc : clN c = some n) (hx : x = "isinstance") (hg : Gl X x) (hm : X.mg x = none) (hgy : Gl X y) (hmy : X.mg y = none) (hv : bootBuiltins y = some (.type n)) (hny : y ≠ "__name__") (hdy : (y == ("__debug__" : Str)) = false)
    (ha : PE X a (tE G W wd a')) (he : starEach [a, .Name y q] X.env = (false, eval a X.env) :: starEach [.Name y q] X.env) (hpl : (backTo pos (starEach [.Name y q] X.env)).any (·.1) = false) :
    PE X (.Call (.Name x p) [a, .Name y q] [] pos) (tE G W wd (.isi a' [c])) := by
  subst hx
  have hny2 : PE X (.Name y q) (tC (.ty n)) := pe_bltn hgy hmy hv rfl hny hdy
  have hargs : PA X [a, .Name y q] (tCons (tE G W wd a') (tCons (tC (.ty n)) tNil)) := pa_cons ha (pa_cons hny2 pa_nil rfl) he
  have call : PE X (.Call (.Name "isinstance" p) [a, .Name y q] [] pos) (tCB (rIsi X.K) (tCons (tE G W wd a') (tCons (tC (.ty n)) tNil))) :=
    pe_callB call_isi hg hm (by decide +kernel) hargs (by decide) (by decide) he hpl
  exact peW call fun σ H Q ⟨B, ι, μ, ρ, er, hr, h⟩ => by
    simp only [ev] at h
    have h := h.bnd
    cases q0 : ev wd a' ρ μ with
    | none => rw [q0] at h; exact h.elim
    | some z =>
      obtain ⟨o, μ1⟩ := z
      rw [q0] at h
      cases o with
      | error e => exact ⟨B, ι, μ, ρ, er, hr, by rw [q0]; exact h⟩
      | ok v =>
        refine tE_then er hr (good := fun v' μ' => v' = v ∧ μ' = μ1) (by rw [q0]; exact ⟨rfl, rfl⟩) fun v' μ' w H1 ι1 ⟨z1, z2⟩ e1 hr1 r1 _ => ?_
        subst z1 z2
        obtain ⟨b, hb, g⟩ := Out.ok h
        obtain ⟨b', hb', rfl⟩ := Option.map_eq_some_iff.mp hb
        obtain ⟨t, ht⟩ := ty_some hc hb'
        exact ⟨w, .ty n, .type t, .type n, b', rfl, .ty n, by rw [hK]; exact ty_of hr1 r1 ht, by rw [hK]; exact kit_ty (kit_cl hc ht hb'), g _ H1 ι1 e1 hr1 (.bl _) fun z => by cases z⟩
/-! ### methods of lists -/
def meId : Me → String
  | .append => "list.append"
  | .pop0 => "list.pop"
  | .pop1 => "list.pop"
def MeR (X : Cx) (G : GI) (m : Me) : Prop := ∃ r : V → List V → Hp → VK → Prop, MtR X (meId m) r ∧ ∀ {B ι : List Addr} {H : Hp} {μ μ' : Mem} {o z : MV} {xs : List MV} {w : V} {vs : List V} {Q : VK}, HR G B ι H μ → RV G B ι H o w → RVs G B ι H xs vs → evMe μ m o xs = some (z, μ') →
  (∀ (u : V) (H' : Hp), Ext G.K ι H ι H' → HR G B ι H' μ' → RV G B ι H' z u → Q u H') → r w vs H Q
theorem m_append : MeR X G .append := by
  refine ⟨_, mt_append, fun {B ι H μ μ' o z xs w vs Q} hr ro rs h q => ?_⟩
  unfold evMe at h
  split at h <;> try contradiction
  rename_i k v _
  split at h
  · rename_i ys e
    split at h
    · rename_i hl
      cases h
      obtain ⟨a, hn, ws, h1, r2⟩ := hr.get e
      cases ro with
      | loc hn' =>
        rw [hn] at hn'
        cases hn'
        obtain ⟨u, rfl, r⟩ := rs.one
        obtain ⟨e1, hr'⟩ := wr_lst hr hn h1 (r2.append (.cons r .nil))
        exact ⟨a, ws, u, rfl, rfl, h1, by rw [← r2.length]; exact most_lt hl, q _ _ e1 hr' .non⟩
    · cases h
  · cases h
theorem last_at {xs : List MV} {vs : List V} {B ι : List Addr} {H : Hp} {y : MV} (r : RVs G B ι H xs vs) (h : xs[xs.length - 1]? = some y) : ∃ u, vs[vs.length - 1]? = some u ∧ RV G B ι H y u := by
  rw [r.length] at h
  exact r.get h
theorem m_pop0 : MeR X G .pop0 := by
  refine ⟨_, mt_pop, fun {B ι H μ μ' o z xs w vs Q} hr ro rs h q => ?_⟩
  unfold evMe at h
  split at h <;> try contradiction
  rename_i k _
  split at h
  · rename_i ys e
    obtain ⟨y, hy, e2⟩ := Option.map_eq_some_iff.mp h
    cases e2
    obtain ⟨a, hn, ws, h1, r2⟩ := hr.get e
    cases ro with
    | loc hn' =>
      rw [hn] at hn'
      cases hn'
      cases rs
      obtain ⟨u, hu, ru⟩ := last_at r2 hy
      obtain ⟨e1, hr'⟩ := wr_lst hr hn h1 r2.dropLast
      exact ⟨a, ws, u, rfl, rfl, h1, hu, q _ _ e1 hr' (ru.mono e1)⟩
  · cases h
theorem m_pop1 : MeR X G .pop1 := by
  refine ⟨_, mt_popAt, fun {B ι H μ μ' o z xs w vs Q} hr ro rs h q => ?_⟩
  unfold evMe at h
  split at h <;> try contradiction
  rename_i k i _
  split at h
  · rename_i ys e
    obtain ⟨j, hj, h⟩ := Option.bind_eq_some_iff.mp h
    split at h
    · rename_i hl
      obtain ⟨y, hy, e2⟩ := Option.map_eq_some_iff.mp h
      cases e2
      obtain ⟨a, hn, ws, h1, r2⟩ := hr.get e
      cases ro with
      | loc hn' =>
        rw [hn] at hn'
        cases hn'
        obtain ⟨u, rfl, r⟩ := rs.one
        rw [r.int_inv]
        obtain ⟨u, hu, ru⟩ := r2.get hy
        obtain ⟨e1, hr'⟩ := wr_lst hr hn h1 (r2.eraseIdx j)
        obtain ⟨s1, s2, s3, s4⟩ := ixN_seq hj
        have hl' : ys.length ≤ 16000000 := hl
        exact ⟨a, ws, i, j, u, rfl, rfl, h1, by omega, by omega, by rw [← r2.length]; exact s1, hu, q _ _ e1 hr' (ru.mono e1)⟩
    · cases h
  · cases h
theorem tyV_loc {B ι : List Addr} {H : Hp} {μ μ' : Mem} {m : Me} {o z : MV} {xs : List MV} {w : V} (hr : HR G B ι H μ) (ro : RV G B ι H o w) (h : ∃ k ys, o = .loc k ∧ μ[k]? = some (.lst ys)) : tyV G.K "list" w H := by
  obtain ⟨k, ys, rfl, e⟩ := h
  obtain ⟨a, hn, ws, h1, r2⟩ := hr.get e
  cases ro with
  | loc hn' =>
    rw [hn] at hn'
    cases hn'
    exact .inl ⟨rfl, ws, .inl (.inl h1)⟩
theorem evMe_loc {μ μ' : Mem} {m : Me} {o z : MV} {xs : List MV} (h : evMe μ m o xs = some (z, μ')) : ∃ k ys, o = .loc k ∧ μ[k]? = some (.lst ys) := by
  unfold evMe at h
  split at h <;> try contradiction
  all_goals
    split at h
    · rename_i e; exact ⟨_, _, rfl, e⟩
    · cases h
theorem s_mth {m : Me} {name : Str} {o : Expr} {args : List Expr} {o' : E} {es' : ES} {apos cpos : Pos} (hK : X.K = G.K) (hm : MeR X G m) (slot : ∀ r, MtR X (meId m) r → PE X (.Call (.Attribute o name apos) args [] cpos) (tBM X.K "list" r (tE G W wd o') (tEs G W wd es'))) :
    PE X (.Call (.Attribute o name apos) args [] cpos) (tE G W wd (.mth m o' es')) := by
  obtain ⟨r, h1, h2⟩ := hm
  exact peW (slot r h1) fun σ H Q ⟨B, ι, μ, ρ, er, hr, h⟩ => by
    simp only [ev] at h
    refine tE_then er hr h.bnd fun x μ1 v H1 ι1 g e1 hr1 rx _ => ?_
    split at g
    · rename_i ls e
      obtain ⟨a, vs, rfl, hv, _⟩ := lsOf_rv hr1 e rx
      refine ⟨.inl ⟨rfl, vs, .inl (.inl hv)⟩, ?_⟩
      refine tEs_then (er.mono e1) hr1 (g.bnd.mono (fun _ _ q => q) fun _ _ q => q.ext e1) fun xs μ2 vs H2 ι2 g e2 hr2 rs => ?_
      split at g
      · rename_i z μ3 hz
        exact h2 hr2 (rx.mono e2) rs hz fun u H' e' hr' ru => g u H' ι2 ((e1.trans e2).trans e') hr' ru fun y => by cases y
      · exact g.elim
    · exact g.elim
theorem s_append {o e : Expr} {o' e' : E} {name : Str} {apos cpos : Pos} (hK : X.K = G.K) (hn : name = "append") (ho : PE X o (tE G W wd o')) (he : PE X e (tE G W wd e')) (hb : attributeBase o name X.env (eval o X.env) = eval o X.env)
    (hf : ((backTo cpos (starEach [e] X.env)).all (fun x => !x.1) && (backToKw cpos (keywordEach [] X.env)).all (fun x => x.1.isSome)
      && decide ([e].length + ([] : List Keyword).length + (if ([] : List Keyword).isEmpty then 0 else 1) < 30)) = true) (hl : (apos.endLine == cpos.line) = true) (hs : starEach [e] X.env = (false, eval e X.env) :: starEach [] X.env) (hp : (backTo cpos (starEach [] X.env)).any (·.1) = false) :
    PE X (.Call (.Attribute o name apos) [e] [] cpos) (tE G W wd (.mth .append o' (.cons e' .nil))) := by
  subst hn
  exact s_mth hK m_append fun r hr => pe_bm PySem.F.plainAttrs_list PySem.F.slot_list_append PySem.F.type_list_append hr ho (s_acons he s_anil hs) hb hf hl hs hp
theorem s_pop1 {o e : Expr} {o' e' : E} {name : Str} {apos cpos : Pos} (hK : X.K = G.K) (hn : name = "pop") (ho : PE X o (tE G W wd o')) (he : PE X e (tE G W wd e')) (hb : attributeBase o name X.env (eval o X.env) = eval o X.env)
    (hf : ((backTo cpos (starEach [e] X.env)).all (fun x => !x.1) && (backToKw cpos (keywordEach [] X.env)).all (fun x => x.1.isSome)
      && decide ([e].length + ([] : List Keyword).length + (if ([] : List Keyword).isEmpty then 0 else 1) < 30)) = true) (hl : (apos.endLine == cpos.line) = true) (hs : starEach [e] X.env = (false, eval e X.env) :: starEach [] X.env) (hp : (backTo cpos (starEach [] X.env)).any (·.1) = false) :
    PE X (.Call (.Attribute o name apos) [e] [] cpos) (tE G W wd (.mth .pop1 o' (.cons e' .nil))) := by
  subst hn
  exact s_mth hK m_pop1 fun r hr => pe_bm PySem.F.plainAttrs_list PySem.F.slot_list_pop PySem.F.type_list_pop hr ho (s_acons he s_anil hs) hb hf hl hs hp
theorem s_pop0 {o : Expr} {o' : E} {name : Str} {apos cpos : Pos} (hK : X.K = G.K) (hn : name = "pop") (ho : PE X o (tE G W wd o')) (hb : attributeBase o name X.env (eval o X.env) = eval o X.env) (hl : (apos.endLine == cpos.line) = true) :
    PE X (.Call (.Attribute o name apos) [] [] cpos) (tE G W wd (.mth .pop0 o' .nil)) := by
  subst hn
  refine s_mth hK m_pop0 fun r hr => peW (pe_bm0 PySem.F.plainAttrs_list PySem.F.slot_list_pop PySem.F.type_list_pop hr ho hb hl) fun σ H Q h => ?_
  obtain ⟨B, ι, μ, ρ, er, hr', h⟩ := h
  refine ⟨B, ι, μ, ρ, er, hr', h.mono (fun v μ' g w H' ι' e' h1 r1 n1 => ?_) fun _ _ q => q⟩
  obtain ⟨ty, B2, ι2, μ2, ρ2, er2, hr2, h2⟩ := g w H' ι' e' h1 r1 n1
  simp only [evs] at h2
  exact ⟨ty, h2 [] H' ι2 Ext.refl hr2 .nil⟩
/-! ### rows of numbers -/
theorem rg_rv {B ι : List Addr} {H : Hp} {a b : Int} : RVs G B ι H ((List.range (b - a).toNat).map fun (k : Nat) => .int (a + k)) (rgV a b) := by
  unfold rgV
  generalize (b - a).toNat = n
  suffices h : ∀ l : List Nat, RVs G B ι H (l.map fun (k : Nat) => .int (a + k)) (l.map fun k => V.int (a + (k : Nat))) from h _
  intro l
  induction l with
  | nil => exact .nil
  | cons x l ih => exact .cons (.int _) ih
theorem lrg_ok {t : Bool} {es : ES} {σ : L2.St} {H : Hp} {Q : VK} (h : tE G W wd (.lrg t es) σ H Q) : tEs G W wd es σ H fun vs H1 => vs.length = esLen es ∧ (esLen es = 1 → ∃ n, vs = [.int n] ∧ RgOk 0 n ∧ ∀ q, H1 q = none → Q (.ref q) (upd H1 q (if t = true then .tup (rgV 0 n) else .lst (rgV 0 n)))) ∧
    (esLen es = 2 → ∃ i j, vs = [.int i, .int j] ∧ RgOk i j ∧ ∀ q, H1 q = none → Q (.ref q) (upd H1 q (if t = true then .tup (rgV i j) else .lst (rgV i j)))) := by
  obtain ⟨B, ι, μ, ρ, er, hr, h⟩ := h
  simp only [ev] at h
  refine tEs_then er hr h.bnd.len fun xs μ1 vs H1 ι1 ⟨hx, g⟩ e1 hr1 rs => ?_
  obtain ⟨z, hz, g⟩ := Out.ok g
  obtain ⟨ys, hy, hz⟩ := Option.bind_eq_some_iff.mp hz
  split at hz
  · rename_i hl
    cases hz
    have fin : ∀ {a b : Int}, ys = (List.range (b - a).toNat).map (fun (k : Nat) => .int (a + k)) → ∀ q, H1 q = none → Q (.ref q) (upd H1 q (if t = true then .tup (rgV a b) else .lst (rgV a b))) := fun {a b} e q hq => by
      subst e
      cases t with
      | true => exact g _ _ ι1 (e1.trans (Ext.push hq)) (hr1.pushO hq) (RV.newTup hq rg_rv) fun z ys e => by cases e
      | false => exact g _ _ ι1 (e1.trans (Ext.push hq)) (hr1.pushO hq) (RV.newLst hr1 hq rg_rv) ((New.lst hr1 hq rg_rv).ext e1)
    refine ⟨by rw [← rs.length]; exact hx, fun h1 => ?_, fun h2 => ?_⟩
    · obtain ⟨n, rfl, sn, rfl⟩ := rngOf_1 hy (hx.trans h1)
      obtain ⟨w, rfl, r⟩ := rs.one
      rw [r.int_inv]
      have sl := small_i sn
      have hl' : ((List.range n.toNat).map fun (k : Nat) => MV.int (0 + k)).length ≤ 16000000 := hl
      simp only [List.length_map, List.length_range] at hl'
      exact ⟨n, rfl, ⟨by omega, by omega, sl.1, sl.2, by omega⟩, fin (by rw [Int.sub_zero])⟩
    · obtain ⟨i, j, rfl, si, sj, rfl⟩ := rngOf_2 hy (hx.trans h2)
      obtain ⟨v, w, rfl, r1, r2⟩ := rs.two
      rw [r1.int_inv, r2.int_inv]
      have hl' : ((List.range (j - i).toNat).map fun (k : Nat) => MV.int (i + k)).length ≤ 16000000 := hl
      simp only [List.length_map, List.length_range] at hl'
      exact ⟨i, j, rfl, ⟨(small_i si).1, (small_i si).2, (small_i sj).1, (small_i sj).2, by omega⟩, fin rfl⟩
  · cases hz
/-- an argument list of one, as an expression -/
theorem tEs_one {e : E} {σ : L2.St} {H : Hp} {Q : List V → Hp → Prop} (h : tEs G W wd (.cons e .nil) σ H Q) : tE G W wd e σ H fun x H1 => Q [x] H1 := by
  obtain ⟨B, ι, μ, ρ, er, hr, h⟩ := h
  simp only [evs] at h
  refine tE_then er hr h.bnd fun x μ1 v H1 ι1 g e1 hr1 rx _ => ?_
  exact g [v] H1 ι1 e1 hr1 (.cons rx .nil)
theorem s_lrg1 {f : Str} {a : Expr} {a' : E} {t : Bool} {p q pos rpos : Pos} (hc : X.calm = true) (ht : f = if t = true then "tuple" else "list") (hg : Gl X f) (hm : X.mg f = none) (hgr : Gl X "range") (hmr : X.mg "range" = none) (ha : PE X a (tE G W wd a')) (hs : starEach [a] X.env = (false, eval a X.env) :: starEach [] X.env)
    (hs2 : starEach [.Call (.Name "range" q) [a] [] rpos] X.env = (false, eval (.Call (.Name "range" q) [a] [] rpos) X.env) :: starEach [] X.env) : PE X (.Call (.Name f p) [.Call (.Name "range" q) [a] [] rpos] [] pos) (tE G W wd (.lrg t (.cons a' .nil))) := by
  have rg := prg_1 (p := q) (pos := rpos) hgr hmr ha hs
  have go : ∀ {σ H Q}, tE G W wd (.lrg t (.cons a' .nil)) σ H Q → tE G W wd a' σ H fun x H1 => ∃ n, x = .int n ∧ RgOk 0 n ∧ ∀ q, H1 q = none → Q (.ref q) (upd H1 q (if t = true then .tup (rgV 0 n) else .lst (rgV 0 n))) := fun {σ H Q} h => by
    have z := tEs_one (lrg_ok h)
    obtain ⟨B, ι, μ, ρ, er, hr, z⟩ := z
    refine ⟨B, ι, μ, ρ, er, hr, z.mono (fun v μ' g w H' ι' e1 h1 r1 n1 => ?_) fun _ _ q => q⟩
    obtain ⟨n, e, rest⟩ := (g w H' ι' e1 h1 r1 n1).2.1 rfl
    exact ⟨n, by simpa using e, rest⟩
  cases t with
  | true =>
    have ht : f = "tuple" := ht
    subst ht
    exact peW (pe_tupRg hc hg hm rg hs2) fun σ H Q h => by
      obtain ⟨B, ι, μ, ρ, er, hr, z⟩ := go h
      exact ⟨B, ι, μ, ρ, er, hr, z.mono (fun v μ' g w H' ι' e1 h1 r1 n1 => g w H' ι' e1 h1 r1 n1) fun _ _ q => q⟩
  | false =>
    have ht : f = "list" := ht
    subst ht
    exact peW (pe_listRg hc hg hm rg hs2) fun σ H Q h => by
      obtain ⟨B, ι, μ, ρ, er, hr, z⟩ := go h
      exact ⟨B, ι, μ, ρ, er, hr, z.mono (fun v μ' g w H' ι' e1 h1 r1 n1 => g w H' ι' e1 h1 r1 n1) fun _ _ q => q⟩
end
end MI
end
section
set_option Elab.async false
set_option linter.all false
set_option maxHeartbeats 4000000
/-! MI: dict displays. -/
namespace MI
open PySem PySem.Spec PyProof.Rows L2
section
variable {G : GI} {B ι : List Addr} {H : Hp} {D : Addr}
mutual
theorem RV.fill {ws : List (Key × V)} {o : HO} {v : MV} {w : V} (h : H D = some (.dK ws)) : RV G (D :: B) ι H v w → RV G (D :: B) ι (upd H D o) v w
  | .non => .non
  | .bl b => .bl b
  | .int i => .int i
  | .str s => .str s
  | .tup q r => .tup (by
      rcases q with (q | ⟨ob, q⟩) | q
      · exact .inl (.inl (by rw [upd_ne (by rintro rfl; rw [h] at q; cases q)]; exact q))
      · exact .inl (.inr ⟨ob, by rw [upd_ne (by rintro rfl; rw [h] at q; cases q)]; exact q⟩)
      · exact .inr q) (RVs.fill h r)
  | .lv q nb ni r => .lv (by rw [upd_ne (by rintro rfl; exact nb List.mem_cons_self)]; exact q) nb ni (RVs.fill h r)
  | .loc q => .loc q
  | .flH q ni r => .flH (by rw [upd_ne (by rintro rfl; rw [h] at q; cases q)]; exact q) ni (RVs.fill h r)
  | .flK q r => .flK q (RVs.fill h r)
  | .exo q qd nb ni r => .exo (by rw [upd_ne (by rintro rfl; exact nb.1 List.mem_cons_self)]; exact q) (by rw [upd_ne (by rintro rfl; exact nb.2 List.mem_cons_self)]; exact qd) nb ni (RV.fill h r)
  | .thk a => .thk a
theorem RVs.fill {ws : List (Key × V)} {o : HO} {v : List MV} {w : List V} (h : H D = some (.dK ws)) : RVs G (D :: B) ι H v w → RVs G (D :: B) ι (upd H D o) v w
  | .nil => .nil
  | .cons q r => .cons (RV.fill h q) (RVs.fill h r)
end
theorem RKs.fill {ws : List (Key × V)} {o : HO} {v : List (Key × MV)} {w : List (Key × V)} (h : H D = some (.dK ws)) (r : RKs G (D :: B) ι H v w) : RKs G (D :: B) ι (upd H D o) v w := by
  induction r with
  | nil => exact .nil
  | cons q _ ih => exact .cons (q.fill h) ih
theorem HR.fill {ws : List (Key × V)} {o : HO} {μ : Mem} (ho : BO o) (h : H D = some (.dK ws)) (hr : HR G (D :: B) ι H μ) : HR G (D :: B) ι (upd H D o) μ where
  len := hr.len
  nd := hr.nd
  tb := tabs_dic hr.tb h
  ce := ⟨hr.ce.len, fun i v e => let ⟨w, q, z⟩ := hr.ce.get i v e; ⟨w, q, z.fill h⟩⟩
  co := fun p hp => ⟨by rw [upd_ne (fun z => (hr.co p hp).2.2 (by rw [z]; exact List.mem_cons_self))]; exact (hr.co p hp).1, (hr.co p hp).2⟩
  bu := fun b hb => ⟨by
    by_cases e : b = D
    · subst e; exact ⟨_, upd_same, ho⟩
    · rw [upd_ne e]
      exact (hr.bu b hb).1, (hr.bu b hb).2⟩
  ob := fun n b u h1 h2 => by
    have hne : b ≠ D := by
      rintro rfl
      exact (hr.bu b List.mem_cons_self).2 (List.mem_of_getElem? h1)
    have q := hr.ob n b u h1 h2
    cases u with
    | lst xs => obtain ⟨vs, q, r⟩ := q; exact ⟨vs, by rw [upd_ne hne]; exact q, r.fill h⟩
    | dic xs => obtain ⟨vs, q, r⟩ := q; exact ⟨vs, by rw [upd_ne hne]; exact q, r.fill h⟩
theorem Ext.fill {K : PySem.W.Frag} {ι ι' : List Addr} {H H' : Hp} {ws : List (Key × V)} {o : HO} (e : Ext K ι H ι' H') (hn : H D = none) (h : H' D = some (.dK ws)) : Ext K ι H ι' (L2.upd H' D o) where
  pre := e.pre
  fr := e.fr
  tup := fun a vs q => by
    rcases e.tup a vs q with (q | ⟨ob, q⟩) | q
    · exact .inl (.inl (by rw [upd_ne (by rintro rfl; rw [h] at q; cases q)]; exact q))
    · exact .inl (.inr ⟨ob, by rw [upd_ne (by rintro rfl; rw [h] at q; cases q)]; exact q⟩)
    · exact .inr q
  oth := fun a u q hi ht => by rw [upd_ne (ne_of_none q hn)]; exact e.oth a u q hi ht
  thr := fun a u q n => by
    have z : a ≠ D := ne_of_none q hn
    rw [upd_ne z]; exact e.thr a u q n
theorem RX.idle {cls : Value} {d : Option Addr} {x : Ex} (r : RX G (D :: B) ι H cls d x) : RX G B ι H cls d x := by
  obtain ⟨h1, da, w, h2, h3, h4⟩ := r
  exact ⟨h1, da, w, h2, h3, h4.idle⟩
theorem RKs.zip : ∀ {ks : List Key} {xs : List MV} {vs : List V}, RVs G B ι H xs vs → xs.length = ks.length → RKs G B ι H (ks.zip xs) (ks.zip vs)
  | [], _, _, _, _ => by simp; exact .nil
  | k :: ks, _, _, .nil, h => by simp at h
  | k :: ks, _, _, .cons q r, h => .cons q (RKs.zip r (by simpa using h))
end
/-- merged into nothing -/
theorem merge_new : ∀ {ks more : List Key} {vs : List V} {acc : List (Key × V)}, (∀ k ∈ ks, k ∉ acc.map (·.1)) → ks.Nodup → mergeK acc (ks.zip vs) = acc ++ ks.zip vs
  | [], _, vs, acc, _, _ => by simp [mergeK]
  | k :: ks, more, [], acc, _, _ => by simp [mergeK]
  | k :: ks, more, v :: vs, acc, h, nd => by
    have e : mergeK acc ((k :: ks).zip (v :: vs)) = mergeK (putK acc k v) (ks.zip vs) := rfl
    have hk : (acc.any fun kv => decide (kv.1 = k)) = false := by
      rw [List.any_eq_false]
      intro p hp z
      have := h k List.mem_cons_self
      exact this (by rw [List.mem_map]; exact ⟨p, hp, by simpa using z⟩)
    have e2 : putK acc k v = acc ++ [(k, v)] := by
      unfold putK
      rw [hk]
      simp
    rw [e, e2, merge_new (more := more) (fun k' hk' => ?_) (List.nodup_cons.mp nd).2]
    · simp
    · simp only [List.map_append, List.map_cons, List.map_nil, List.mem_append, List.mem_singleton, not_or]
      exact ⟨h k' (List.mem_cons_of_mem _ hk'), fun z => by subst z; exact (List.nodup_cons.mp nd).1 hk'⟩
section
variable {X : Cx} {G : GI} {W : WX} {wd : Wd}
/-- the values of a display, one by one -/
inductive DPs (X : Cx) (G : GI) (W : WX) (wd : Wd) : List Key → ES → List (Option Expr) → List Expr → Prop where
  | nil : DPs X G W wd [] .nil [] []
  | cons {k : Key} {ks : List Key} {e' : E} {es' : ES} {kx : Expr} {kxs : List (Option Expr)} {e : Expr} {es : List Expr} (hk : PE X kx (tC (kV k))) (he : PE X e (tE G W wd e')) (r : DPs X G W wd ks es' kxs es) : DPs X G W wd (k :: ks) (.cons e' es') (some kx :: kxs) (e :: es)
def dTrs (G : GI) (W : WX) (wd : Wd) : List Key → ES → List (TE × TE)
  | k :: ks, .cons e es => (tC (kV k), tE G W wd e) :: dTrs G W wd ks es
  | _, _ => []
theorem DPs.pps {pos : Pos} {ks : List Key} {es' : ES} {kxs : List (Option Expr)} {es : List Expr} (h : DPs X G W wd ks es' kxs es) : PPs X pos kxs es (dTrs G W wd ks es') := by
  induction h with
  | nil => exact pps_nil
  | cons hk he _ ih => exact pps_cons hk he ih
theorem DPs.len {ks : List Key} {es' : ES} {kxs : List (Option Expr)} {es : List Expr} (h : DPs X G W wd ks es' kxs es) : kxs.length = es.length ∧ ks.length = es.length ∧ esLen es' = ks.length ∧ kxs.all (·.isSome) = true := by
  induction h with
  | nil => exact ⟨rfl, rfl, rfl, rfl⟩
  | cons _ _ _ ih => exact ⟨by simp [ih.1], by simp [ih.2.1], by simp [esLen, ih.2.2.1], by simp [ih.2.2.2]⟩
theorem tPairs_of : ∀ {ks : List Key} {es : ES} {σ : L2.St} {H : Hp} {Q : List (V × V) → Hp → Prop} {B ι : List Addr} {μ : Mem} {ρ : Env} {good : List MV → Mem → Prop}, esLen es = ks.length → ER G B ι H ρ σ → HR G B ι H μ → Out (evs wd es ρ μ) good (Bad G B ι H W σ) →
    (∀ xs μ' vs H' ι', xs.length = ks.length → good xs μ' → Ext G.K ι H ι' H' → HR G B ι' H' μ' → RVs G B ι' H' xs vs → Q ((ks.zip vs).map fun kv => (kV kv.1, kv.2)) H') → tPairs (dTrs G W wd ks es) σ H Q
  | [], .nil, σ, H, Q, B, ι, μ, ρ, good, _, er, hr, h, k => by
    simp only [evs] at h
    exact k [] μ [] H ι rfl h Ext.refl hr .nil
  | k0 :: ks, .cons e es, σ, H, Q, B, ι, μ, ρ, good, hl, er, hr, h, k => by
    simp only [evs] at h
    show tE G W wd e σ H _
    refine tE_then er hr h.bnd fun x μ1 v H1 ι1 g e1 hr1 rx _ => ?_
    refine tPairs_of (by simpa [esLen] using hl) (er.mono e1) hr1 (g.bnd.mono (fun _ _ q => q) fun _ _ q => q.ext e1) fun xs μ' vs H' ι' hx g' e2 hr2 rs => ?_
    have g' : good (x :: xs) μ' := g'
    exact k (x :: xs) μ' (v :: vs) H' ι' (by simp [hx]) g' (e1.trans e2) hr2 (.cons (rx.mono e2) rs)
  | [], .cons e es, _, _, _, _, _, _, _, _, hl, _, _, _, _ => by simp [esLen] at hl
  | _ :: _, .nil, _, _, _, _, _, _, _, _, hl, _, _, _, _ => by simp [esLen] at hl
theorem s_dsp {ks : List Key} {es' : ES} {kxs : List (Option Expr)} {es : List Expr} {pos : Pos} (h : DPs X G W wd ks es' kxs es) (h0 : kxs ≠ []) (h15 : kxs.length ≤ 15) : PE X (.Dict kxs es pos) (tE G W wd (.dsp ks es')) :=
  peW (pe_disp h.pps h.len.2.2.2 h.len.1 h0 h15) fun σ H Q ⟨B, ι, μ, ρ, er, hr, z⟩ => by
    simp only [ev] at z
    intro p hp
    have er1 : ER G (p :: B) ι (upd H p (.dK [])) ρ σ := er.busy hp
    have hr1 : HR G (p :: B) ι (upd H p (.dK [])) μ := hr.busy hp .d
    have e0 : Ext G.K ι H ι (upd H p (.dK [])) := Ext.push hp
    refine tPairs_of h.len.2.2.1 er1 hr1 (z.bnd.mono (fun _ _ q => q) fun x μ' q cls d H' ι' e2 hr2 rx => q cls d H' ι' (e0.trans e2) hr2.idle rx.idle) fun xs μ' vs H' ι' hx g e2 hr2 rs => ?_
    have hD : H' p = some (.dK []) := e2.oth _ _ upd_same (hr1.bu p List.mem_cons_self).2 (fun _ y => by cases y)
    refine ⟨hD, ks.zip vs, rfl, ?_, ?_⟩
    · have := h.len
      rw [List.length_zip]
      omega
    split at g
    · rename_i hk
      have em : mergeK [] (ks.zip vs) = ks.zip vs := by
        rw [merge_new (more := []) (by simp) hk.2.1]; rfl
      rw [em]
      have eD := (e0.trans e2).fill (o := .dK (ks.zip vs)) hp hD
      have hr3 := hr2.fill (o := .dK (ks.zip vs)) .d hD
      have rk := (RKs.zip rs hk.1).fill (o := .dK (ks.zip vs)) hD
      have hf : ∀ o ws, (upd H' p (.dK (ks.zip vs))) p ≠ some (.frz o (.lst ws)) := fun o ws y => by rw [upd_same] at y; cases y
      have hr4 : HR G B (ι' ++ [p]) (upd H' p (.dK (ks.zip vs))) (μ' ++ [.dic (ks.zip xs)]) := hr3.own (o := .dic (ks.zip xs)) hf (hr.no hp) ⟨_, upd_same, rk.own hf⟩
      refine g (.ref p) _ (ι' ++ [p]) ?_ hr4 (.loc ?_) (fun y => by cases y)
      · refine ⟨?_, fun b hb => ?_, eD.tup, eD.oth, eD.thr⟩
        · obtain ⟨t, rfl⟩ := eD.pre
          exact ⟨t ++ [p], by simp⟩
        · rcases List.mem_append.mp hb with y | y
          · exact eD.fr b y
          · simp at y; subst y; exact .inr (Nw.of hp)
      · rw [← hr2.len]; simp
    · exact g.elim
end
end MI
end
section
set_option Elab.async false
set_option linter.all false
set_option maxHeartbeats 8000000
/-! MI: programs beside the text: what is looked at. -/
namespace MI
open PySem PySem.Spec PyProof.Rows L2
/-- a name of the module: a constant, a def (its number, its parameters, its defaults) -/
inductive GE where
  | con (v : MV) | fn (f np : Nat) (ds : List MV) (sg : List (List Str × List Nat)) | cls (c : Nat) (rs : Bool) | hr (f : Nat)
structure CS where
  N : List Str
  sc : Scope
  fo : Str → Bool
  gl : List (Str × GE)
  bi : List Str
  hd : Bool := false
  lm : Bool := false
def relS (scope sc : Scope) : Scope := { scope with names := scope.names.map fun (n, k) => if (k == .free && sc.kind == .function && sc.names.lookup n == some .cell) then (n, .cell) else (n, k) }
def CS.blk (cs : CS) (scope : Scope) : CS := { cs with sc := relS scope cs.sc, fo := fun x => scope.names.lookup x == some .cell, hd := false, lm := false }
def CS.lam (cs : CS) (scope : Scope) : CS := { cs with sc := scope, fo := fun _ => false, hd := false, lm := false }
/-- no parameters -/
def noArgs : Arguments → Bool
  | ⟨[], [], none, [], [], none, []⟩ => true
  | _ => false
/-- a check: a part of the program, a part of the text -/
inductive Q where
  | e (a : E) (x : Expr) | es (a : ES) (xs : List Expr) | t (a : E) (x : Expr) | w (a : E) (op : BoolOp) (xs : List Expr) (pos : Pos) | o (h : Bool) (a : E) (x : Option Expr)
  | i (a : It) (tg x : Expr) | g (a : MI.G) (x : Expr) | gs (a : GS) (xs : List Expr) | d (ks : List Key) (es : ES) (kxs : List (Option Expr)) (vs : List Expr) | k (a : ES) (kws : List Keyword)
def plainE : Expr → Bool
  | .Starred .. => false
  | _ => true
def sliceE : Expr → Bool
  | .Slice .. => true
  | _ => false
def testE : Expr → Bool
  | .UnaryOp .. | .BoolOp .. | .IfExp .. | .Compare .. => false
  | _ => true
def setE : Expr → Bool
  | .Set .. => true
  | _ => false
def baseE : Expr → Bool
  | .Name .. | .Subscript .. => true
  | .Call (.Attribute ..) .. => true
  | _ => false
def conOk : MV → Const → Bool
  | .non, .none => true
  | .bl a, .bool b => a == b
  | .int i, .int j => i == j
  | .str s, .str t => decide (s = t)
  | _, _ => false
def nd (x : Str) : Bool := !(x == ("__debug__" : Str))
def ncd (x : Str) : Bool := !(x == ("__classdict__" : Str))
def CS.glx (cs : CS) (x : Str) : Bool := decide (cs.sc.names.lookup x = some .globalImplicit)
def CS.vis (cs : CS) (x : Str) : Bool := decide (cs.sc.names.lookup x = some .local) || decide (cs.sc.names.lookup x = some .cell) || decide (cs.sc.names.lookup x = some .free)
/-- a built-in of that name -/
def CS.blt (cs : CS) (x y : Str) : Bool := decide (x = y) && cs.glx x && decide (x ∈ cs.bi)
def biN : Bi → Option Str
  | .len => some "len"
  | .abs => some "abs"
  | .min2 => some "min"
  | .max2 => some "max"
  | .int1 => some "int"
  | .tup1 => some "tuple"
  | .lst1 => some "list"
  | .srt1 => some "sorted"
  | .all1 => some "all"
  | .any1 => some "any"
  | .sum1 => some "sum"
  | _ => none
def clS : Cl → Option Str
  | .int => some "int"
  | .bool => some "bool"
  | .tuple => some "tuple"
  | .list => some "list"
  | .str => some "str"
  | .dict => some "dict"
  | .own _ => none
def dkey : L2.Key → Expr → Bool
  | .inl i, .Constant (.int j) _ _ => i == j
  | .inr s, .Constant (.str t) _ _ => decide (s = t)
  | _, _ => false
def ownN (N : List Str) (own : List Nat) : List (Str × Nat) := own.map fun i => (N.getD i "", i)
def noCall : Expr → Bool
  | .Starred .. => false
  | _ => true
section
variable (r : CS → Q → Bool) (cs : CS)
def ckE : E → Expr → Bool
  | .con v, .Constant c _ _ => conOk v c
  | .con v, .Name x _ => cs.glx x && nd x && (match cs.gl.lookup x with
    | some (.con w) => decide (v = w)
    | _ => false)
  | .var i, .Name x _ => decide (cs.N[i]? = some x) && cs.vis x && nd x && ncd x
  | .bin o a b, .BinOp l op u _ => decide (opOf op = some o) && r cs (.e a l) && r cs (.e b u)
  | .neg a, .UnaryOp .USub l _ => r cs (.e a l)
  | .nt a, .UnaryOp .Not l _ => r cs (.e a l)
  | .cmp o a b, .Compare l [op] [u] _ => decide (copOf op = some o) && !behindInMarks op u && r cs (.e a l) && r cs (.e b u)
  | .chn o p a b c, .Compare l [op, op'] [m, u] _ => decide (copOf op = some o) && decide (copOf op' = some p) && !lastMarks [op, op'] [m, u] && r cs (.e a l) && r cs (.e b m) && r cs (.e c u)
  | .an a b, .BoolOp .And [x, y] _ => r cs (.e a x) && r cs (.e b y)
  | .an a b, .BoolOp .And (x :: y :: z :: rest) pos => r cs (.e a x) && r cs (.e b (.BoolOp .And (y :: z :: rest) pos))
  | .orr a b, .BoolOp .Or [x, y] _ => r cs (.e a x) && r cs (.e b y)
  | .orr a b, .BoolOp .Or (x :: y :: z :: rest) pos => r cs (.e a x) && r cs (.e b (.BoolOp .Or (y :: z :: rest) pos))
  | .ife c a b, .IfExp t x y _ => r cs (.t c t) && r cs (.e a x) && r cs (.e b y)
  | .tup es, .Tuple xs _ _ => r cs (.es es xs)
  | .lst es, .List xs _ => r cs (.es es xs)
  | .chg a, x => al a && r cs (.e a x)
  | .idx a b, .Subscript x i _ => !sliceE i && r cs (.e a x) && r cs (.e b i)
  | .slc a hl lo hh hi, .Subscript x (.Slice l u none _) _ => r cs (.e a x) && r cs (.o hl lo l) && r cs (.o hh hi u)
  | .app _ f es ds, .Call (.Name x _) (y :: ys) [] _ => cs.glx x && nd x && (match cs.gl.lookup x with
    | some (.fn f' np dvs _) => decide (f = f') && decide (ds.length ≤ dvs.length) && decide (ds = dvs.drop (dvs.length - ds.length)) && decide (esLen es + ds.length = np)
    | _ => false) && plainE y && ys.all plainE && r cs (.es es (y :: ys))
  | .apk f es sel, .Call (.Name x _) [] kws _ => cs.glx x && nd x && (match cs.gl.lookup x with
    | some (.fn f' np _ sg) => decide (f = f') && sg.any (fun p => decide (kws.map (·.arg) = p.1.map some) && decide (sel = p.2.map .inl) && decide (p.1.length = esLen es)) && decide (sel.length = np)
    | _ => false) && r cs (.k es kws)
  | .hrd f a, .Call (.Name x _) [.Lambda params body scope _] [] _ => cs.lm && cs.glx x && nd x && (match cs.gl.lookup x with
    | some (.hr f') => decide (f = f')
    | _ => false) && LamX.lamSB cs.sc scope && noArgs params && r (cs.lam scope) (.e a body)
  | .blt f es, .Call (.Name x _) (y :: ys) [] _ => cs.glx x && decide (x ∈ cs.bi) && decide (biN f = some x) && plainE y && ys.all plainE && r cs (.es es (y :: ys))
  | .isi a [.own d], .Call (.Name x _) [y, .Name t _] [] _ => cs.blt x "isinstance" && cs.glx t && nd t && (match cs.gl.lookup t with
    | some (.cls d' _) => decide (d = d')
    | _ => false) && plainE y && r cs (.e a y)
  | .isi a [c], .Call (.Name x _) [y, .Name t _] [] _ => cs.blt x "isinstance" && cs.glx t && decide (t ∈ cs.bi) && decide (clS c = some t) && plainE y && r cs (.e a y)
  | .fld f a, .Attribute y n _ => decide (f = n) && decide (f ≠ "") && baseE y && r cs (.e a y)
  | .mth .append o (.cons e .nil), .Call (.Attribute b nm apos) [y] [] cpos => decide (nm = ("append" : Str)) && baseE b && (apos.endLine == cpos.line) && plainE y && r cs (.e o b) && r cs (.e e y)
  | .mth .pop1 o (.cons e .nil), .Call (.Attribute b nm apos) [y] [] cpos => decide (nm = ("pop" : Str)) && baseE b && (apos.endLine == cpos.line) && plainE y && r cs (.e o b) && r cs (.e e y)
  | .mth .pop0 o .nil, .Call (.Attribute b nm apos) [] [] cpos => decide (nm = ("pop" : Str)) && baseE b && (apos.endLine == cpos.line) && r cs (.e o b)
  | .sdf o k, .Call (.Attribute b nm apos) [y, .List [] _] [] cpos => decide (nm = ("setdefault" : Str)) && baseE b && (apos.endLine == cpos.line) && plainE y && r cs (.e o b) && r cs (.e k y)
  | .lcm own it g c e, .ListComp elt [⟨tg, iter, ifs, 0⟩] scope _ => blkC cs.N cs.sc scope (ownN cs.N own) && (gNames g).all (fun i => decide (i ∈ own)) && !setE iter && r cs (.i it tg iter) && r (cs.blk scope) (.g g tg) && r (cs.blk scope) (.e e elt) && (match ifs with
    | [] => (match c with
      | .con (.bl true) => true
      | _ => false)
    | [t] => r (cs.blk scope) (.t c t)
    | _ => false)
  | .lrg t (.cons a .nil), .Call (.Name f _) [.Call (.Name q _) [y] [] _] [] _ => cs.blt f (if t = true then "tuple" else "list") && cs.blt q "range" && plainE y && r cs (.e a y)
  | .dsp [] .nil, .Dict [] [] _ => true
  | .dsp ks es, .Dict kxs vs _ => decide (kxs ≠ []) && decide (kxs.length ≤ 15) && r cs (.d ks es kxs vs)
  | _, _ => false
def ckEs : ES → List Expr → Bool
  | .nil, [] => true
  | .cons a es, x :: xs => plainE x && r cs (.e a x) && r cs (.es es xs)
  | _, _ => false
def ckK : ES → List Keyword → Bool
  | .nil, [] => true
  | .cons a es, ⟨_, x, _⟩ :: xs => plainE x && r cs (.e a x) && r cs (.k es xs)
  | _, _ => false
def ckT : E → Expr → Bool
  | .cmp o a b, .Compare l [op] [u] _ => decide (copOf op = some o) && !behindInMarks op u && r cs (.e a l) && r cs (.e b u)
  | .chn o p a b c, .Compare l [op, op'] [m, u] _ => decide (copOf op = some o) && decide (copOf op' = some p) && !lastMarks [op, op'] [m, u] && r cs (.e a l) && r cs (.e b m) && r cs (.e c u)
  | .nt a, .UnaryOp .Not x _ => r cs (.t a x)
  | .an a b, .BoolOp .And (x :: y :: rest) pos => r cs (.t a x) && r cs (.w b .And (y :: rest) pos)
  | .orr a b, .BoolOp .Or (x :: y :: rest) pos => r cs (.t a x) && r cs (.w b .Or (y :: rest) pos)
  | a, x => testE x && r cs (.e a x)
def ckW : E → BoolOp → List Expr → Pos → Bool
  | a, _, [x], _ => r cs (.t a x)
  | .an a b, .And, x :: y :: rest, pos => r cs (.t a x) && r cs (.w b .And (y :: rest) pos)
  | .orr a b, .Or, x :: y :: rest, pos => r cs (.t a x) && r cs (.w b .Or (y :: rest) pos)
  | _, _, _, _ => false
def ckO : Bool → E → Option Expr → Bool
  | false, .con .non, none => true
  | true, a, some x => r cs (.e a x)
  | _, _, _ => false
def ckI : It → Expr → Expr → Bool
  | .enu a, .Tuple _ _ _, .Call (.Name x _) [y] [] _ => cs.blt x "enumerate" && plainE y && r cs (.e a y)
  | .zip a b, .Tuple _ _ _, .Call (.Name x _) [y, z] [] _ => cs.blt x "zip" && plainE y && plainE z && r cs (.es (.cons a (.cons b .nil)) [y, z])
  | .rng es, _, .Call (.Name x _) [a] [] _ => cs.blt x "range" && decide (esLen es = 1) && plainE a && r cs (.es es [a])
  | .rng es, _, .Call (.Name x _) [a, b] [] _ => cs.blt x "range" && decide (esLen es = 2) && plainE a && plainE b && r cs (.es es [a, b])
  | .rng es, _, .Call (.Name x _) [a, b, c] [] _ => cs.blt x "range" && decide (esLen es = 3) && plainE a && plainE b && plainE c && r cs (.es es [a, b, c])
  | .seq a, _, x => r cs (.e a x)
  | _, _, _ => false
def gsLen : GS → Nat
  | .nil => 0
  | .cons _ gs => gsLen gs + 1
def ckG : MI.G → Expr → Bool
  | .nm i, .Name x _ => decide (cs.N[i]? = some x) && (decide (cs.sc.names.lookup x = some .local) || (decide (cs.sc.names.lookup x = some .cell) && cs.fo x))
  | .tp gs, .Tuple es _ _ => es.all plainE && decide (gsLen gs = es.length) && r cs (.gs gs es)
  | .ix a b, .Subscript o i _ => !sliceE i && r cs (.e a o) && r cs (.e b i)
  | _, _ => false
def ckGs : GS → List Expr → Bool
  | .nil, [] => true
  | .cons g gs, x :: xs => plainE x && r cs (.g g x) && r cs (.gs gs xs)
  | _, _ => false
def ckD : List L2.Key → ES → List (Option Expr) → List Expr → Bool
  | [], .nil, [], [] => true
  | k :: ks, .cons a es, some kx :: kxs, x :: xs => dkey k kx && r cs (.e a x) && r cs (.d ks es kxs xs)
  | _, _, _, _ => false
end
def ck : Nat → CS → Q → Bool
  | 0, _, _ => false
  | n + 1, cs, q => match q with
    | .e a x => ckE (ck n) cs a x
    | .es a x => ckEs (ck n) cs a x
    | .t a x => ckT (ck n) cs a x
    | .w a op xs pos => ckW (ck n) cs a op xs pos
    | .o h a x => ckO (ck n) cs h a x
    | .i a tg x => ckI (ck n) cs a tg x
    | .g a x => ckG (ck n) cs a x
    | .gs a xs => ckGs (ck n) cs a xs
    | .d ks es kxs vs => ckD (ck n) cs ks es kxs vs
    | .k a kws => ckK (ck n) cs a kws
end MI
end
section
set_option Elab.async false
set_option linter.all false
set_option maxHeartbeats 8000000
/-! MI: calls by keywords alone. -/
namespace MI
open PySem PySem.Spec PyProof.Rows L2
def pick {α : Type} (pm : List Nat) (xs : List α) : List α := pm.filterMap (xs[·]?)
theorem pick_vals : ∀ {pm : List Nat} {vs : List V} {us : List Value}, Vals vs us → Vals (pick pm vs) (pick pm us)
  | [], _, _, _ => .nil
  | i :: pm, vs, us, r => by
    have ih := pick_vals (pm := pm) r
    unfold pick at ih ⊢
    rw [List.filterMap_cons, List.filterMap_cons]
    have hl := r.length
    by_cases hi : i < vs.length
    · have hi2 : i < us.length := by omega
      rw [List.getElem?_eq_getElem hi, List.getElem?_eq_getElem hi2]
      obtain ⟨u, hu, ru⟩ := r.get (List.getElem?_eq_getElem hi)
      rw [List.getElem?_eq_getElem hi2] at hu
      cases hu
      exact .cons ru ih
    · rw [List.getElem?_eq_none (by omega), List.getElem?_eq_none (by omega)]
      exact ih
theorem pick_rv {G : GI} {B ι : List Addr} {H : Hp} {xs : List MV} {vs : List V} (r : RVs G B ι H xs vs) : ∀ {pm : List Nat} {ys : List MV}, selA (pm.map .inl) xs = some ys → RVs G B ι H ys (pick pm vs) ∧ ys.length = pm.length
  | [], ys, h => by
    simp only [List.map_nil, selA] at h
    cases h
    exact ⟨.nil, rfl⟩
  | i :: pm, ys, h => by
    simp only [List.map_cons, selA] at h
    obtain ⟨x, hx, h⟩ := Option.bind_eq_some_iff.mp h
    obtain ⟨zs, hz, rfl⟩ := Option.map_eq_some_iff.mp h
    obtain ⟨v, hv, rv⟩ := r.get hx
    have ih := pick_rv r hz
    refine ⟨?_, by simp [ih.2]⟩
    unfold pick
    rw [List.filterMap_cons, hv]
    exact .cons rv ih.1
/-- what is known of a def that may be called by keywords -/
structure FnKw (X : Cx) (G : GI) (wd : Wd) (k : Nat) (x : Str) (f np : Nat) (ks : List Str) (pm : List Nat) : Prop where
  ex : ∃ (fa : Addr) (fd : FuncData) (ps : List Str), X.mg x = some (.ref fa) ∧ PySem.W.keepIn X.K (.ref fa) = true ∧ KBn X.K fd ps 0 ks (fun _ ws => pick pm ws) (fun _ zs => pick pm zs) ∧ FnOk X.prog X.w X.K X.mg X.base (L2.CX X.prog X.w) k fa fd ps (spM G (wd.call f) np)
def tEsK (G : GI) (W : WX) (wd : Wd) (es : ES) : TA := tEs G W wd es
theorem kw_names {env : PySem.Env} {pos : Pos} : ∀ {kws : List Keyword} {ks : List Str}, kws.map (·.arg) = ks.map some → (backToKw pos (keywordEach kws env)).all (·.1.isSome) = true ∧ (backToKw pos (keywordEach kws env)).filterMap (·.1) = ks ∧ (backToKw pos (keywordEach kws env)).any (·.1.isNone) = false
  | [], [], _ => ⟨rfl, rfl, rfl⟩
  | [], _ :: _, h => by simp at h
  | _ :: _, [], h => by simp at h
  | ⟨nm, v, p⟩ :: kws, k :: ks, h => by
    simp only [List.map_cons, List.cons.injEq] at h
    obtain ⟨h1, h2⟩ := h
    have h1 : nm = some k := h1
    subst h1
    have ih := kw_names (env := env) (pos := pos) h2
    unfold backToKw at ih ⊢
    refine ⟨?_, ?_, ?_⟩
    · simp only [keywordEach, List.map_cons, List.all_cons, Option.isSome_some, Bool.true_and]; exact ih.1
    · simp only [keywordEach, List.map_cons, List.filterMap_cons]; rw [ih.2.1]
    · simp only [keywordEach, List.map_cons, List.any_cons, Option.isNone_some, Bool.false_or]; exact ih.2.2
section
variable {X : Cx} {G : GI} {W : WX} {wd : Wd}
theorem s_knil : PK X [] (tEs G W wd .nil) := ⟨fun pos pins s σ H Q I ⟨B, ι, μ, ρ, er, hr, h⟩ => pk_nil.run pos pins s σ H Q I (by
  simp only [evs] at h
  exact h [] H ι Ext.refl hr .nil)⟩
theorem s_kcons {e : Expr} {kws : List Keyword} {e' : E} {es' : ES} {nm : Option Str} {kpos : Pos} (he : PE X e (tE G W wd e')) (hes : PK X kws (tEs G W wd es')) : PK X (⟨nm, e, kpos⟩ :: kws) (tEs G W wd (.cons e' es')) :=
  ⟨fun pos pins s σ H Q I ⟨B, ι, μ, ρ, er, hr, h⟩ => (pk_cons he hes).run pos pins s σ H Q I (by
    simp only [evs] at h
    refine tE_then er hr h.bnd fun x μ1 v H1 ι1 g e1 hr1 rx _ => ?_
    refine tEs_then (er.mono e1) hr1 (g.bnd.mono (fun _ _ q => q) fun _ _ q => q.ext e1) fun xs μ2 vs H2 ι2 g e2 hr2 rs => ?_
    exact g (v :: vs) H2 ι2 (e1.trans e2) hr2 (.cons (rx.mono e2) rs))⟩
theorem s_apk {k f np : Nat} {x : Str} {kws : List Keyword} {e' : ES} {ks : List Str} {pm : List Nat} {p pos : Pos} (tk : Takes X W) (F : FnKw X G wd k x f np ks pm) (hn : pm.length = np) (hr : Room k X.A) (hg : Gl X x) (hdb : (x == ("__debug__" : Str)) = false) (hk : kws.map (·.arg) = ks.map some) (hl : ks.length = esLen e')
    (ha : PK X kws (tEs G W wd e')) : PE X (.Call (.Name x p) [] kws pos) (tE G W wd (.apk f e' (pm.map .inl))) := by
  obtain ⟨fa, fd, ps, hm, hkp, hb, F⟩ := F.ex
  obtain ⟨n1, n2, n3⟩ := kw_names (env := X.env) (pos := pos) hk
  refine ⟨fun pins s σ H Q I ⟨B, ι, μ, ρ, er, hr0, h⟩ => ?_⟩
  simp only [ev] at h
  refine wpAny_Call_Name_kw (ld_glob I hg hm ?_ hdb)
  refine PySem.W.callWith_KW0 (h₀ := X.base) I.ok.mod.kin hkp n1 (thn (ha.run pos pins s σ H (fun vs H1 => vs.length = esLen e' ∧ spM G (wd.call f) np (pick pm vs) H1 Q (WE W σ)) I ?_) fun ws s2 ⟨zs, H2, I2, rz, hz, q2⟩ => ⟨I2.kIn, ?_⟩) (by
    rw [n3] <;> rfl)
  · refine tEs_then er hr0 h.bnd.len fun xs μ1 vs H1 ι1 ⟨hx, g⟩ e1 hr1 rs => ?_
    refine ⟨by rw [← rs.length]; exact hx, ?_⟩
    split at g
    · rename_i ys hs
      obtain ⟨r2, l2⟩ := pick_rv rs hs
      refine ⟨by rw [← r2.length, l2, hn], B, ι1, μ1, ys, hr1, r2, ?_⟩
      exact gc_of hr1 (g.mono (fun v μ' q w H' ι' e' hr' rv => q w H' ι' (e1.trans e') hr' rv fun z => by cases z) fun x μ' q cls d H' ι' e' hr' rx => q cls d H' ι' (e1.trans e') hr' rx)
    · exact g.elim
  · rw [n2]
    refine wpAny_call (codeAny_mono (F.run X.A X.stack s2 H2 ⟨[], ks.zip ws⟩ (pick pm ws) (pick pm zs) Q (WE W σ) hr I2.env0 (hb.to s2 [] ws I2.kIn rfl (rz.length.symm.trans (hz.trans hl.symm))) (pick_vals rz) q2) fun r s' hq => ?_)
    cases r with
    | error e => exact passAt tk σ pins H2 s2 e s' I2 hq
    | ok fl =>
      cases fl with
      | ret u => exact I2.after hq
      | next => exact False.elim hq
      | brk => exact False.elim hq
      | cont => exact False.elim hq
end
end MI
end
section
set_option Elab.async false
set_option linter.all false
set_option maxHeartbeats 8000000
/-! MI: errors that are held: isinstance, their field. -/
namespace MI
open PySem PySem.Spec PyProof.Rows L2
/-- what the text's error class at C, with the field f, must be -/
structure ExF (K : PySem.W.Frag) (C : Addr) (f : Str) : Prop where
  cl : (PySem.W.clsIn K C).isSome = true
  ga : PySem.W.findIn K (.ref C) "__getattribute__" = some (some (.builtin "BaseException.__getattribute__"))
  gg : PySem.W.findIn K (.ref C) "__getattr__" = some none
  sb : PySem.W.subIn K (.ref C) (.type "BaseException") = some true
  ca : PySem.W.findIn K (.ref C) "__class__" = some (some (.builtin "object.__class__"))
  cg : PySem.W.specialIn K (.builtin "object.__class__") "__get__" = some (some (.builtin "getset_descriptor.__get__"))
  ct : PySem.W.takesIn K (.builtin "object.__class__") = some true
  mo : PySem.W.mroIn K C (.type "object") = some true
  hd : PySem.W.hasDictIn K C = true
  no : PySem.W.findIn K (.ref C) f = some none
def exfB (K : PySem.W.Frag) (C : Addr) (f : Str) : Bool := (PySem.W.clsIn K C).isSome && decide (PySem.W.findIn K (.ref C) "__getattribute__" = some (some (.builtin "BaseException.__getattribute__"))) && decide (PySem.W.findIn K (.ref C) "__getattr__" = some none) &&
  decide (PySem.W.subIn K (.ref C) (.type "BaseException") = some true) && decide (PySem.W.findIn K (.ref C) "__class__" = some (some (.builtin "object.__class__"))) && decide (PySem.W.specialIn K (.builtin "object.__class__") "__get__" = some (some (.builtin "getset_descriptor.__get__"))) &&
  decide (PySem.W.takesIn K (.builtin "object.__class__") = some true) && decide (PySem.W.mroIn K C (.type "object") = some true) && PySem.W.hasDictIn K C && decide (PySem.W.findIn K (.ref C) f = some none)
theorem exf_of {K : PySem.W.Frag} {C : Addr} {f : Str} (h : exfB K C f = true) : ExF K C f := by
  unfold exfB at h
  simp only [Bool.and_eq_true, decide_eq_true_eq] at h
  obtain ⟨⟨⟨⟨⟨⟨⟨⟨⟨h1, h2⟩, h3⟩, h4⟩, h5⟩, h6⟩, h7⟩, h8⟩, h9⟩, h10⟩ := h
  exact ⟨h1, h2, h3, h4, h5, h6, h7, h8, h9, h10⟩
/-- the classes that stand beneath each other -/
def ClsOk (G : GI) (wd : Wd) : Prop := G.fld = wd.fld ∧ (∀ c d b, wd.sub c d = some b → ExF G.K (G.cls c) (G.fld c) ∧ PySem.W.kitOne G.K (.ref (G.cls c)) (.ref (G.cls d)) = some b ∧ PySem.W.exmOne G.K (.ref (G.cls c)) (.ref (G.cls d)) = some b) ∧ ∀ c, wd.fld c ≠ "" → ∃ d b, wd.sub c d = some b
section
variable {X : Cx} {G : GI} {W : WX} {wd : Wd} {B ι : List Addr} {H : Hp} {μ : Mem}
theorem inst_of {pins : List (Addr × Obj)} {σ : L2.St} {s : Shared} {C dd a : Addr} {f : Str} {w : V} (I : Inv X pins σ H s) (h : H a = some (exT C dd a)) (hd : H dd = some (.xd [(f, w)])) :
    ∃ (oe od : Obj) (mA : Str → Option Value), PySem.W.InstAt s.heap a oe C (some od) ∧ (∀ n, PySem.W.lookIn n od = some (mA n)) ∧ ∀ n, RelO ([(f, w)].lookup n) (mA n) := by
  have x : ObjOk X.prog X.w H s.heap a (exT C dd a) := I.hok a _ h
  obtain ⟨⟨oe, vs, h1, h2, h3, h4⟩, _, _⟩ := x
  have y : ObjOk X.prog X.w H s.heap dd (.xd [(f, w)]) := I.hok dd _ hd
  obtain ⟨mA, hns, hr⟩ := y
  obtain ⟨od, ho, hl⟩ := lookIn_ns hns
  exact ⟨oe, od, mA, ⟨h1, h2, by unfold PySem.W.notCls; rw [h4] <;> rfl, by rw [h3]; exact ho⟩, hl, hr⟩
/-- isinstance(e, C) of an error -/
def rIsX (K : PySem.W.Frag) : List V → Hp → VK → Prop := fun xs H Q => ∃ (a C dd D : Addr) (f : Str) (w : V) (b : Bool), xs = [.ref a, .ref D] ∧ H a = some (exT C dd a) ∧ H dd = some (.xd [(f, w)]) ∧ ExF K C f ∧ PySem.W.kitOne K (.ref C) (.ref D) = some b ∧ Q (.bl b) H
theorem call_isX : CallR X (.builtin "isinstance") (rIsX X.K) := by
  intro pins s σ H xs us Q I r h
  obtain ⟨a, C, dd, D, f, w, b, rfl, h1, h2, F, e, q⟩ := h
  obtain ⟨u1, u2, rfl, r1, r2⟩ := vals2 r
  cases (show u1 = Value.ref a from r1)
  cases (show u2 = Value.ref D from r2)
  obtain ⟨oe, od, mA, J, _, _⟩ := inst_of I h1 h2
  exact PySem.W.kia_one (PySem.W.kitx_exc F.cl F.ga F.gg F.sb F.ca F.cg F.ct F.mo) I.kIn J e (fun z => nomatch z) fun tk => ⟨.bl b, H, I.tok tk, rfl, q⟩
theorem isi_own {sub : Nat → Nat → Option Bool} {v : MV} {d : Nat} {b : Bool} (h : isCls μ sub v [.own d] = some b) : ∃ c x, v = .exo c x ∧ sub c d = some b := by
  have fin : ∀ {o : Option Bool}, (o.bind fun b => if b = true then some true else isCls μ sub v []) = some b → o = some b := fun {o} z => by
    cases o with
    | none => cases z
    | some k => cases k <;> simpa [isCls] using z
  unfold isCls at h
  have h := fin h
  cases v with
  | exo c x => exact ⟨c, x, rfl, by simpa [isCl] using h⟩
  | loc k => simp at h
  | _ => simp [isCl] at h
theorem s_isiE {x t : Str} {y : Expr} {a : E} {d : Nat} {p q pos : Pos} (hK : X.K = G.K) (cl : ClsOk G wd) (hx : x = "isinstance") (hg : Gl X x) (hm : X.mg x = none) (hgt : Gl X t) (hmt : X.mg t = some (.ref (G.cls d))) (hdt : (t == ("__debug__" : Str)) = false)
    (ha : PE X y (tE G W wd a)) (he : starEach [y, .Name t q] X.env = (false, eval y X.env) :: starEach [.Name t q] X.env) (hpl : (backTo pos (starEach [.Name t q] X.env)).any (·.1) = false) : PE X (.Call (.Name x p) [y, .Name t q] [] pos) (tE G W wd (.isi a [.own d])) := by
  subst hx
  have h2 : PE X (.Name t q) (tC (.ref (G.cls d))) := pe_glob hgt hmt rfl hdt
  have call := pe_callB (X := X) (p := p) (pos := pos) call_isX hg hm (by decide +kernel) (pa_cons ha (pa_cons h2 pa_nil rfl) he) (by decide) (by decide) he hpl
  exact peW call fun σ H Q ⟨B, ι, μ, ρ, er, hr, h⟩ => by
    simp only [ev] at h
    refine tE_then er hr h.bnd fun v μ1 w H1 ι1 g e1 hr1 r1 _ => ?_
    obtain ⟨b, hb, g2⟩ := Out.ok g
    clear g
    obtain ⟨b', hb', rfl⟩ := Option.map_eq_some_iff.mp hb
    obtain ⟨c, z, rfl, hs⟩ := isi_own hb'
    obtain ⟨F, k1, _⟩ := cl.2.1 c d b' hs
    cases r1 with
    | exo q1 q2 nb ni r1 => exact ⟨_, _, _, _, _, _, b', rfl, q1, q2, by rw [hK]; exact F, by rw [hK]; exact k1, g2 _ H1 ι1 e1 hr1 (.bl _) fun z => by cases z⟩
/-- e.f of an error -/
theorem s_fld {f n : Str} {y : Expr} {a : E} {pos : Pos} (hK : X.K = G.K) (cl : ClsOk G wd) (hc : f ≠ "") (hn : f = n) (hb : attributeBase y n X.env (eval y X.env) = eval y X.env) (ha : PE X y (tE G W wd a)) : PE X (.Attribute y n pos) (tE G W wd (.fld f a)) := by
  subst hn
  refine ⟨fun pins s σ H Q I ⟨B, ι, μ, ρ, er, hr, h⟩ => ?_⟩
  simp only [ev] at h
  refine attr_of hb (thn (ha.run pins s σ H (fun x H1 => ∃ (a C dd : Addr) (w : V), x = .ref a ∧ H1 a = some (exT C dd a) ∧ H1 dd = some (.xd [(f, w)]) ∧ ExF G.K C f ∧ Q w H1) I ?_) fun u s1 hh => ?_)
  · refine tE_then er hr h.bnd fun v μ1 w H1 ι1 g e1 hr1 r1 _ => ?_
    cases v with
    | exo c y =>
      have g : Out (if wd.fld c = f then some (.ok y, μ1) else none) (Gd G B ι H (al (.fld f a)) Q) (Bad G B ι H W σ) := g
      split at g
      · rename_i hf
        have hf2 : G.fld c = f := by rw [cl.1]; exact hf
        obtain ⟨d, b, hs⟩ := cl.2.2 c (by rw [hf]; exact hc)
        obtain ⟨F, _, _⟩ := cl.2.1 c d b hs
        cases r1 with
        | exo q1 q2 nb ni r1 =>
          rw [hf2] at F q2
          exact ⟨_, _, _, _, rfl, q1, q2, F, g _ H1 ι1 e1 hr1 r1 fun z => by cases z⟩
      · exact g.elim
    | _ => exact g.elim
  · obtain ⟨x, H1, I1, rx, a, C, dd, w, ex, q1, q2, F, q⟩ := hh
    subst ex
    obtain rfl : u = Value.ref a := rx
    obtain ⟨oe, od, mA, J, hl, hr2⟩ := inst_of I1 q1 q2
    obtain ⟨u, hu, ru⟩ := RelO.some_of (v := w) (o := mA f) (by
      have := hr2 f
      simp [List.lookup] at this
      exact this)
    exact HandSPX.exc_get I1.kIn J (by rw [hK]; exact F.ga) (by rw [hK]; exact F.gg) (by rw [hK]; exact F.sb) (PySem.W.findObj_own (by rw [hK]; exact F.hd) (by rw [hK]; exact F.no) rfl (by rw [hl, hu])) (handed_of ru) ⟨w, H1, I1.tok _, ru, q⟩
end
end MI
end
section
set_option Elab.async false
set_option linter.all false
set_option maxHeartbeats 8000000
set_option maxRecDepth 100000
/-! MI: an error of the text is made: its class's __init__ calls the one above, then sets the field. -/
namespace MI
open PySem PySem.Calls PyProof.Rows PySem.HandSPX
/-- the text of such an __init__ -/
def xArgs (f : Str) (p1 p2 : Pos) : Arguments := { posonlyargs := [], args := [⟨"self", none, p1⟩, ⟨f, none, p2⟩], vararg := none, kwonlyargs := [], kw_defaults := [], kwarg := none, defaults := [] }
def xBody (f msg : Str) (j : Nat) (q : List Pos) : List Stmt := [.Expr (.Call (.Attribute (.Call (.Name "super" (q.getD 0 ⟨0, 0, 0, 0⟩)) [] [] (q.getD 1 ⟨0, 0, 0, 0⟩)) "__init__" (q.getD 2 ⟨0, 0, 0, 0⟩)) [.Constant (.str msg) j (q.getD 3 ⟨0, 0, 0, 0⟩)] [] (q.getD 4 ⟨0, 0, 0, 0⟩)) (q.getD 5 ⟨0, 0, 0, 0⟩),
  .Assign [.Attribute (.Name "self" (q.getD 6 ⟨0, 0, 0, 0⟩)) f (q.getD 7 ⟨0, 0, 0, 0⟩)] (.Name f (q.getD 8 ⟨0, 0, 0, 0⟩)) (q.getD 9 ⟨0, 0, 0, 0⟩)]
/-- what must be known of the class at C, whose field is f -/
structure MkT (prog : Program) (K : W.Frag) (C : Addr) (f : Str) : Prop where
  cls : ∃ nm q N bs bm sn sub ab col dd k0 k1 k2 k3 k5, K.lookup C = some (excClassObj nm q C N bs bm true sn sub ab col dd k0 k1 k2 k3 k5 "ValueError.__new__") ∧ refsVE bm = true
  sa : W.findIn K (.ref C) "__setattr__" = some (some (.builtin "object.__setattr__"))
  no : W.findIn K (.ref C) f = some none
  kC : W.keepIn K (.ref C) = true
  sb : W.subIn K (.ref C) (.type "BaseException") = some true
  ty : W.typeIn K (.ref C) = some (.type "type")
  sv : W.subIn K (.ref C) (.type "ValueError") = some true
  up : W.ks_superIn K C C "__init__" = some (some (.builtin "ValueError.__init__"))
  tp : W.nsIn K cStatics "thirdparty.any" = some none
  me : W.mroIn K C (.ref C) = some true
  su : W.nsIn K mainGlobals "super" = some none
  top : (prog.main.scope.names.lookup ("super" : Str)).isSome = false
  fd : (f == ("__debug__" : Str)) = false
  fs : (f == ("self" : Str)) = false
  fn : ∃ (fI cc cda : Addr) (oc ccl cl : Value) (od cdd cld : Option Addr) (osl ccs csl : Array (Option Value)) (vs : Array Value) (file : Str) (tf : Tok) (qual : Str) (sc : Scope) (kV doc pm ct : Value) (an : Option Addr) (p1 p2 : Pos) (msg : Str) (j : Nat) (ps : List Pos),
    W.findIn K (.ref C) "__init__" = some (some (.ref fI)) ∧ W.typeIn K (.ref fI) = some (.type "function") ∧
    K.lookup fI = some ⟨oc, od, .func (W.ksFn "__init__" qual (xArgs f p1 p2) (xBody f msg j ps) sc .none kV doc pm an (.ref cda) ct cc), osl⟩ ∧ W.codeIn K (.ref cda) qual = true ∧
    K.lookup cc = some ⟨cl, cld, .cell (some (.ref C)), csl⟩ ∧ K.lookup cda = some ⟨ccl, cdd, .fields vs, ccs⟩ ∧ vs[2]? = some (.str file tf) ∧ ((prog.main.file : Str) == file) = true ∧
    sc.kind = .function ∧ sc.isCoroutine = false ∧ sc.isGenerator = false ∧ (∀ x ∈ sc.names, x.2 ≠ .cell) ∧ sc.names.lookup ("self" : Str) = some NameKind.local ∧ sc.names.lookup f = some NameKind.local ∧ sc.names.lookup ("super" : Str) = some NameKind.globalImplicit ∧ sc.names.lookup ("__class__" : Str) = some NameKind.free ∧ ((ps.getD 2 ⟨0, 0, 0, 0⟩).endLine == (ps.getD 4 ⟨0, 0, 0, 0⟩).line) = true ∧
    ∀ a b : Value, bindArgs (W.ksFn "__init__" qual (xArgs f p1 p2) (xBody f msg j ps) sc .none kV doc pm an (.ref cda) ct cc) ⟨[a, b], []⟩ = pure [(("self" : Str), a), (f, b)]
/-- what such an __init__ leaves of a fresh error at x -/
structure MkEnd (h h' : Heap) (x C dx t1 : Addr) (f : Str) (v : Value) : Prop where
  keep : ∀ b o, b ≠ x → h.get? b = some o → h'.get? b = some o
  obj : h'.get? x = some { cls := .ref C, dict := some dx, data := .fields #[.ref t1, .none, .none, .none, .bool false, .none] }
  dbig : h.objs.size ≤ dx
  dne : dx ≠ x
  ns : h'.Ns1 dx (fun y => if y = f then some v else none)
theorem one_long (v : Value) : [v].length ≤ sizeLine := by
  rw [sizeLine_eq]
  show 1 ≤ 16777216
  decide
section
variable {prog : Program} {w : World} {A : Around} {E : Value → Shared → Prop} {R : Result → Shared → Prop} {s : Shared} {K : W.Frag} {mg mb : Str → Option Value} {C : Addr} {f : Str}
theorem mk_init (T : MkT prog K C f) {fI x t0 : Addr} {v : Value} (X : K.In s.heap) (hG : s.heap.Ns mainGlobals mg) (hB : s.heap.Ns builtinsNs mb) (hb : mb "super" = some (.type "super")) (lim : s.heap.NoLimit) (hi : W.findIn K (.ref C) "__init__" = some (some (.ref fI)))
    (hx : s.heap.get? x = some (excO C t0)) (hnx : K.lookup x = none) (hroom : A.depth < recursionLimit) (hq : ∀ h' tk dx t1, MkEnd s.heap h' x C dx t1 f v → R (.ok (.ret .none)) { s with heap := h', toks := tk }) :
    codeAny (model prog w) A (.call (.ref fI) ⟨[.ref x, v], []⟩) R s := by
  obtain ⟨fI', cc, cda, oc, ccl, cl, od, cdd, cld, osl, ccs, csl, vs, file, tf, qual, sc, kV, doc, pm, ct, an, p1, p2, msg, j, ps, hi', htI, ho, hcd, hcell, hcode, hvs, hfile, k1, k2, k3, k4, k5, k6, k7, k8, kl, k9⟩ := T.fn
  rw [hi] at hi'
  cases hi'
  obtain ⟨nm, q, N, bs, bm, sn, sub, ab, col, dd, z0, z1, z2, z3, z5, hC, hbm⟩ := T.cls
  have hcl : W.clsIn K C = some { name := nm, bases := bs, mro := .ref C :: bm, ns := N, qualname := q, hasDict := true, slotNames := sn, subclasses := sub, abstract := ab, collection := col, hasDel := false } := by unfold W.clsIn; rw [hC] <;> rfl
  refine ks_codeAny_call_defAt (fd := W.ksFn "__init__" qual (xArgs f p1 p2) (xBody f msg j ps) sc .none kV doc pm an (.ref cda) ct cc) (body := xBody f msg j ps) (binds := [("self", .ref x), (f, v)]) hroom (X _ _ ho) rfl lim (W.codeRec_of X hcd) rfl
    (BindsTo.of_eq (k9 _ _)) k4 (fun y hy => by
      rcases List.mem_cons.mp hy with e | hy
      · rw [e]; exact k5
      · rw [List.mem_singleton.mp hy]; exact k6) (fun h₁ hns kk => ?_) k2 k3 k1
  have X₁ : K.In h₁ := X.keeps kk
  have hx₁ := kk _ _ hx
  have hlx : x < s.heap.objs.size := Heap.lt_size hx
  have hself : ([(("self" : Str), Value.ref x), (f, v)].reverse.lookup ("self" : Str)) = some (.ref x) := by
    have e : (("self" : Str) == f) = false := by
      have := T.fs
      rw [beq_eq_false_iff_ne] at this ⊢
      exact fun z => this z.symm
    simp [List.lookup, e]
  have hval : ([(("self" : Str), Value.ref x), (f, v)].reverse.lookup f) = some v := by simp [List.lookup]
  show PySem.wpAt (model prog w) (A.deeper (W.ksEnv qual sc s.heap.objs.size fI (.ref cda) cc)) (.func (xBody f msg j ps) (W.ksEnv qual sc s.heap.objs.size fI (.ref cda) cc)) (PySem.execs (xBody f msg j ps) (W.ksEnv qual sc s.heap.objs.size fI (.ref cda) cc)) _ _ _
  obtain ⟨hh, g, d, tk, os⟩ := s
  -- super().__init__(msg)
  refine ks_wpAt_execs_cons (ks_wpAt_Expr_any (ks_wpAt_MethodCall (pl := L2.plainOf (.Call (.Name "super" (ps.getD 0 ⟨0, 0, 0, 0⟩)) [] [] (ps.getD 1 ⟨0, 0, 0, 0⟩)) (W.ksEnv qual sc hh.objs.size fI (.ref cda) cc)) ?_ ?_) ?_ rfl)
  rotate_left
  · show (attributeBase _ _ _ _ >>= fun ov => standAt _ >>= fun _ => methodCall _ _ _ _ _ ov _ _ _) = _
    exact congrArg _ (funext fun ov => congrArg _ (funext fun _ => L2.mcall_line rfl kl))
  · show (interactive (W.ksEnv qual sc hh.objs.size fI (.ref cda) cc)) = false
    simp [interactive, W.ksEnv, W.envX, k1]
  obtain ⟨oD, cdD, hD1, hD2⟩ : ∃ oD cdD, h₁.get? C = some oD ∧ oD.data = .cls cdD := ⟨_, _, X₁ _ _ hC, rfl⟩
  have hG₁ : h₁.Ns mainGlobals mg := hG.keeps kk
  have hB₁ : h₁.Ns builtinsNs mb := hB.keeps kk
  have hms : mg "super" = none := W.mg_none_of X hG T.su
  refine ks_wpAt_super_base (env := W.ksEnv qual sc hh.objs.size fI (.ref cda) cc) k7 k8 (by decide) rfl (X₁ _ _ ho) rfl rfl rfl (X₁ _ _ hcode) rfl hvs hfile T.top ?_
  refine W.ks_loadName_global k1 k7 (loadGlobal_builtin (env := W.ksEnv qual sc hh.objs.size fI (.ref cda) cc) hG₁ hms hB₁ hb ⟨rfl, ?_⟩)
  refine wpAny_loadName_free k1 k8 rfl ⟨_, X₁ _ _ hcell, rfl⟩ ?_
  refine wpAny_loadName_local k1 k5 hns hself ?_
  refine ks_wpAny_isType_cls hD1 hD2 ⟨rfl, ?_⟩
  refine ks_wpAny_call_super hD1 hD2 hx₁ rfl (fun c e => by cases e) (W.looks_mroIn X₁ T.me) (fun h₂ hso k₂ => ?_)
  have X₂ : K.In h₂ := X₁.keeps k₂
  have hx₂ := k₂ _ _ hx₁
  have I₂ : W.InstAt h₂ x (excO C t0) C none := ⟨hx₂, rfl, rfl, trivial⟩
  refine W.kxs_getMethod W.kxs_ValueError hso (W.looks_opaque X₂ T.tp) (l₀ := .ref C :: bm) (fun A Q E s k q => wpAny_bind ((W.looks_clsIn X₂ hcl) A _ E s k (wpAny_pure q))) rfl X₂ (by
    have := T.up
    unfold W.ks_superIn at this
    rw [hcl] at this
    exact this) (I₂.type.andThen (W.looks_subIn X₂ T.sv)) (W.ks_ne X₂ I₂ hcl) (by decide) ?_
  have k₃ : ∀ b o, h₂.get? b = some o → (h₂.push (W.kxs_mw "ValueError.__init__" x)).get? b = some o := fun b o e => Heap.get?_push_of_some _ e
  have hu : (h₂.push (W.kxs_mw "ValueError.__init__" x)).get? h₂.objs.size = some (W.kxs_mw "ValueError.__init__" x) := Heap.get?_push_at rfl rfl
  refine W.kxs_callWith (i := "ValueError.__init__") (x := x) rfl (evalArgs_plain ?_)
  refine Calls.spliced_cons ?_
  refine Calls.Constant_str (k := j) (pos := ps.getD 3 ⟨0, 0, 0, 0⟩) ?_
  refine Calls.spliced_nil ⟨hu, ?_⟩
  -- the bound one is called
  have hC₃ := k₃ _ _ (X₂ _ _ hC)
  have hx₃ := k₃ _ _ hx₂
  have FB := F.excBase_ValueError
  refine wpAny_call (codeAny_of_tree ?_)
  show wpAny _ _ (callAny (.ref h₂.objs.size) ⟨[.str msg _], []⟩) _ _ _
  unfold callAny
  refine wpAny_bind (wpAny_load hu ?_)
  have e1 : (Value.type "method-wrapper" == Value.type "method" || Value.type "method-wrapper" == Value.type "builtin_function_or_method" || Value.type "method-wrapper" == Value.type "method-wrapper") = true := by decide
  simp only [W.kxs_mw, e1, if_true]
  refine W.KFB.if_so (by decide) (wpAny_bind (W.check_bound_init FB.toExcCallFacts hC₃ hx₃ rfl (wpAny_bind (wpAny_pure (wpAny_pure ?_)))))
  refine ⟨plainId_quiet FB.init.plain _, codeAny_builtin FB.initEntry (W.exc_init_tree (cls := .ref C) (t0 := t0) (dv := none) (c2 := .none) (c3 := .none) (b4 := .bool false) hx₃ (one_long _) fun h₄ k₄ hx₄ _ => ?_)⟩
  -- self.f = f
  have hL : hh.objs.size ≠ x := Nat.ne_of_gt hlx
  have old : ∀ b o, b ≠ x → h₁.get? b = some o → h₄.get? b = some o := fun b o hb e => k₄ b o hb (k₃ _ _ (k₂ _ _ e))
  have X₄ : K.In h₄ := fun b o e => old b o (fun z => by rw [z, hnx] at e; cases e) (X₁ _ _ e)
  have hns₄ : h₄.Ns hh.objs.size (fun y => [(("self" : Str), Value.ref x), (f, v)].reverse.lookup y) := by
    obtain ⟨oL, es, ep, h1, r⟩ := hns
    exact ⟨oL, es, ep, old _ _ hL h1, r⟩
  refine ks_wpAt_execs_cons (ks_wpAt_Assign_Attr (wpAt_of_wpAny ?_) rfl)
  refine wpAny_Name (wpAny_loadName_local k1 k6 hns₄ hval ?_) T.fd
  refine wpAny_Name (wpAny_loadName_local k1 k5 hns₄ hself ?_) (by decide)
  have hx₄' : h₄.get? x = some (excO C (h₂.push (W.kxs_mw "ValueError.__init__" x)).objs.size) := hx₄
  refine W.set_plain X₄ (ox := excO C (h₂.push (W.kxs_mw "ValueError.__init__" x)).objs.size) (od := none) ⟨hx₄', rfl, rfl, trivial⟩ T.sa ?_
  refine exc_osa X₄ hx₄' hcl (show refsVE (.ref C :: bm) = true from hbm) rfl T.no (fun h₅ tk₅ dx k₅ dn dne hx₅ hn₅ => ?_)
  refine wpAt_of_wpAny (wpAny_execs_nil ?_)
  exact hq h₅ tk₅ dx _ ⟨fun b o hb e => k₅ b o hb (old b o hb (kk b o e)), hx₅, Nat.le_trans (Nat.le_of_lt hns₄.lt) dn, dne, hn₅⟩
/-- such an error, made -/
structure MkD (h h' : Heap) (e C d : Addr) (f : Str) (v : Value) : Prop where
  keep : ∀ b o, h.get? b = some o → h'.get? b = some o
  new : h.objs.size ≤ e
  obj : ∃ oe vs, h'.get? e = some oe ∧ oe.cls = .ref C ∧ oe.dict = some d ∧ oe.data = .fields vs ∧ vs[1]? = some .none
  dbig : h.objs.size ≤ d
  dne : d ≠ e
  ns : h'.Ns1 d (fun y => if y = f then some v else none)
theorem mk_made (T : MkT prog K C f) {v : Value} (X : K.In s.heap) (hG : s.heap.Ns mainGlobals mg) (hB : s.heap.Ns builtinsNs mb) (hb : mb "super" = some (.type "super")) (lim : s.heap.NoLimit) (hroom : A.depth + 1 < recursionLimit)
    (hq : ∀ h' tk e d, MkD s.heap h' e C d f v → R (.ok (.ret (.ref e))) { s with heap := h', toks := tk }) : codeAny (model prog w) A (.call (.ref C) ⟨[v], []⟩) R s := by
  obtain ⟨nm, q, N, bs, bm, sn, sub, ab, col, dd, z0, z1, z2, z3, z5, hC, hbm⟩ := T.cls
  obtain ⟨fI, _, _, _, _, _, _, _, _, _, _, _, _, _, _, _, _, _, _, _, _, _, _, _, _, _, _, hi, htI, _⟩ := id T.fn
  obtain ⟨hp, g, dr, tk, os⟩ := s
  have k : ∀ b o, hp.get? b = some o → ((hp.push (W.kdv_tup [v])).push (excO C hp.objs.size)).get? b = some o := fun b o e => Heap.get?_push_of_some _ (Heap.get?_push_of_some _ e)
  have hz : (hp.push (W.kdv_tup [v])).objs.size = hp.objs.size + 1 := Heap.size_push ..
  have hget : ((hp.push (W.kdv_tup [v])).push (excO C hp.objs.size)).get? (hp.objs.size + 1) = some (excO C hp.objs.size) := by
    have := Heap.get?_push_size (hp.push (W.kdv_tup [v])) (o := excO C hp.objs.size) rfl
    rw [hz] at this; exact this
  have hnx : K.lookup (hp.objs.size + 1) = none := by
    cases e : K.lookup (hp.objs.size + 1) with
    | none => rfl
    | some o => exact absurd (Nat.lt_of_succ_lt (Heap.lt_size (X _ _ e))) (Nat.lt_irrefl _)
  refine call_own F.excBase_ValueError (fun Y => refsVE_contains Y bm hbm) (X _ _ hC) (W.looks_findIn X hi) (fun self => W.bind_fn X self htI) (one_long v) ?_
  refine mk_init (s := ⟨(hp.push (W.kdv_tup [v])).push (excO C hp.objs.size), g, dr, tk, os⟩) T (X.keeps k) (hG.keeps k) (hB.keeps k) hb (lim.keeps k) hi hget hnx hroom fun h' tk' dx t1 M => ?_
  have z : hp.objs.size + 2 ≤ dx := by
    have := M.dbig
    rw [show (Shared.heap ⟨(hp.push (W.kdv_tup [v])).push (excO C hp.objs.size), g, dr, tk, os⟩) = (hp.push (W.kdv_tup [v])).push (excO C hp.objs.size) from rfl, Heap.size_push, hz] at this
    exact this
  exact ⟨rfl, hq h' tk' (hp.objs.size + 1) dx ⟨fun b o e => M.keep b o (Nat.ne_of_lt (Nat.lt_succ_of_lt (Heap.lt_size e))) (k b o e), Nat.le_succ _, ⟨_, _, M.obj, rfl, rfl, rfl, rfl⟩, by show hp.objs.size ≤ dx; omega, M.dne, M.ns⟩⟩
end
end MI
end
section
set_option Elab.async false
set_option linter.all false
set_option maxHeartbeats 8000000
/-! MI: raise of an error of the text. -/
namespace MI
open PySem PySem.Spec PyProof.Rows L2
section
variable {X : Cx} {G : GI} {W : WX} {wd : Wd}
theorem relO_one {v : V} {v' : Value} (r : RelV v v') (f g : Str) : RelO (List.lookup g [(f, v)]) (if g = f then some v' else none) := by
  by_cases hw : g = f
  · subst hw
    rw [if_pos rfl]
    have q : List.lookup g [(g, v)] = some v := by simp [List.lookup]
    rw [q]
    exact r
  · rw [if_neg hw]
    have qw : (g == f) = false := by simpa using hw
    have q2 : List.lookup g [(f, v)] = none := by simp [List.lookup, qw]
    rw [q2]
    trivial
/-- the making of an error, as the raise wants it -/
theorem pmk_mi {C : Addr} {f x : Str} {a : Expr} {ta : TA} {p pos : Pos} {k : Nat} (T : MkT X.prog X.K C f) (hr : Room k X.A) (ha : PA X [a] ta) (hg : Gl X x) (hm : X.mg x = some (.ref C)) (hd : (x == ("__debug__" : Str)) = false)
    (he : starEach (a :: []) X.env = (false, eval a X.env) :: starEach [] X.env) : PMk X (.Call (.Name x p) [a] [] pos) (fun σ H Q => ta σ H fun vs H1 => ∃ v, vs = [v] ∧ ∀ d, H1 d = none → Q (.ref C) (some d) (upd H1 d (.xd [(f, v)]))) := by
  intro pins s σ H Q I h
  refine wpAny_Call_Name_kw (ld_glob I hg hm ?_ hd)
  refine PySem.W.callWith_K (h₀ := X.base) I.ok.mod.kin T.kC (thn (ha.run pos pins s σ H _ I h) fun us s1 hh => ?_) he rfl
  obtain ⟨vs, H1, I1, r1, v, ev, q1⟩ := hh
  subst ev
  refine ⟨I1.kIn, ?_⟩
  cases r1 with
  | @cons _ v' _ us' rv rn =>
    cases rn
    show wpAny _ _ (call (.ref C) [v']) _ _ _
    have lim := I1.nolimit
    obtain ⟨mb, b1, b2⟩ := I1.mod.blt
    have hG := I1.mod.glob.keeps I1.bk
    have hB := b1.keeps I1.bk
    have hb : mb "super" = some (.type "super") := (b2 "super" (by decide)).trans (by decide +kernel)
    obtain ⟨hp, g, dr, tk, os⟩ := s1
    refine wpAny_call (mk_made T I1.kIn hG hB hb lim (by have := hr.dp; omega) fun h' tk' e d M => ?_)
    show MkP X pins σ Q (.ref e) ⟨h', g, dr, tk', os⟩
    obtain ⟨oe, fv, hoe, hc, hdd, hdat, h1⟩ := M.obj
    obtain ⟨G', g1, g2⟩ := restrict h' fun b => decide (b ≠ e)
    have gk : ∀ b, b ≠ e → G'.get? b = h'.get? b := fun b hb => g1 b (decide_eq_true hb)
    have ge : G'.get? e = none := g2 e (by simp)
    have old : ∀ b o, hp.get? b = some o → G'.get? b = some o := fun b o q => (gk b (Nat.ne_of_lt (Nat.lt_of_lt_of_le (Heap.lt_size q) M.new))).trans (M.keep b o q)
    have ob : ObjOk X.prog X.w (upd H1 d (.xd [(f, v)])) G' d (.xd [(f, v)]) := ⟨_, M.ns.at (fun o q => (gk d M.dne).trans q), fun n => relO_one rv f n⟩
    have J : Inv X pins σ (upd H1 d (.xd [(f, v)])) ⟨G', g, dr, tk', os⟩ := I1.laid (t' := tk') old M.dbig ob
    refine ⟨e, oe, fv, ⟨G', g, dr, tk', os⟩, _, .ref C, some d, rfl, J, fun b o q => ?_, ge, hoe, ⟨hc, hdd⟩, hdat, h1, ?_, rfl, I1.bare, raises_own T.sb T.ty, q1 d (I1.hok.fresh M.dbig)⟩
    · by_cases hb : b = e
      · rw [hb] at q
        exact absurd (q.symm.trans ge) (by simp)
      · exact (gk b hb).symm.trans q
    · rw [upd_ne (Ne.symm M.dne)]
      exact I1.hok.fresh M.new
theorem s_rai {c k : Nat} {x : Str} {y : Expr} {a : E} {p pos pos2 : Pos} (hK : X.K = G.K) (hc : X.calm = true) (tk : Takes X W) (T : MkT X.prog X.K (G.cls c) (G.fld c)) (hr : Room k X.A) (ha : PA X [y] (tEs G W wd (.cons a .nil))) (hg : Gl X x) (hm : X.mg x = some (.ref (G.cls c))) (hd : (x == ("__debug__" : Str)) = false)
    (he : starEach (y :: []) X.env = (false, eval y X.env) :: starEach [] X.env) : PS X (.Raise (some (.Call (.Name x p) [y] [] pos)) none pos2) (tS G W wd (.rai c a)) :=
  psW (ps_raise hc tk (pmk_mi T hr ha hg hm hd he)) fun D σ H ⟨B, ι, μ, ρ, er, hr, h⟩ => by
    simp only [exec] at h
    refine one_arg er hr (h.thenE er) fun v μ1 w H1 ι1 g e1 hr1 r1 => ⟨w, rfl, fun d hd => ?_⟩
    have e2 : Ext G.K ι1 H1 ι1 (upd H1 d (.xd [(G.fld c, w)])) := Ext.push hd
    exact g (.ref (G.cls c)) (some d) σ _ ι1 (e1.trans e2) (hr1.pushO hd) ((er.mono e1).mono e2) ⟨rfl, d, w, rfl, upd_same, r1.mono e2⟩
end
end MI
end
section
set_option Elab.async false
set_option linter.all false
set_option maxHeartbeats 8000000
/-! MI: try: x = thunk() / except (A, B, C) as e: y = e. -/
namespace MI
open PySem PySem.Spec PyProof.Rows L2
section
variable {X : Cx} {pins : List (Addr × Obj)} {σ : L2.St} {H : Hp} {s : Shared}
/-- an object of the heap is tracked from now on -/
theorem inv_track {a : Addr} {o : HO} (I : Inv X pins σ H s) (n0 : X.s_0.heap.get? a = none) (hn : H a = none) (nL : X.env.locals ≠ a) (nc : ∀ x c, X.env.cells.lookup x = some c → c ≠ a) (np : ∀ p ∈ X.pn ++ pins, p.1 ≠ a) (new : ObjOk X.prog X.w (upd H a o) s.heap a o) : Inv X pins σ (upd H a o) s := by
  have ne0 : ∀ b u, X.s_0.heap.get? b = some u → b ≠ a := fun b u e z => by rw [z, n0] at e; cases e
  refine ⟨I.ok, I.os, I.bare, ⟨I.base.keep, I.base.slot, fun b u e n hb => ?_, I.base.there, fun b xs e => ?_, fun b u v e => ?_, fun b ps e => ?_⟩, I.loc, I.cell, ?_, fun x c e => ?_, fun p hp => ?_, fun b u e => ?_, I.len⟩
  · rw [upd_ne (ne0 b u e)]; exact I.base.free b u e n hb
  · have q := I.base.tups b xs e
    rw [upd_ne (ne_of_none q hn)]; exact q
  · have q := I.base.frzs b u v e
    rw [upd_ne (ne_of_none q hn)]; exact q
  · obtain ⟨m, q⟩ := I.base.tbls b ps e
    exact ⟨m, by rw [upd_ne (ne_of_none q hn)]; exact q⟩
  · rw [upd_ne nL]; exact I.free
  · rw [upd_ne (nc x c e)]; exact I.freeC x c e
  · obtain ⟨e, n, ne, nf, d⟩ := I.pin p hp
    exact ⟨e, by rw [upd_ne (np p hp)]; exact n, ne, nf, d⟩
  · by_cases hb : b = a
    · subst hb
      rw [upd_same] at e
      cases e
      exact new
    · rw [upd_ne hb] at e
      exact (I.hok b u e).stay (fun _ _ _ q => q) (fun c q => by rw [upd_ne (ne_of_none q hn)]; exact q) fun c xs q => by rw [upd_ne (ne_of_none q hn)]; exact q
end
/-- an error in flight, where an object is laid -/
theorem fly_push {B h : Heap} {l : List PySem.Env} {a : Addr} {Z : Obj → Prop} {o : Obj} (f : HandSPX.FlyingZ B l a Z h) : HandSPX.FlyingZ B l a Z (h.push o) := by
  obtain ⟨k1, k2, k3, oe, vs, T, oT, ts, h1, h2, h3, h4, h5, h6, h7, h8, h9⟩ := f
  refine ⟨fun b u e => Heap.get?_push_of_some _ (k1 b u e), k2, k3.of_keeps fun b u e _ => ⟨u, Heap.get?_push_of_some _ e, rfl⟩, oe, vs, T, oT, ts, Heap.get?_push_of_some _ h1, h2, h3, h4, h5, h6, Heap.get?_push_of_some _ h7, h8, h9⟩
/-- names of classes in a row, told -/
theorem spl_names {X : Cx} {pins : List (Addr × Obj)} {σ : L2.St} {H : Hp} {s : Shared} {pos : Pos} {E : Value → Shared → Prop} (I : Inv X pins σ H s) : ∀ {xs : List (Str × Pos)} {cs : List Addr} {Q : List Value → Shared → Prop}, xs.length = cs.length →
    (∀ p ∈ xs.zip cs, Gl X p.1.1 ∧ X.mg p.1.1 = some (.ref p.2) ∧ (p.1.1 == ("__debug__" : Str)) = false) → Q (cs.map Value.ref) s → wpAny (model X.prog X.w) X.A (spliced (backTo pos (starEach (xs.map fun p => .Name p.1 p.2) X.env))) Q E s
  | [], [], _, _, _, q => Calls.spliced_nil q
  | [], _ :: _, _, h, _, _ => by simp at h
  | _ :: _, [], _, h, _, _ => by simp at h
  | (x, p) :: xs, c :: cs, Q, h, k, q => by
    obtain ⟨h1, h2, h3⟩ := k ((x, p), c) (by simp)
    refine Calls.spliced_cons (ld_glob I h1 h2 ?_ h3)
    exact spl_names I (Q := fun us s' => Q (.ref c :: us) s') (by simpa using h) (fun z hz => k z (by simp only [List.zip_cons_cons, List.mem_cons]; exact .inr hz)) q
section
variable {X : Cx} {body : List Stmt} {tb : WX → TS} {Wout : WX} {i j : Nat} {n z : Str} {xs : List (Str × Pos)} {cs : List Addr} {kk : Nat} {tp np zp p5 p6 pos : Pos}
/-- what the clause wishes of an error of the body: it is held by the name in slot j -/
def wTrk (K : PySem.W.Frag) (cs : List Addr) (i j : Nat) (D : Ends) : WX := fun cls d σ H => PySem.W.exmAny K cls (cs.map Value.ref) = some true ∧ ∃ C dd, cls = .ref C ∧ d = some dd ∧
  ∀ a, H a = none → D.nx (((σ.set i (some (.ref a))).set j (some (.ref a))).set i none) (upd H a (exT C dd a))
theorem ps_try_trk (hs : X.stack = X.env :: X.outer) (hf : X.env.frame = some X.env.locals) (hex : X.ex = []) (hN : X.N.Nodup) (hi : X.N[i]? = some n) (hln : X.env.kindOf n = some .local) (hj : X.N[j]? = some z) (hlz : X.env.kindOf z = some .local)
    (hl : xs.length = cs.length) (h3 : cs.length = 3) (hc : ∀ p ∈ xs.zip cs, Gl X p.1.1 ∧ X.mg p.1.1 = some (.ref p.2) ∧ (p.1.1 == ("__debug__" : Str)) = false) (hdn : (n == ("__debug__" : Str)) = false) (hcn : (n == ("__classdict__" : Str)) = false) (hlen : ∀ {pins σ H s}, Inv X pins σ H s → i < σ.length)
    (hb : ∀ (W : WX) (pn : List (Addr × Obj)) (xe : Value → Shared → Prop), Takes (X.tr pn xe) W → PassesOwn (model X.prog X.w) X.A X.env xe → PSs (X.tr pn xe) body (tb W)) :
    PS X (.Try body [.ExceptHandler (some (.Tuple (xs.map fun p => .Name p.1 p.2) kk tp)) (some n) [.Assign [.Name z p5] (.Name n np) p6] zp] [] [] pos) (fun D σ H => tb (wTrk X.K cs i j D) D σ H) := by
  refine ⟨fun pins s σ H D I h => ?_⟩
  have ok := I.ok
  have hfr : X.A.frames = some (X.env :: X.outer) := by rw [ok.frames, hs]
  refine wpAny_Try_except ?_
  refine wpAny_mono ((hb (wTrk X.K cs i j D) (X.pn ++ pins) (fun e s₁ => wpAny (model X.prog X.w) X.A (noteFrame e X.env) (fun _ s₂ => wpAny (model X.prog X.w) X.A (setFlight e none) (fun _ s₃ =>
    wpAny (model X.prog X.w) X.A (handleBy e X.env [.ExceptHandler (some (.Tuple (xs.map fun p => .Name p.1 p.2) kk tp)) (some n) [.Assign [.Name z p5] (.Name n np) p6] zp]) (SP X pins D) X.xe s₃) X.xe s₂) X.xe s₁) (fun u s' xx => ?_) PassesOwn.looking).run [] s σ H D (I.toTry _) h) (fun f s1 hsp => ?_) (fun e s1 he => he)
  · obtain ⟨a, B, sI, pins', σ', H', cls, d, rfl, J', nb, up, sky, na, os, ag, hm, C, dd, rfl, rfl, w⟩ := xx
    have J : Inv X pins σ' H' sI := J'.ofTry ok
    have sky' : Sky B (X.env :: X.outer) a (Zc (.ref C) (some dd)) X.env.locals s'.heap := by rw [← hs]; exact sky
    show wpAny (model X.prog X.w) X.A (noteFrame (.ref a) X.env) _ _ _
    refine Sky.land Zc.steady hfr hf sky' fun h3' fl3 up3 => ?_
    have J3 : Inv X pins σ' H' { s' with heap := h3' } := J.landed nb fl3.1 (up.trans up3) os ag
    obtain ⟨oe3, vs3, he3, hz3, hd3⟩ := fl3.there
    have nfr : a ∉ frs (X.env :: X.outer) := fun hm => by
      obtain ⟨_, o', e', hnf⟩ := fl3.2.2.1.mem hm
      rw [he3] at e'; cases e'
      exact hnf _ hd3
    have nL : a ≠ X.env.locals := fun z => nfr (List.mem_filterMap.mpr ⟨X.env, List.mem_cons_self, by rw [hf, z]⟩)
    have nF : a ∉ X.fs := fun hm => by
      obtain ⟨e, he, q⟩ := List.mem_filterMap.mp hm
      exact nfr (List.mem_filterMap.mpr ⟨e, List.mem_cons_of_mem _ he, q⟩)
    -- the error is new
    have nI : sI.heap.get? a = none := by
      cases e : sI.heap.get? a with
      | none => rfl
      | some o =>
        have := nb a o e (by rw [hs]; exact nfr)
        rw [fl3.2.1] at this; cases this
    have n0 : X.s_0.heap.get? a = none := by
      cases e : X.s_0.heap.get? a with
      | none => rfl
      | some o =>
        obtain ⟨o', e'⟩ := J.base.there a o e (by rw [hex]; simp)
        rw [nI] at e'; cases e'
    have nP : ∀ p ∈ X.pn ++ pins, p.1 ≠ a := fun p hp e => by
      have := (J.pin p hp).1
      rw [e, nI] at this; cases this
    have nC : ∀ x c, X.env.cells.lookup x = some c → c ≠ a := fun x c e q => by
      obtain ⟨v, o, ho, _⟩ := J.cell x c e
      rw [q, nI] at ho; cases ho
    have S3 := J3.suite he3 hd3 na nL nF
    refine wpAny_handleBy_cons (codeAny_handlers_test ?_) (by intro q; cases q)
    refine Tuple_ (spl_names (X := X.suite a ((a, oe3) :: (X.pn ++ pins))) S3 hl hc ?_)
    refine wpAny_newTuple ?_
    have fl5 := fly_push (o := { cls := .type "tuple", data := .seq (cs.map Value.ref).toArray }) fl3
    have up5 : s'.heap.UpToSlots (h3'.push { cls := .type "tuple", data := .seq (cs.map Value.ref).toArray }) := up3.trans fun b o e hd => ⟨o.slots, Heap.get?_push_of_some _ e⟩
    have J5 : Inv X pins σ' H' { s' with heap := h3'.push { cls := .type "tuple", data := .seq (cs.map Value.ref).toArray } } := J.landed nb fl5.1 (up.trans up5) os ag
    have LT : PySem.W.Looks (model X.prog X.w) (h3'.push { cls := .type "tuple", data := .seq (cs.map Value.ref).toArray }) (typeOf (.ref a)) (.ref C) := fun A Q E s k q => wpAny_typeOf_ref (k _ _ (Heap.get?_push_of_some _ he3)) (by rw [hz3.1]; exact q)
    have LM : PySem.W.Looks (model X.prog X.w) (h3'.push { cls := .type "tuple", data := .seq (cs.map Value.ref).toArray }) (excMatches (.ref a) (.ref h3'.objs.size)) true := by
      match cs, h3 with
      | [c1, c2, c3], _ => exact PySem.W.exm_tup3 J5.kIn LT (Heap.get?_push_size _ rfl) hm
    refine LM.here ?_
    refine codeAny_handlers_suite_as ?_
    refine HandSPX.lands_againZ fl5 fun h4 fl4 up4 => ?_
    have J4 : Inv X pins σ' H' { s' with heap := h4 } := J.landed nb fl4.1 ((up.trans up5).trans up4) os ag
    obtain ⟨oe4, vs4, he4, hz4, hd4⟩ := fl4.there
    have S4 := J4.suite he4 hd4 na nL nF
    refine store_ok (X := X.suite a ((a, oe4) :: (X.pn ++ pins))) (v := .ref a) S4 hN hi (.inl hln) rfl (fun s5 S5 => ?_) (.inr hln)
    have hps : PSs (X.suite a ((a, oe4) :: (X.pn ++ pins))) [.Assign [.Name z p5] (.Name n np) p6] _ := pss_one (ps_set hN hj (.inl hlz) (pe_var (i := i) hi (.inl hln) hdn hcn) rfl (.inr hlz))
    refine wpAny_mono (hps.run [] s5 _ H' { nx := fun σ6 H6 => σ6 = (σ'.set i (some (.ref a))).set j (some (.ref a)) ∧ H6 = H', rt := fun _ _ => False } S5 ⟨.ref a, by rw [List.getElem?_set_self (hlen J4)], rfl, rfl⟩) (fun f s6 hsp => ?_) (fun _ _ z => False.elim z)
    cases f with
    | next =>
      obtain ⟨σ6, H6, S6, rfl, rfl⟩ := hsp
      refine gone_ok (X := X.suite a ((a, oe4) :: (X.pn ++ pins))) S6 hN hi hln fun s7 S7 => ?_
      have hp7 : s7.heap.get? a = some oe4 := (S7.pin (a, oe4) (List.mem_append_left _ List.mem_cons_self)).1
      refine ⟨_, _, inv_track (S7.unsuite ok) n0 na (Ne.symm nL) nC nP ?_, w a na⟩
      exact ⟨⟨oe4, vs4, hp7, hz4.1, hz4.2, hd4⟩, ⟨oe4, hp7⟩, fun h1 h2 ⟨o, v, q1, q2, q3, q4⟩ k => ⟨o, v, k _ q1, q2, q3, q4⟩⟩
    | brk => obtain ⟨_, _, _, q⟩ := hsp; exact q.elim
    | cont => obtain ⟨_, _, _, q⟩ := hsp; exact q.elim
    | ret u => obtain ⟨_, _, _, _, _, q⟩ := hsp; exact q.elim
  · cases f with
    | next =>
      obtain ⟨σ', H', J', q⟩ := hsp
      exact wpAny_execs_nil ⟨σ', H', J'.ofTry ok, q⟩
    | brk =>
      obtain ⟨σ', H', J', q⟩ := hsp
      exact ⟨σ', H', J'.ofTry ok, q⟩
    | cont =>
      obtain ⟨σ', H', J', q⟩ := hsp
      exact ⟨σ', H', J'.ofTry ok, q⟩
    | ret u =>
      obtain ⟨v, σ', H', J', r, q⟩ := hsp
      exact ⟨v, σ', H', J'.ofTry ok, r, q⟩
end
end MI
end
section
set_option Elab.async false
set_option linter.all false
set_option maxHeartbeats 8000000
/-! MI: lambdas that a def is given and calls. -/
namespace MI
open PySem PySem.Spec PyProof.Rows L2
open LamX (CodeO Tabs ExtN LamS TabB lamEnv lamCx)
/-- the same, with a caller's names and code objects in mind -/
def GI.at (G : GI) (ρ0 : Env) (σ0 : L2.St) (cd : List (Addr × Str)) : GI := { G with ρ0 := ρ0, σ0 := σ0, cd := cd }
section
variable {G : GI} {B ι : List Addr} {H : Hp} {ρ0 : Env} {σ0 : L2.St} {cd : List (Addr × Str)}
mutual
theorem RV.sw {v : MV} {w : V} : RV G B ι H v w → RV (G.at ρ0 σ0 cd) B ι H v w
  | .non => .non
  | .bl b => .bl b
  | .int i => .int i
  | .str s => .str s
  | .tup q r => .tup q (RVs.sw r)
  | .lv q nb ni r => .lv q nb ni (RVs.sw r)
  | .loc q => .loc q
  | .flH q ni r => .flH q ni (RVs.sw r)
  | .flK q r => .flK q (RVs.sw r)
  | .exo q qd nb ni r => .exo (G := G.at ρ0 σ0 cd) q qd nb ni (RV.sw r)
  | .thk a => .thk a
theorem RVs.sw {v : List MV} {w : List V} : RVs G B ι H v w → RVs (G.at ρ0 σ0 cd) B ι H v w
  | .nil => .nil
  | .cons q r => .cons (RV.sw q) (RVs.sw r)
end
mutual
theorem RV.ws {v : MV} {w : V} : RV (G.at ρ0 σ0 cd) B ι H v w → RV G B ι H v w
  | .non => .non
  | .bl b => .bl b
  | .int i => .int i
  | .str s => .str s
  | .tup q r => .tup q (RVs.ws r)
  | .lv q nb ni r => .lv q nb ni (RVs.ws r)
  | .loc q => .loc q
  | .flH q ni r => .flH q ni (RVs.ws r)
  | .flK q r => .flK q (RVs.ws r)
  | .exo q qd nb ni r => .exo (G := G) q qd nb ni (RV.ws r)
  | .thk a => .thk a
theorem RVs.ws {v : List MV} {w : List V} : RVs (G.at ρ0 σ0 cd) B ι H v w → RVs G B ι H v w
  | .nil => .nil
  | .cons q r => .cons (RV.ws q) (RVs.ws r)
end
theorem RKs.sw {v : List (Key × MV)} {w : List (Key × V)} (r : RKs G B ι H v w) : RKs (G.at ρ0 σ0 cd) B ι H v w := by
  induction r with
  | nil => exact .nil
  | cons q _ ih => exact .cons q.sw ih
theorem RKs.ws {v : List (Key × MV)} {w : List (Key × V)} (r : RKs (G.at ρ0 σ0 cd) B ι H v w) : RKs G B ι H v w := by
  induction r with
  | nil => exact .nil
  | cons q _ ih => exact .cons q.ws ih
theorem ER.sw {ρ : Env} {σ : L2.St} (r : ER G B ι H ρ σ) : ER (G.at ρ0 σ0 cd) B ι H ρ σ := ⟨r.len, fun i v e => let ⟨w, q, z⟩ := r.get i v e; ⟨w, q, z.sw⟩⟩
theorem ER.ws {ρ : Env} {σ : L2.St} (r : ER (G.at ρ0 σ0 cd) B ι H ρ σ) : ER G B ι H ρ σ := ⟨r.len, fun i v e => let ⟨w, q, z⟩ := r.get i v e; ⟨w, q, z.ws⟩⟩
theorem HR.sw {μ : Mem} (hr : HR G B ι H μ) (er : ER G B ι H ρ0 σ0) (hc : ∀ p ∈ cd, H p.1 = some (CodeO p.1 p.2) ∧ p.1 ∉ ι ∧ p.1 ∉ B) : HR (G.at ρ0 σ0 cd) B ι H μ :=
  ⟨hr.len, hr.nd, hr.bu, hr.tb, er.sw, hc, fun n a o h1 h2 => by
    have q := hr.ob n a o h1 h2
    cases o with
    | lst xs => obtain ⟨vs, q1, q2⟩ := q; exact ⟨vs, q1, q2.sw⟩
    | dic xs => obtain ⟨vs, q1, q2⟩ := q; exact ⟨vs, q1, q2.sw⟩⟩
theorem HR.ws {μ : Mem} (hr : HR (G.at ρ0 σ0 cd) B ι H μ) (h1 : G.ρ0 = []) (h2 : G.σ0 = []) (h3 : G.cd = []) : HR G B ι H μ :=
  ⟨hr.len, hr.nd, hr.bu, hr.tb, by rw [h1, h2]; exact ⟨rfl, fun i v e => by simp at e⟩, by rw [h3]; exact fun p hp => by simp at hp, fun n a o h1 h2 => by
    have q := hr.ob n a o h1 h2
    cases o with
    | lst xs => obtain ⟨vs, q1, q2⟩ := q; exact ⟨vs, q1, q2.ws⟩
    | dic xs => obtain ⟨vs, q1, q2⟩ := q; exact ⟨vs, q1, q2.ws⟩⟩
theorem RX.ws {cls : Value} {d : Option Addr} {x : Ex} (r : RX (G.at ρ0 σ0 cd) B ι H cls d x) : RX G B ι H cls d x := by
  obtain ⟨h1, da, w, h2, h3, h4⟩ := r
  exact ⟨h1, da, w, h2, h3, h4.ws⟩
end
section
variable {X : Cx} {pins : List (Addr × Obj)} {σ : L2.St} {H HZ : Hp} {s s1 : Shared}
/-- the call of what the def was given; the wish of exceptions may hang on the names -/
theorem pe_actM {CXg : CXT} {Eg : XK} {Ng : List Str} {qg : Str} {sg : Scope} {g f c' : Addr} {cdg pm ctv : Value} {params : Arguments} {body : Expr} {scope : Scope} {k i : Nat} {a : Str} {pn : List (Addr × Obj)} {xe : Value → Shared → Prop} {W : WX} {E : L2.St → XK} {tb : XK → TE} {p1 p2 : Pos}
    (I : Inv X pins σ H s) (L : LamS X.env.scope scope) (hf : s.heap.get? f = some (PySem.W.kla_obj "<lambda>" (X.env.qual ++ "<lambda>") params body scope (cloFrom X.env.cells scope.names []) pm c' ctv)) (hfn : H f = none) (hfr : f ∉ frs X.stack)
    (hbind : bindArgs (PySem.W.kla_fn "<lambda>" (X.env.qual ++ "<lambda>") params body scope (cloFrom X.env.cells scope.names []) pm (.ref c') ctv) ⟨[], []⟩ = pure [])
    (tk : Takes ((cxOf CXg X.prog X.w X.K X.mg X.base Ng qg sg g cdg X.A X.stack s H Eg).tr pn xe) W) (hW : ∀ σ' cls d H', E σ' cls d H' → W cls d σ' H') (hr : Room (k + 1) (X.A.deeper (envOfC qg sg s.heap.objs.size g cdg)))
    (hbody : ∀ (A : Around) (outer : List PySem.Env) (s : Shared) (H : Hp) (E : XK), Room k (A.deeper (lamEnv X scope s.heap.objs.size f c')) → PE (lamCx X A outer s H E scope f c') body (tb E))
    (hN : Ng[i]? = some a) (hv : Vis sg a) (hd : (a == ("__debug__" : Str)) = false) (hcd : (a == ("__classdict__" : Str)) = false) :
    PE ((cxOf CXg X.prog X.w X.K X.mg X.base Ng qg sg g cdg X.A X.stack s H Eg).tr pn xe) (.Call (.Name a p1) [] [] p2)
      (fun σZ HZ Q => σZ[i]? = some (some (.ref f)) ∧ HZ c' = some (CodeO c' (X.env.qual ++ "<lambda>")) ∧ tb (E σZ) σ HZ Q) := by
  refine ⟨fun pinsZ sZ σZ HZ Q IZ ⟨hs, hc, ht⟩ => ?_⟩
  refine wpAny_Call_Name_kw (thn ((pe_var (pos := p1) (i := i) hN hv hd hcd).run pinsZ sZ σZ HZ (fun v H1 => v = .ref f ∧ H1 = HZ) IZ ⟨.ref f, hs, rfl, rfl⟩) fun u s1 ⟨v, H1, I1, r1, ev, eH⟩ => ?_)
  subst ev
  rw [eH] at I1
  obtain rfl : u = Value.ref f := r1
  have of1 := I1.base.keep f _ hf hfn hfr (fun z => nomatch (show f ∈ ([] : List Addr) from z))
  refine PySem.W.callWith_F0 ⟨_, _, _, _, of1⟩ ?_
  have un : Un (frs X.stack) [] H HZ s.heap s1.heap := I1.base
  obtain ⟨⟨oc, vs, t, hoc, hdc, hvc⟩, _, _⟩ := I1.hok c' _ hc
  have rc : codeAny (model X.prog X.w) (X.A.deeper (envOfC qg sg s.heap.objs.size g cdg)) (.call (.ref f) ⟨[], []⟩) (CR (L2.CX X.prog X.w) (envOfC qg sg s.heap.objs.size g cdg :: X.stack) X.prog X.w HZ s1 Q (E σZ)) s1 := by
    refine PySem.W.kla_callFunE hr.depth of1 rfl L.co L.gen rfl ⟨c', oc, vs, t, rfl, hoc, hdc, hvc⟩ ?_
    rw [hbind]
    refine wpAny_pure (wpAny_newFunctionEnv (fun y hy => (L.own y hy).2) (fun y hy => absurd hy (by simp)) (fun h₁ hns hsb => ⟨I1.nolimit.fresh _ hsb, ?_⟩) L.kind)
    have kp : ∀ b o, s1.heap.get? b = some o → h₁.get? b = some o := fun b o e => hsb.extBut b o (Nat.ne_of_lt (Heap.lt_size e)) (Heap.get?_push_of_some _ e)
    have J := LamX.lam_start2 (A := X.A.deeper (envOfC qg sg s.heap.objs.size g cdg)) (outer := envOfC qg sg s.heap.objs.size g cdg :: X.stack) (E := E σZ) (f := f) (c' := c') (tk := s1.toks + ([] : List (Str × Value)).length) I L I1.env0 hr.hd un hns kp
    refine PySem.W.kla_codeExpr (wpAny_mono ((hbody _ _ s1 HZ (E σZ) (hr.deeper _)).run [] _ _ HZ Q J ht) (fun v s' ⟨w', H', J', rv, q⟩ => ?_) fun e s' hq => hq)
    exact ⟨w', H', J'.os, J'.bare, J'.base, J'.hok, rv, q⟩
  refine wpAny_call (codeAny_mono rc fun r s' hq => ?_)
  cases r with
  | error e => exact tk e s' (XE.of_call I1 (fun cls d H' h => hW σZ cls d H' h) hq)
  | ok fl =>
    cases fl with
    | ret u => exact I1.after hq
    | next => exact False.elim hq
    | brk => exact False.elim hq
    | cont => exact False.elim hq
end
end MI
end
section
set_option Elab.async false
set_option linter.all false
set_option maxHeartbeats 8000000
/-! MI: the try around what a def was given. -/
namespace MI
open PySem PySem.Spec PyProof.Rows L2
open LamX (CodeO)
theorem exm_any {G : GI} {wd : Wd} (cl : ClsOk G wd) {c : Nat} : ∀ {ds : List Nat} {b : Bool}, subAny wd.sub c ds = some b → PySem.W.exmAny G.K (.ref (G.cls c)) ((ds.map G.cls).map Value.ref) = some b
  | [], b, h => by simpa [subAny, PySem.W.exmAny] using h
  | d :: ds, b, h => by
    simp only [subAny] at h
    obtain ⟨b1, h1, h⟩ := Option.bind_eq_some_iff.mp h
    obtain ⟨b2, h2, rfl⟩ := Option.map_eq_some_iff.mp h
    have e1 := (cl.2.1 c d b1 h1).2.2
    have e2 := exm_any cl h2
    simp only [List.map_cons, PySem.W.exmAny, e1, e2]
section
variable {X : Cx} {G : GI} {W : WX} {wd : Wd}
theorem HR.nod {B ι : List Addr} {H : Hp} {μ : Mem} {a : Addr} {o : HO} (hr : HR G B ι H μ) (h : H a = some o) (n : ¬ BO o) : a ∉ B ∧ a ∉ ι := by
  refine ⟨fun z => ?_, fun z => ?_⟩
  · obtain ⟨⟨u, q, b⟩, _⟩ := hr.bu a z
    rw [h] at q
    cases q
    exact n b
  · obtain ⟨k, hk⟩ := List.mem_iff_getElem?.mp z
    have hl : k < μ.length := by rw [← hr.len]; exact (List.getElem?_eq_some_iff.mp hk).1
    have q := hr.ob k a μ[k] hk (List.getElem?_eq_getElem hl)
    cases e : μ[k] with
    | lst xs => rw [e] at q; obtain ⟨vs, q, _⟩ := q; rw [h] at q; cases q; exact n .l
    | dic xs => rw [e] at q; obtain ⟨vs, q, _⟩ := q; rw [h] at q; cases q; exact n .d
theorem ER.drop {B ι : List Addr} {H : Hp} {ρ : Env} {σ : L2.St} (er : ER G B ι H ρ σ) (n : Nat) : ER G B ι H (ρ.set n none) (σ.set n none) :=
  ⟨by simp [er.len], fun i v h => by
    by_cases e : n = i
    · subst e
      have hl : n < ρ.length := by simpa using (List.getElem?_eq_some_iff.mp h).1
      rw [List.getElem?_set_self hl] at h
      cases h
    · rw [List.getElem?_set_ne e] at h ⊢
      exact er.get i v h⟩
theorem set_two {α : Type} {l : List α} {i j : Nat} {a b c : α} (h : j ≠ i) : ((l.set i a).set j b).set i c = (l.set j b).set i c := by
  rw [List.set_comm _ _ (Ne.symm h), List.set_set]
theorem s_tra {f c' : Addr} {q a y n z : Str} {i j nn : Nat} {act : Mem → R MV} {tl : XK → Hp → VK → Prop} {xs : List (Str × Pos)} {ds : List Nat} {kk : Nat} {p1 p2 p3 p4 p5 p6 tp np zp pos : Pos} (hK : X.K = G.K) (cl : ClsOk G wd) (hact : wd.act = some (f, act)) (hcd : (c', q) ∈ G.cd)
    (hs : X.stack = X.env :: X.outer) (hf : X.env.frame = some X.env.locals) (hex : X.ex = []) (hN : X.N.Nodup) (hi : X.N[i]? = some y) (hly : X.env.kindOf y = some .local) (hj : X.N[j]? = some z) (hlz : X.env.kindOf z = some .local) (hn : X.N[nn]? = some n) (hln : X.env.kindOf n = some .local)
    (hdn : (n == ("__debug__" : Str)) = false) (hcn : (n == ("__classdict__" : Str)) = false)
    (hp : ∀ (W' : WX) (pn : List (Addr × Obj)) (xe : Value → Shared → Prop) (E : L2.St → XK), Takes (X.tr pn xe) W' → (∀ σ' cls d H', E σ' cls d H' → W' cls d σ' H') →
      PE (X.tr pn xe) (.Call (.Name a p1) [] [] p2) (fun σZ HZ Q => σZ[0]? = some (some (.ref f)) ∧ HZ c' = some (CodeO c' q) ∧ tl (E σZ) HZ Q))
    (htl : ∀ (E : XK) (B ι : List Addr) (μ : Mem) (H : Hp) (Q : VK), HR G B ι H μ → Out (act μ) (fun v μ' => ∀ w H' ι', Ext G.K ι H ι' H' → HR G B ι' H' μ' → RV G B ι' H' v w → Q w H') (fun x μ' => ∀ cls d H' ι', Ext G.K ι H ι' H' → HR G B ι' H' μ' → RX G B ι' H' cls d x → E cls d H') → tl E H Q)
    (hl : xs.length = ds.length) (h3 : ds.length = 3) (hc : ∀ p ∈ xs.zip (ds.map G.cls), Gl X p.1.1 ∧ X.mg p.1.1 = some (.ref p.2) ∧ (p.1.1 == ("__debug__" : Str)) = false) :
    PS X (.Try [.Assign [.Name y p3] (.Call (.Name a p1) [] [] p2) p4] [.ExceptHandler (some (.Tuple (xs.map fun p => .Name p.1 p.2) kk tp)) (some n) [.Assign [.Name z p5] (.Name n np) p6] zp] [] [] pos) (tS G W wd (.tra 0 i j nn ds)) :=
  psW (ps_try_trk (cs := ds.map G.cls) (i := nn) (j := j) hs hf hex hN hn hln hj hlz (by simpa using hl) (by simpa using h3) hc hdn hcn (fun {pins σ H s} I => by
      rw [I.len]; exact (List.getElem?_eq_some_iff.mp hn).1)
    (tb := fun W' D σ H => ∃ E : L2.St → XK, (∀ σ' cls d H', E σ' cls d H' → W' cls d σ' H') ∧ σ[0]? = some (some (.ref f)) ∧ H c' = some (CodeO c' q) ∧ tl (E σ) H (fun x H1 => D.nx (σ.set i (some x)) H1))
    fun W' pn xe tk _ => ⟨fun pins s σ H D I ⟨E, hW, h1, h2, h3⟩ => (pss_one (ps_set (X := X.tr pn xe) (pos := p4) (pos' := p3) hN hi (.inl hly) (hp W' pn xe E tk hW) rfl (.inr hly))).run pins s σ H D I ⟨h1, h2, h3⟩⟩) fun D σ H ⟨B, ι, μ, ρ, er, hr, h⟩ => by
    simp only [exec] at h
    cases hρ : ρ[0]?.bind id with
    | none => rw [hρ] at h; exact h.elim
    | some v0 =>
      rw [hρ] at h
      have hρ0 : ρ[0]? = some (some v0) := by
        cases e : ρ[0]? with
        | none => rw [e] at hρ; cases hρ
        | some o => rw [e] at hρ; exact congrArg some hρ
      obtain ⟨w0, hw0, r0⟩ := er.get 0 v0 hρ0
      cases v0 with
      | thk m =>
        rw [hact] at h
        simp only at h
        split at h
        · exact h.elim
        · rename_i hm
          have hm : m = f := Classical.not_not.mp hm
          subst hm
          cases r0
          refine ⟨fun σ' cls d H' => σ' = σ ∧ wTrk X.K (ds.map G.cls) nn j D cls d σ H', fun σ' cls d H' ⟨e, q⟩ => by rw [e]; exact q, hw0, (hr.co _ hcd).1, ?_⟩
          refine htl _ B ι μ H _ hr ?_
          cases ha : act μ with
          | none => rw [ha] at h; exact h.elim
          | some rr =>
            obtain ⟨o, μ1⟩ := rr
            rw [ha] at h
            cases o with
            | ok v =>
              simp only at h
              split at h
              · intro w H' ι' e1 hr1 r1
                exact h _ H' ι' e1 hr1 ((er.mono e1).put r1)
              · exact h.elim
            | error x =>
              obtain ⟨c, xv⟩ := x
              simp only at h
              cases hsb : subAny wd.sub c ds with
              | none => rw [hsb] at h; exact h.elim
              | some b =>
                rw [hsb] at h
                cases b with
                | false => exact h.elim
                | true =>
                  simp only at h
                  split at h
                  · rename_i hjn
                    intro cls d H' ι' e1 hr1 rx
                    obtain ⟨rfl, dd, w, rfl, hdd, rw'⟩ := rx
                    refine ⟨rfl, by rw [hK]; exact exm_any cl hsb, G.cls c, dd, rfl, rfl, fun aa na => ?_⟩
                    have e2 : Ext G.K ι' H' ι' (upd H' aa (exT (G.cls c) dd aa)) := Ext.push na
                    have hr2 := hr1.pushO (o := exT (G.cls c) dd aa) na
                    have hda : dd ≠ aa := ne_of_none hdd na
                    have nod := hr1.nod hdd (fun z => by rcases z with ⟨_, z⟩ | ⟨_, z⟩ <;> cases z)
                    have rexo : RV G B ι' (upd H' aa (exT (G.cls c) dd aa)) (.exo c xv) (.ref aa) := .exo upd_same (by rw [upd_ne hda]; exact hdd) ⟨hr1.no na, nod.1⟩ ⟨hr1.ni na, nod.2⟩ (rw'.mono e2)
                    rw [set_two hjn.2]
                    exact h _ _ ι' (e1.trans e2) hr2 ((((er.mono e1).mono e2).put rexo).drop nn)
                  · exact h.elim
      | _ => exact h.elim
end
end MI
end
section
set_option Elab.async false
set_option linter.all false
set_option maxHeartbeats 8000000
/-! MI: a lambda handed to a def that hears what becomes of it. -/
namespace MI
open PySem PySem.Spec PyProof.Rows L2
open LamX (CodeO Tabs ExtN LamS TabB lamEnv lamCx)
theorem start_er {G : GI} {B ι : List Addr} {H : Hp} {xs : List MV} {vs : List V} {N : List Str} {ns : Nat} (r : RVs G B ι H xs vs) (hn : N.length = ns) : ER G B ι H (xs.map some ++ List.replicate (ns - xs.length) none) (L2.start N vs) := by
  unfold L2.start
  have hl := r.length
  refine ⟨by simp [hl, hn], fun i v h => ?_⟩
  by_cases hi : i < xs.length
  · rw [List.getElem?_append_left (by simpa using hi)] at h
    rw [List.getElem?_append_left (by simp; omega)]
    rw [List.getElem?_map] at h
    obtain ⟨x, hx, e⟩ := Option.map_eq_some_iff.mp h
    cases e
    obtain ⟨w, hw, rv⟩ := r.get hx
    exact ⟨w, by rw [List.getElem?_map, hw]; rfl, rv⟩
  · rw [List.getElem?_append_right (by simpa using hi)] at h
    rw [List.getElem?_replicate] at h
    split at h <;> cases h
/-- the def that holds such a thing in its first name may call it -/
structure ActOk (X : Cx) (G : GI) (wd : Wd) : Prop where
  hs : X.stack = X.env :: X.outer
  hf : X.env.frame = some X.env.locals
  hex : X.ex = []
  ex : ∃ (f c' : Addr) (q a : Str) (act : Mem → R MV) (tl : XK → Hp → VK → Prop), wd.act = some (f, act) ∧ (c', q) ∈ G.cd ∧ X.N[0]? = some a ∧
    (∀ (p1 p2 : Pos) (W' : WX) (pn : List (Addr × Obj)) (xe : Value → Shared → Prop) (E : L2.St → XK), Takes (X.tr pn xe) W' → (∀ σ' cls d H', E σ' cls d H' → W' cls d σ' H') →
      PE (X.tr pn xe) (.Call (.Name a p1) [] [] p2) (fun σZ HZ Q => σZ[0]? = some (some (.ref f)) ∧ HZ c' = some (CodeO c' q) ∧ tl (E σZ) HZ Q)) ∧
    ∀ (E : XK) (B ι : List Addr) (μ : Mem) (H : Hp) (Q : VK), HR G B ι H μ → Out (act μ) (fun v μ' => ∀ w H' ι', Ext G.K ι H ι' H' → HR G B ι' H' μ' → RV G B ι' H' v w → Q w H') (fun x μ' => ∀ cls d H' ι', Ext G.K ι H ι' H' → HR G B ι' H' μ' → RX G B ι' H' cls d x → E cls d H') → tl E H Q
/-- what is known of a def that hears -/
structure HrK (X : Cx) (G : GI) (wd : Wd) (k : Nat) (x : Str) (f : Nat) : Prop where
  ex : (∃ h μ, wd.hear f h μ ≠ none) → ∃ (g : Addr) (pg : Arguments) (bg : List Stmt) (sg : Scope) (dV kV doc pm cdv ct oc : Value) (an od : Option Addr) (osl : Array (Option Value)) (Ng : List Str) (a : Str) (F : SS) (wdH : Addr → (Mem → R MV) → Wd),
    X.mg x = some (.ref g) ∧ PySem.W.keepIn X.K (.ref g) = true ∧ X.K.lookup g = some ⟨oc, od, .func (PySem.W.fnOf x x pg bg sg dV kV doc pm an cdv ct), osl⟩ ∧ PySem.W.codeIn X.K cdv x = true ∧ L2.Binds X.K (PySem.W.fnOf x x pg bg sg dV kV doc pm an cdv ct) [a] [] ∧
    FnScope Ng [a] sg ∧ Ng[0]? = some a ∧ Vis sg a ∧ (a == ("__debug__" : Str)) = false ∧ (a == ("__classdict__" : Str)) = false ∧
    (∀ f0 h μ, wd.hear f h μ = outc (execs (wdH f0 h) F (some (.thk f0) :: List.replicate (Ng.length - 1) none) μ)) ∧ (∀ f0 h, (wdH f0 h).act = some (f0, h)) ∧
    ∀ (A : Around) (outer : List PySem.Env) (s : Shared) (H : Hp) (f0 : Addr) (h : Mem → R MV) (ρ0 : Env) (σ0 : L2.St) (cd : List (Addr × Str)), Room (k + 1) (A.deeper (envOfC x sg s.heap.objs.size g cdv)) → ActOk (cxOf C8.CX0 X.prog X.w X.K X.mg X.base Ng x sg g cdv A outer s H C8.E0) (G.at ρ0 σ0 cd) (wdH f0 h) →
      PSs (cxOf C8.CX0 X.prog X.w X.K X.mg X.base Ng x sg g cdv A outer s H C8.E0) bg (tSs (G.at ρ0 σ0 cd) W0 (wdH f0 h) F)
theorem codeO_bo {c : Addr} {q : Str} : ¬ BO (CodeO c q) := fun z => by
  unfold CodeO at z
  rcases z with ⟨_, z⟩ | ⟨_, z⟩ <;> cases z
theorem Ext.ofN {K : PySem.W.Frag} {ι : List Addr} {H H' : Hp} (e : ExtN H H') : Ext K ι H ι H' where
  pre := ⟨[], by simp⟩
  fr := fun _ h => .inl h
  tup := fun a vs q => by
    rcases q with (q | ⟨ob, q⟩) | q
    · exact .inl (.inl (e _ _ q fun _ z => by cases z))
    · exact .inl (.inr ⟨ob, e _ _ q fun _ z => by cases z⟩)
    · exact .inr q
  oth := fun a u q _ n => e a u q n
  thr := fun a u q n => ⟨u, e a u q n, n⟩
theorem HR.notb {G : GI} {B ι : List Addr} {H : Hp} {μ : Mem} {a : Addr} {o : HO} (hr : HR G B ι H μ) (ha : a ∈ ι) (h : H a = some o) : BO o := by
  obtain ⟨k, hk⟩ := List.mem_iff_getElem?.mp ha
  have hl : k < μ.length := by rw [← hr.len]; exact (List.getElem?_eq_some_iff.mp hk).1
  have q := hr.ob k a μ[k] hk (List.getElem?_eq_getElem hl)
  cases e : μ[k] with
  | lst xs => rw [e] at q; obtain ⟨vs, q, _⟩ := q; rw [h] at q; cases q; exact .l
  | dic xs => rw [e] at q; obtain ⟨vs, q, _⟩ := q; rw [h] at q; cases q; exact .d
section
variable {X : Cx} {G : GI} {W : WX} {wd : Wd}
theorem s_hrd {x : Str} {f k : Nat} {e' : E} {c P : Addr} {params : Arguments} {body : Expr} {scope : Scope} {p lpos pos : Pos} (Hk : HrK X G wd k x f) (hg : Gl X x) (hdb : (x == ("__debug__" : Str)) = false) (TB : TabB X.base X.mg c P) (hcode : X.env.code = .ref c)
    (hmT : (P, X.env.qual ++ "<lambda>") ∈ G.T) (hu : ∀ p ∈ G.T, p.1 = P → p.2 = X.env.qual ++ "<lambda>") (h0 : G.ρ0 = []) (h1 : G.σ0 = []) (h2 : G.cd = []) (hrm : Room (k + 2) X.A) (L : LamS X.env.scope scope) (hdef : defaultsOf params X.env = ([], []))
    (hbind : ∀ (q : Str) (cl : List (Str × Addr)) (pm cv ctv : Value), bindArgs (PySem.W.kla_fn "<lambda>" q params body scope cl pm cv ctv) ⟨[], []⟩ = pure [])
    (hbody : ∀ (A : Around) (outer : List PySem.Env) (s : Shared) (H : Hp) (E : XK) (f c' : Addr), Room k (A.deeper (lamEnv X scope s.heap.objs.size f c')) → PE (lamCx X A outer s H E scope f c') body (tE G (fun cls d _ H => E cls d H) wd e')) :
    PE X (.Call (.Name x p) [.Lambda params body scope lpos] [] pos) (tE G W wd (.hrd f e')) := by
  refine ⟨fun pins s σ H Q I ⟨B, ι, μ, ρ, er, hr, h⟩ => ?_⟩
  simp only [ev] at h
  cases hh : wd.hear f (fun μ => ev wd e' ρ μ) μ with
  | none => rw [hh] at h; exact h.elim
  | some rr =>
    obtain ⟨o, μ'⟩ := rr
    cases o with
    | error z => rw [hh] at h; exact h.elim
    | ok v =>
      rw [hh] at h
      dsimp only at h
      have h' : Out (gc μ.length μ (some (.ok v, μ'))) (fun v μ' => ∀ w H' ι', Ext G.K ι H ι' H' → HR G B ι' H' μ' → RV G B ι' H' v w → Q w H') (fun x μ' => ∀ cls d H' ι', Ext G.K ι H ι' H' → HR G B ι' H' μ' → RX G B ι' H' cls d x → (fun _ _ _ => False : XK) cls d H') := by
        unfold gc at h ⊢
        dsimp only at h ⊢
        split
        · rename_i z
          rw [if_pos z] at h
          cases hf : frz μ.length μ' v with
          | none => rw [hf] at h; exact h.elim
          | some w =>
            rw [hf] at h
            intro w' H' ι' e1 e2 e3
            exact h w' H' ι' e1 e2 e3 (fun z => by cases z)
        · rename_i z
          rw [if_neg z] at h
          exact h.elim
      have fin : ∀ w H' ι', Ext G.K ι H ι' H' → HR G B ι' H' μ' → RV G B ι' H' v w → Q w H' := gc_of hr h'
      obtain ⟨g, pg, bg, sg, dV, kV, doc, pm, cdv, ct, oc, an, od, osl, Ng, a, F, wdH, hm, hk, lk, hcg, hb, Sg, hNg, hva, hd, hcd, hear, hact, hB⟩ := Hk.ex ⟨_, μ, by rw [hh]; simp⟩
      refine wpAny_Call_Name_kw (ld_glob I hg hm ?_ hdb)
      refine PySem.W.callWith_K (h₀ := X.base) I.ok.mod.kin hk ?_ (by rfl) (by rfl)
      show wpAny _ _ (spliced ((false, eval (.Lambda params body scope lpos) X.env) :: backTo pos (starEach [] X.env))) _ _ s
      refine Calls.spliced_cons (LamX.lam_make2 I TB hcode hmT hu hr.tb hdef (L.has I.ok) fun f0 c' pm' ctv H1 s' I1 eN T1 hf hfn hfr hco => ?_)
      refine Calls.spliced_nil ⟨I1.kIn, ?_⟩
      have ext : Ext G.K ι H ι H1 := Ext.ofN eN
      have hr1 : HR G B ι H1 μ := hr.keep ext (fun b hb u q => eN _ _ q (hr.notb hb q).nt) T1
      have nod := hr1.nod hco codeO_bo
      have hr2 : HR (G.at ρ σ [(c', X.env.qual ++ "<lambda>")]) B ι H1 μ := hr1.sw (er.mono ext) fun p hp => by
        simp only [List.mem_singleton] at hp
        subst hp
        exact ⟨hco, nod.2, nod.1⟩
      have rc : codeAny (model X.prog X.w) X.A (.call (.ref g) ⟨[.ref f0], []⟩) (CR C8.CX0 X.stack X.prog X.w H1 s' Q C8.E0) s' := by
        refine LamX.run_ofS (N := Ng) (ps := [a]) (us := [.ref f0]) (vs := [.ref f0]) lk hcg Sg hrm I1.env0 (hb s' [.ref f0] I1.kIn rfl) (.cons rfl .nil) rfl fun hr' => ?_
        refine ⟨_, hB X.A X.stack s' H1 f0 (fun μ => ev wd e' ρ μ) ρ σ [(c', X.env.qual ++ "<lambda>")] hr' ⟨rfl, rfl, rfl, f0, c', _, a, _, fun E H Q => tE G (fun cls d _ H => E cls d H) wd e' σ H Q, hact f0 _, List.mem_singleton.mpr rfl, hNg, fun p1 p2 W' pn xe E tk hW => ?_, fun E B2 ι2 μ2 H2 Q2 hrr out => ?_⟩, ?_⟩
        · exact pe_actM (i := 0) (tb := fun E => tE G (fun cls d _ H => E cls d H) wd e') I1 L hf hfn hfr (hbind _ _ _ _ _) tk hW hr' (fun A outer s H E hr2 => hbody A outer s H E f0 c' hr2) hNg hva hd hcd
        · have er2 : ER G B2 ι2 H2 ρ σ := hrr.ce.ws
          have hc2 := hrr.co (c', X.env.qual ++ "<lambda>") (List.mem_singleton.mpr rfl)
          have up : ∀ {ι' H' μ'}, Ext G.K ι2 H2 ι' H' → HR G B2 ι' H' μ' → HR (G.at ρ σ [(c', X.env.qual ++ "<lambda>")]) B2 ι' H' μ' := fun {ι' H' μ'} e1 e2 => e2.sw (er2.mono e1) fun p hp => by
            simp only [List.mem_singleton] at hp
            subst hp
            have q1 := e1.oth _ _ hc2.1 hc2.2.1 LamX.codeO_ne
            have q2 := e2.nod q1 codeO_bo
            exact ⟨q1, q2.2, q2.1⟩
          refine ⟨B2, ι2, μ2, ρ, er2, hrr.ws h0 h1 h2, out.mono (fun v μ' q w H' ι' e1 e2 e3 _ => q w H' ι' e1 (up e1 e2) e3.sw) fun x μ' q cls d H' ι' e1 e2 e3 => q cls d H' ι' e1 (up e1 e2) ?_⟩
          obtain ⟨z1, da, w, z2, z3, z4⟩ := e3
          exact ⟨z1, da, w, z2, z3, z4.sw⟩
        · refine ⟨B, ι, μ, some (.thk f0) :: List.replicate (Ng.length - 1) none, start_er (G := G.at ρ σ [(c', X.env.qual ++ "<lambda>")]) (xs := [.thk f0]) (.cons (.thk f0) .nil) rfl, hr2, ?_⟩
          have q := (hear f0 (fun μ => ev wd e' ρ μ) μ).symm.trans hh
          cases hx : execs (wdH f0 fun μ => ev wd e' ρ μ) F (some (.thk f0) :: List.replicate (Ng.length - 1) none) μ with
          | none => rw [hx] at q; cases q
          | some rr =>
            obtain ⟨o2, μ2⟩ := rr
            rw [hx] at q
            cases o2 with
            | nxt ρ' =>
              cases q
              intro σ' H' ι' e1 e2 e3
              exact fin .non H' ι' (ext.trans e1) (e2.ws h0 h1 h2) .non
            | ret v' =>
              cases q
              intro w H' ι' e1 e2 e3
              exact fin w H' ι' (ext.trans e1) (e2.ws h0 h1 h2) e3.ws
            | brk _ => cases q
            | cnt _ => cases q
            | exc _ _ => cases q
      refine wpAny_call (codeAny_mono rc fun r s2 hq => ?_)
      cases r with
      | error e => exact (show False from hq).elim
      | ok fl =>
        cases fl with
        | ret u => exact I1.after hq
        | next => exact False.elim hq
        | brk => exact False.elim hq
        | cont => exact False.elim hq
end
end MI
end
section
set_option Elab.async false
set_option linter.all false
set_option maxHeartbeats 4000000
/-! MI: sorting alike data, tuples without anything among them too. -/
namespace MI
open PySem PySem.Spec PyProof.Rows L2
open PySem.W (Looks EachIs kas_first_eq kas_mapM alike dataLt SortsAt dataKind AllAlike Sortable alikeAll keyToksAll)
section
variable {prog : Program} {w : World} {A : Around} {E : Value → Shared → Prop} {s : Shared}
theorem tup_lt_call {Q : Value → Shared → Prop} {l b : Addr} {xs ys : Array Value} {e r : Nat → Bool} (hl : s.heap.IsTuple l xs) (hb : s.heap.IsTuple b ys) (he : ∀ j (h1 : j < xs.size) (h2 : j < ys.size), SeqAt.EqAt A.in1 s xs[j] ys[j] (e j))
    (hr : ∀ j (h1 : j < xs.size) (h2 : j < ys.size), e j = false → SeqAt.RcLt A.in1 s xs[j] ys[j] (r j)) (q : Q (.bool (SeqAt.firstLt e r (decide (xs.size < ys.size)) (List.range (min xs.size ys.size)))) s) :
    wpAny (model prog w) A (call (.builtin "tuple.__lt__") [.ref l, .ref b]) Q E s := by
  obtain ⟨⟨c1, d1, t1, z1⟩, o1, k1, n1, w1⟩ := id hl
  obtain ⟨⟨c2, d2, t2, z2⟩, o2, k2, n2, w2⟩ := id hb
  simp only at k1 w1 k2 w2
  subst k1 w1 k2 w2
  exact call_meets F.slot_tuple_lt ⟨_, o1, rfl⟩ F.entry_tuple_lt (F.args_tuple_lt_2 _ _) (SeqAt.tuple_ltAt l b xs ys n1 n2 d1 d2 z1 z2 e r) ⟨o1, o2, he, hr, q⟩
/-- two alike tuples, asked as things of one class -/
theorem one_tup {xs ys : List PyData} {a b : Value} {as bs : List Addr} {Q : Bool → Shared → Prop} (ra : Reads s.heap a (.tuple xs) as) (rb : Reads s.heap b (.tuple ys) bs) (hal : alikeAll xs ys = true) (hu : A.units + min (PyData.depth (.tuple xs)) (PyData.depth (.tuple ys)) < cLine)
    (hq : Q (dataLt (.tuple xs) (.tuple ys)) s) : wpAny (model prog w) A (oneLt' true a b) Q E s := by
  cases ra with
  | @tuple l o us n _ _ h1 h2 h3 h4 =>
    cases rb with
    | @tuple l' o' vs n' _ _ k1 k2 k3 k4 =>
      have z1 : us.size = xs.length := by simpa using SeqAt.ReadsAll.length _ _ _ h4
      have z2 : vs.size = ys.length := by simpa using SeqAt.ReadsAll.length _ _ _ k4
      rw [PySem.W.dataLt_tuple, ← PySem.W.firstLt_toks xs ys hal, ← z1, ← z2] at hq
      rw [oneLt'_eq]
      simp only [if_true]
      refine wpAny_bind (wpAny_cRoomFor (SeqAt.room_here hu) (wpAny_bind (wpAny_callSpecialIfBound?_slot (T := "tuple") ⟨_, h1, h2⟩ F.slot_tuple_lt (tup_lt_call (e := SeqAt.pairEq xs ys) (r := fun j => dataLt (xs.getD j .none) (ys.getD j .none)) ⟨_, h1, h2, _, h3⟩ ⟨_, k1, k2, _, k3⟩
        (fun j j1 j2 => by
          have q := PySem.W.eqAt_alikeAll xs ys A.in1 s us.toList vs.toList _ _ h4 k4 hal (SeqAt.room_in hu) j (by simpa using j1) (by simpa using j2)
          simpa using q)
        (fun j j1 j2 hj => by
          have q := PySem.W.rcLt_alikeAll xs ys A.in1 s us.toList vs.toList _ _ h4 k4 hal (SeqAt.room_in hu) j (by simpa using j1) (by simpa using j2) hj
          simpa using q)
        ?_))))
      exact wpAny_truthy_bool hq
/-- all are tuples, the first without anything -/
def Empty1 (ds : List PyData) : Prop := ∃ r, ds = .tuple [] :: r
theorem first_some {v : Value} {as : List Addr} {Q : Option Value → Shared → Prop} {xs : List PyData} (r : Reads s.heap v (.tuple xs) as) (q : ∀ f : Option Value, (xs = [] → f = none) → Q f s) : wpAny (model prog w) A (firstOfTuple' v) Q E s := by
  cases r with
  | @tuple l o us n _ _ h1 h2 h3 h4 =>
    rw [kas_first_eq]
    refine wpAny_bind (Looks.here (show Looks (model prog w) s.heap (typeOf (.ref l)) o.cls from (Looks.ld h1).andThen .now) ?_)
    rw [h2, if_neg (by decide)]
    refine wpAny_bind (listItems_at h1 h3 (wpAny_pure (q _ fun e => ?_)))
    subst e
    have z := SeqAt.ReadsAll.length _ _ _ h4
    simp only [List.length_nil] at z
    have : us.size = 0 := by simpa using z
    simp [this]
theorem firsts_some {Q : List (Option Value) → Shared → Prop} : ∀ {vs : List Value} {ds : List PyData}, EachIs (fun v d => ∃ as, Reads s.heap v d as) vs ds → (∀ d ∈ ds, ∃ xs, d = .tuple xs) → (∀ fs, fs.length = vs.length → (ds.head? = some (.tuple []) → fs.head? = some none) → Q fs s) → wpAny (model prog w) A (vs.mapM firstOfTuple') Q E s
  | _, _, .nil, _, q => by rw [List.mapM_nil]; exact wpAny_pure (q [] rfl fun z => by cases z)
  | _, _, .cons (b := d) ⟨as, r⟩ t, ht, q => by
    obtain ⟨xs, rfl⟩ := ht d List.mem_cons_self
    rw [List.mapM_cons]
    refine wpAny_bind (first_some r fun f hf => wpAny_bind (firsts_some t (fun d hd => ht d (List.mem_cons_of_mem _ hd)) fun fs h1 _ => wpAny_pure (q (f :: fs) (by simp [h1]) fun z => ?_)))
    simp only [List.head?_cons, Option.some.injEq, PyData.tuple.injEq] at z
    rw [List.head?_cons, hf z]
theorem kind_empty {vs : List Value} {ds : List PyData} {Q : SortKind → Shared → Prop} (e : EachIs (fun v d => ∃ as, Reads s.heap v d as) vs ds) (ht : ∀ d ∈ ds, ∃ xs, d = .tuple xs) (h1 : Empty1 ds) (h : Q oneType' s) : wpAny (model prog w) A (keyKind' vs.toArray) Q E s := by
  obtain ⟨r, hr⟩ := h1
  have hne : 0 < vs.length := by rw [e.length, hr]; simp
  rw [keyKind'_eq, List.mapM_toArray, map_eq_pure_bind]
  refine wpAny_bind (wpAny_bind (firsts_some e ht fun fs l1 l2 => wpAny_pure ?_))
  have l3 := l2 (by rw [hr] <;> rfl)
  obtain ⟨fr, rfl⟩ : ∃ fr, fs = none :: fr := by
    cases fs with
    | nil => cases l3
    | cons f fr => simp only [List.head?_cons, Option.some.injEq] at l3; exact ⟨fr, by rw [l3]⟩
  rw [if_neg (by simp), if_neg (by simp)]
  rw [oneTypeOnly'_eq, List.mapM_toArray, map_eq_pure_bind]
  refine wpAny_bind (wpAny_bind (wpAny_bind (kas_mapM (r := Value.type "tuple") _ (fun v hv Q' hq => ?_) (wpAny_pure ?_))))
  · obtain ⟨d, hd, as, r⟩ := e.left v hv
    obtain ⟨xs, rfl⟩ := ht d hd
    exact (PySem.W.looks_reads r).here hq
  · obtain ⟨v1, vr, rfl⟩ : ∃ v1 vr, vs = v1 :: vr := by
      cases vs with
      | nil => simp at hne
      | cons v1 vr => exact ⟨v1, vr, rfl⟩
    have ha : ((List.map (fun _ => Value.type "tuple") (v1 :: vr)).toArray.all fun x => x == Value.type "tuple") = true := by
      simp only [List.all_toArray, List.all_map, List.all_eq_true]
      intro _ _
      exact beq_self_eq_true _
    have h0 : (List.map (fun _ => Value.type "tuple") (v1 :: vr)).toArray[0]? = some (Value.type "tuple") := by simp
    rw [h0]
    simp only [ha, if_true]
    exact wpAny_pure (wpAny_pure h)
theorem sorts_any {vs : List Value} {ds : List PyData} (e : EachIs (fun v d => ∃ as, Reads s.heap v d as) vs ds) (hal : AllAlike ds) (hk : Sortable ds ∨ Empty1 ds) (hu : ∀ d, d ∈ ds → A.units + d.depth < cLine) : SortsAt prog w A s (dataKind s.heap ds) vs := by
  rcases hk with hk | h1
  · exact SortsAt.data e hal hk hu
  · have ht : ∀ d ∈ ds, ∃ xs, d = .tuple xs := fun d hd => by
      obtain ⟨r, hr⟩ := h1
      have q := hal (.tuple []) (by rw [hr]; exact List.mem_cons_self) d hd
      cases d <;> first | exact ⟨_, rfl⟩ | exact absurd q (by simp [alike])
    refine ⟨fun v hv => ?_, oneType', fun E x y a b Q qa qb hq => ?_, fun _ E Q hq => kind_empty e ht h1 hq⟩
    · obtain ⟨d, hd, as, r⟩ := e.left v hv
      exact ⟨_, PySem.W.dataKind_some hal hd r⟩
    · obtain ⟨d, as, hd, ra, rfl⟩ := PySem.W.dataKind_inv qa
      obtain ⟨d', as', hd', rb, rfl⟩ := PySem.W.dataKind_inv qb
      obtain ⟨xs, rfl⟩ := ht d hd
      obtain ⟨ys, rfl⟩ := ht d' hd'
      rw [keyLt'_oneType]
      exact one_tup ra rb (by simpa [alike] using hal _ hd _ hd') (Nat.lt_of_le_of_lt (Nat.add_le_add_left (Nat.min_le_left _ _) _) (hu _ hd)) hq
/-- what collect does with a list or a tuple, the heap told -/
theorem collect_sq {it : Addr} {T : String} {o : Obj} {items : Array Value} {n : Nat} {Q : List Value → Shared → Prop} (hT : T = "list" ∨ T = "tuple") (ho : s.heap.get? it = some o) (hc : o.cls = .type T) (hd : o.data = .seq items n) (hz : items.size ≤ sizeLine)
    (h : ∀ h1 : Heap, (∀ b o', s.heap.get? b = some o' → h1.get? b = some o') → s.heap.objs.size ≤ h1.objs.size → Q items.toList { s with heap := h1 }) : wpAny (model prog w) A (collect (.ref it)) Q E s := by
  unfold collect
  refine wpAny_bind (wpAny_runValue (codeAny_builtin entry_proto_collect' ?_))
  show wpAny _ _ (newList [] >>= fun q => again (.builtin "list.__iadd__" ⟨[q, .ref it], []⟩)) _ _ s
  refine wpAny_bind (wpAny_newList (wpAny_pure ⟨Code.quiet_builtin _ (by decide +kernel), codeAny_builtin entry_list_iadd' ?_⟩))
  show wpAny _ _ (Builtin.List.listExtendWith (.ref s.heap.objs.size) (.ref it) (.ref s.heap.objs.size)) _ _ { s with heap := s.heap.push (seqObj "list" #[] 0) }
  unfold Builtin.List.listExtendWith
  have o1 : (s.heap.push (seqObj "list" #[] 0)).get? it = some o := Heap.get?_push_of_some _ ho
  have o2 : (s.heap.push (seqObj "list" #[] 0)).get? s.heap.objs.size = some (seqObj "list" #[] 0) := Heap.get?_push_size _ rfl
  refine wpAny_bind (wpAny_typeOf (T := T) ⟨o, o1, hc⟩ ?_)
  rw [if_pos (by rcases hT with rfl | rfl <;> simp)]
  refine wpAny_bind (listItems_at o1 hd (wpAny_bind (listItems_at (xs := #[]) (n := 0) o2 rfl ?_)))
  rw [if_neg (by simp)]
  refine wpAny_bind (listUpdate_at (xs := #[]) (n := 0) o2 rfl (wpAny_pure ?_) (Nat.zero_le _) (by show (#[] ++ items).size ≤ sizeLine + 1; simp only [Array.size_append, List.size_toArray, List.length_nil]; omega))
  show wpAny (model prog w) A (load s.heap.objs.size >>= fun q => match q.data with
      | .seq xs _ => pure xs.toList
      | _ => unsupported "internal:collect") Q E { s with heap := (s.heap.push (seqObj "list" #[] 0)).update s.heap.objs.size (Obj.mapSeq (· ++ items)) }
  refine wpAny_bind (wpAny_load (get?_update_seq o2 _) ?_)
  show wpAny _ _ (pure ((#[] : Array Value) ++ items).toList) Q E _
  rw [show ((#[] : Array Value) ++ items).toList = items.toList by simp]
  refine wpAny_pure (h _ (fun b o' q => ?_) ?_)
  · exact (Heap.get?_update_other _ _ (Nat.ne_of_gt (Heap.lt_size q))).trans (Heap.get?_push_of_some _ q)
  · rw [Heap.size_update, size_push']
    exact Nat.le_succ _
theorem sorted_sq {β : Type} {it : Addr} {T : String} {o : Obj} {items : Array Value} {n : Nat} {bs : List β} {enc : β → PyData} {R : Value → β → Prop} {Q : Value → Shared → Prop} (hT : T = "list" ∨ T = "tuple") (ho : s.heap.get? it = some o) (hc : o.cls = .type T) (hd : o.data = .seq items n)
    (e : EachIs R items.toList bs) (er : EachIs (fun v b => ∃ as, Reads s.heap v (enc b) as) items.toList bs) (hal : AllAlike (bs.map enc)) (hk : Sortable (bs.map enc) ∨ Empty1 (bs.map enc)) (hL : bs.length ≤ sizeLine) (hu : ∀ b, b ∈ bs → A.units + 2 + (enc b).depth < cLine)
    (h : ∀ (D : Addr) (out : List Value) (c : Nat) (h' : Heap), (∀ b o, s.heap.get? b = some o → h'.get? b = some o) → s.heap.objs.size ≤ D → h'.get? D = some (seqObj "list" out.toArray c) → out.length = bs.length → EachIs R out (bs.mergeSort (PySem.W.dataLe false enc)) → Q (.ref D) { s with heap := h' }) :
    wpAny (model prog w) A (call (.builtin "sorted") [.ref it]) Q E s := by
  have hz : items.size ≤ sizeLine := by
    have := e.length
    simp only [Array.length_toList] at this
    omega
  refine call_function_entry_kw kind_sorted plain_sorted entry_sorted (args_sorted1 _) ?_
  unfold Builtin.«sorted»
  refine wpAny_bind (m := checkCount "sorted" 1 1 _) (wpAny_pure (wpAny_bind (collect_sq hT ho hc hd hz (fun h1 k1 kz => ?_))))
  refine wpAny_bind (wpAny_newList ?_ hz)
  have at1 : (h1.push (seqObj "list" items.toList.toArray 0)).get? h1.objs.size = some (seqObj "list" items.toList.toArray 0) := Heap.get?_push_size _ rfl
  have k2 : ∀ b o, s.heap.get? b = some o → (h1.push (seqObj "list" items.toList.toArray 0)).get? b = some o := fun b o q => Heap.get?_push_of_some _ (k1 b o q)
  have k3 : ∀ b o, s.heap.get? b = some o → b ≠ h1.objs.size := fun b o q => Nat.ne_of_lt (Heap.lt_size (k1 b o q))
  have er1 : EachIs (fun v b => ∃ as, Reads (PySem.W.sortingHeap (h1.push (seqObj "list" items.toList.toArray 0)) h1.objs.size items.toList) v (enc b) as) items.toList bs :=
    er.mono fun _ _ ⟨as, r⟩ => ⟨as, PyProof.Rows.Reads.keeps (fun b o q => PySem.W.sortingHeap_old (k3 b o q) (k2 b o q)) r⟩
  refine wpAny_bind (wpAny_holding (wpAny_call_entry_kw slot_list_sort ⟨_, at1, rfl⟩ entry_list_sort ?body (args_list_sort _)))
  case body =>
    refine PySem.W.list_sort_vals (κ := dataKind (PySem.W.sortingHeap (h1.push (seqObj "list" items.toList.toArray 0)) h1.objs.size items.toList) (bs.map enc)) at1
      (sorts_any (s := { s with heap := PySem.W.sortingHeap (h1.push (seqObj "list" items.toList.toArray 0)) h1.objs.size items.toList }) (PySem.W.each_map (R := fun v d => ∃ as, Reads (PySem.W.sortingHeap (h1.push (seqObj "list" items.toList.toArray 0)) h1.objs.size items.toList) v d as) enc er1) hal hk ?_)
      (by rw [Array.length_toList]; exact hz) ⟨_, rfl, wpAny_pure ⟨_, rfl, ?_⟩⟩
    · intro d hd
      obtain ⟨b, hb, rfl⟩ := List.mem_map.mp hd
      exact hu b hb
    · obtain ⟨c, hc2⟩ := PyProof.Rows.sortedHeap_at (out := (PySem.W.sortVals (dataKind (PySem.W.sortingHeap (h1.push (seqObj "list" items.toList.toArray 0)) h1.objs.size items.toList) (bs.map enc)) false items.toList items.toList).toArray) at1
      refine h h1.objs.size _ c _ (fun b o q => ?_) ?_ hc2 ((PySem.W.sortVals_length false rfl).trans e.length) (PySem.W.sortVals_data false e er1 hal)
      · rw [PyProof.Rows.sortedHeap_old (k3 b o q) (Heap.lt_size (k2 b o q))]
        exact k2 b o q
      · exact kz
end
end MI
end
section
set_option Elab.async false
set_option linter.all false
set_option maxHeartbeats 4000000
/-! MI: sorted. -/
namespace MI
open PySem PySem.Spec PyProof.Rows L2
open PySem.W (EachIs alike dataLt AllAlike Sortable dataLe)
section
variable {X : Cx}
theorem each_of {zs : List (V × PyData)} : ∀ {us : List Value}, Vals (zs.map (·.1)) us → EachIs (fun v (z : V × PyData) => RelV z.1 v ∧ z ∈ zs) us zs := by
  have go : ∀ (ys : List (V × PyData)) {us : List Value}, (∀ z ∈ ys, z ∈ zs) → Vals (ys.map (·.1)) us → EachIs (fun v (z : V × PyData) => RelV z.1 v ∧ z ∈ zs) us ys := by
    intro ys
    induction ys with
    | nil => intro us _ r; cases r; exact .nil
    | cons y ys ih =>
      intro us hm r
      cases r with
      | cons r1 r2 => exact .cons ⟨r1, hm y List.mem_cons_self⟩ (ih (fun z hz => hm z (List.mem_cons_of_mem _ hz)) r2)
  exact fun {us} r => go zs (fun z hz => hz) r
theorem vals_of {zs : List (V × PyData)} {P : V × PyData → Prop} : ∀ {us : List Value} {ys : List (V × PyData)}, EachIs (fun v (z : V × PyData) => RelV z.1 v ∧ P z) us ys → Vals (ys.map (·.1)) us
  | _, _, .nil => .nil
  | _, _, .cons h t => .cons h.1 (vals_of (zs := zs) t)
theorem call_sortX (hu : X.A.units + 64 < cLine) : CallR X (.builtin "sorted") (fun vs H Q => ∃ (a : Addr) (zs : List (V × PyData)), vs = [.ref a] ∧ (SqL X.K H a (zs.map (·.1)) ∨ SqT X.K H a (zs.map (·.1))) ∧ (∀ z ∈ zs, Dp X.K H z.1 z.2) ∧ AllAlike (zs.map (·.2)) ∧
    (Sortable (zs.map (·.2)) ∨ Empty1 (zs.map (·.2))) ∧ (∀ z ∈ zs, z.2.depth ≤ 50) ∧ ∀ p, H p = none → Q (.ref p) (upd H p (.lst ((zs.mergeSort (dataLe false (·.2))).map (·.1))))) := by
  intro pins s σ H vs us Q I r ⟨a, zs, e0, hs, hd, hal, hk, h50, q⟩
  subst e0
  rw [Vals.ref1 r]
  have fin : ∀ {T : String} {o : Obj} {items : Array Value} {n : Nat}, (T = "list" ∨ T = "tuple") → s.heap.get? a = some o → o.cls = .type T → o.data = .seq items n → Vals (zs.map (·.1)) items.toList → zs.length ≤ sizeLine →
      wpAny (model X.prog X.w) X.A (call (.builtin "sorted") [.ref a]) (EP X pins σ Q) X.xe s := by
    intro T o items n hT ho hc hda rv hz
    have e := each_of rv
    have er : EachIs (fun v (z : V × PyData) => ∃ as, Reads s.heap v z.2 as) items.toList zs := e.mono fun v z ⟨h1, h2⟩ => Dp.reads I z.2 z.1 v (hd z h2) h1
    refine sorted_sq (β := V × PyData) (enc := (·.2)) (R := fun v z => RelV z.1 v ∧ z ∈ zs) hT ho hc hda e er hal hk hz (fun z hz => ?_) fun D out c h' k1 k2 k3 k4 k5 => ?_
    · have := h50 z hz
      omega
    · have rv2 : Vals ((zs.mergeSort (dataLe false (·.2))).map (·.1)) out := vals_of (zs := zs) k5
      have hl : ((zs.mergeSort (dataLe false (·.2))).map (·.1)).length ≤ sizeLine := by
        rw [List.length_map, List.length_mergeSort]; exact hz
      exact ⟨.ref D, upd H D (.lst ((zs.mergeSort (dataLe false (·.2))).map (·.1))), I.laid (t' := s.toks) k1 k2 ⟨hl, out, c, rv2, k3⟩, rfl, q D (I.hok.fresh k2)⟩
  rcases hs with hs | hs
  · obtain ⟨its, rv, ⟨o, n, h1, h2, h3, h4⟩, hz⟩ := I.list hs
    exact fin (.inl rfl) h1 h2 h4 (by simpa using rv) (by simpa using hz)
  · obtain ⟨its, rv, ⟨o, h1, h2, n, h4⟩, hz⟩ := I.tuple hs
    exact fin (.inr rfl) h1 h2 h4 (by simpa using rv) (by simpa using hz)
end
mutual
theorem toD_rd {lk : Nat → Option MV} : ∀ {x : MV} {d : PyData}, MV.toD x = some d → MV.rd lk x = some x
  | .non, _, _ => rfl
  | .bl _, _, _ => rfl
  | .int _, _, _ => rfl
  | .str _, _, _ => rfl
  | .tup xs, _, h => by
    simp only [MV.toD, Option.map_eq_some_iff] at h
    obtain ⟨ds, h, _⟩ := h
    simp [MV.rd, toDs_rd h]
  | .lv xs, _, h => by
    simp only [MV.toD, Option.map_eq_some_iff] at h
    obtain ⟨ds, h, _⟩ := h
    simp [MV.rd, toDs_rd h]
  | .fl xs, _, h => by
    simp only [MV.toD, Option.map_eq_some_iff] at h
    obtain ⟨ds, h, _⟩ := h
    simp [MV.rd, toDs_rd h]
  | .loc _, _, h => by simp [MV.toD] at h
  | .exo _ _, _, h => by simp [MV.toD] at h
  | .thk _, _, h => by simp [MV.toD] at h
theorem toDs_rd {lk : Nat → Option MV} : ∀ {xs : List MV} {ds : List PyData}, MV.toDs xs = some ds → MV.rds lk xs = some xs
  | [], _, _ => rfl
  | x :: xs, _, h => by
    simp only [MV.toDs, Option.bind_eq_some_iff, Option.map_eq_some_iff] at h
    obtain ⟨d, h1, ds, h2, _⟩ := h
    simp [MV.rds, toD_rd h1, toDs_rd h2]
end
theorem srtK_of {ds : List PyData} (h : srtK ds = true) (hn : ∀ d ∈ ds, noNone d = true) : Sortable ds ∨ Empty1 ds := by
  unfold srtK at h
  simp only [Bool.or_eq_true, List.all_eq_true] at h
  rcases h with (h | h) | h
  · refine .inl (.inl fun d hd => ?_)
    have q := h d hd
    split at q
    · exact ⟨_, _, rfl⟩
    · cases q
  · refine .inl (.inr fun d hd => ⟨noNone_ne (hn d hd), fun xs e => ?_⟩)
    subst e
    have q := h _ hd
    simp at q
  · split at h
    · exact .inr ⟨_, rfl⟩
    · cases h
section
variable {X : Cx} {G : GI} {B ι : List Addr} {H : Hp} {μ : Mem}
/-- alike items, put in order together -/
theorem srt_rv : ∀ {xs : List MV} {ws : List V} {ds : List PyData}, RVs G B ι H xs ws → MV.toDs xs = some ds → ∃ ts : List (MV × V × PyData), ts.map (·.1) = xs ∧ ts.map (·.2.1) = ws ∧ ts.map (·.2.2) = ds ∧ ∀ t ∈ ts, RV G B ι H t.1 t.2.1 ∧ MV.toD t.1 = some t.2.2
  | _, _, _, .nil, h => by simp only [MV.toDs, Option.some.injEq] at h; subst h; exact ⟨[], rfl, rfl, rfl, fun t ht => absurd ht List.not_mem_nil⟩
  | _, _, _, .cons (x := x) (v := v) r1 r2, h => by
    simp only [MV.toDs, Option.bind_eq_some_iff, Option.map_eq_some_iff] at h
    obtain ⟨d, h1, ds, h2, rfl⟩ := h
    obtain ⟨ts, e1, e2, e3, e4⟩ := srt_rv r2 h2
    refine ⟨(x, v, d) :: ts, by simp [e1], by simp [e2], by simp [e3], fun t ht => ?_⟩
    rcases List.mem_cons.mp ht with rfl | ht
    · exact ⟨r1, h1⟩
    · exact e4 t ht
theorem rvs_of {ts : List (MV × V × PyData)} : (∀ t ∈ ts, RV G B ι H t.1 t.2.1) → RVs G B ι H (ts.map (·.1)) (ts.map (·.2.1)) := by
  induction ts with
  | nil => intro _; exact .nil
  | cons t ts ih => intro h; exact .cons (h t List.mem_cons_self) (ih fun u hu => h u (List.mem_cons_of_mem _ hu))
theorem keysI_of : ∀ {kvs : List (Key × MV)} {kws : List (Key × V)} {ks : List Int}, RKs G B ι H kvs kws → keysI kvs = some ks → kws.map (·.1) = ks.map Sum.inl
  | _, _, _, .nil, h => by simp only [keysI, Option.some.injEq] at h; subst h; rfl
  | _, _, _, .cons (k := k) h r, e => by
    cases k with
    | inl i =>
      simp only [keysI, Option.map_eq_some_iff] at e
      obtain ⟨ks, e, rfl⟩ := e
      simp [keysI_of r e]
    | inr _ => simp [keysI] at e
theorem sort_uni {ys ks : List Int} (h1 : ys.Perm ks) (h2 : ys.Pairwise (· ≤ ·)) : ys = ks.mergeSort fun a b => decide (a ≤ b) := by
  refine List.Perm.eq_of_pairwise (le := (· ≤ ·)) (fun a b _ _ h g => Int.le_antisymm h g) h2 ?_ (h1.trans (List.mergeSort_perm ks _).symm)
  have q := List.pairwise_mergeSort (le := fun (a b : Int) => decide (a ≤ b)) (fun a b c h g => by simp at *; omega) (fun a b => by simp; omega) ks
  exact q.imp fun h => by simpa using h
theorem b_srt1 (hK : X.K = G.K) (hc : X.calm = true) (hu : X.A.units + 64 < cLine) : BiR X G .srt1 (.builtin "sorted") := by
  refine ⟨_, CallR.or (call_sortedDI hc) (call_sortX hu), fun {B ι H μ xs vs z Q} hr rs h q => ?_⟩
  unfold evBi at h
  split at h <;> try contradiction
  rename_i x _
  obtain ⟨v, rfl, r⟩ := rs.one
  split at h
  · rename_i kvs hk
    simp only [Option.bind_eq_some_iff] at h
    obtain ⟨ks, h1, h⟩ := h
    split at h
    · rename_i h64
      cases h
      obtain ⟨a, kws, rfl, ha, rk⟩ := dcOf_rv hr hk r
      refine .inl ⟨a, kws, ks, rfl, .of ha, keysI_of rk h1, h64, fun ys p hp hs hn => ?_⟩
      rw [sort_uni hp hs]
      have r2 : RVs G B ι H ((ks.mergeSort fun a b => decide (a ≤ b)).map MV.int) ((ks.mergeSort fun a b => decide (a ≤ b)).map V.int) := by
        generalize (ks.mergeSort fun a b => decide (a ≤ b)) = l
        induction l with
        | nil => exact .nil
        | cons i l ih => exact .cons (.int i) ih
      exact q _ _ (Ext.push hn) (hr.pushO hn) (RV.newLst hr hn r2) (New.lst hr hn r2)
    · cases h
  · simp only [Option.bind_eq_some_iff] at h
    obtain ⟨ys, e, h⟩ := h
    split at h
    · rename_i ho
      cases h
      obtain ⟨a, ws, rfl, hs, r2, h3, h4⟩ := sqOf_rv hr e r
      unfold srtOk at ho
      simp only [Bool.and_eq_true] at ho
      obtain ⟨_, ho⟩ := ho
      split at ho
      · rename_i ds hds
        simp only [Bool.and_eq_true, List.all_eq_true, decide_eq_true_eq] at ho
        obtain ⟨ho, hk⟩ := ho
        obtain ⟨ts, e1, e2, e3, e4⟩ := srt_rv r2 hds
        have f1 : (ts.map (·.2)).map (·.1) = ws := by rw [List.map_map]; exact e2
        have f2 : (ts.map (·.2)).map (·.2) = ds := by rw [List.map_map]; exact e3
        refine .inr ⟨a, ts.map (·.2), rfl, by rw [f1, hK]; exact hs, fun z hz => ?_, by rw [f2]; exact fun d hd d' hd' => (ho d hd).2 d' hd', by rw [f2]; exact srtK_of hk fun d hd => (ho d hd).1.2, fun z hz => ?_, fun p hn => ?_⟩
        · obtain ⟨t, ht, rfl⟩ := List.mem_map.mp hz
          rw [hK]
          exact rd_dp (look_ok hr 6) (toD_rd (e4 t ht).2) (e4 t ht).2 (e4 t ht).1
        · have : z.2 ∈ ds := by rw [← f2]; exact List.mem_map.mpr ⟨z, hz, rfl⟩
          exact (ho _ this).1.1
        · have g1 : srt ys = (ts.mergeSort fun a b => !dataLt b.2.2 a.2.2).map (·.1) := by
            unfold srt
            rw [← e1]
            exact (List.map_mergeSort (f := fun t : MV × V × PyData => t.1) fun a ha b hb => by simp [ltM, (e4 a ha).2, (e4 b hb).2]).symm
          have g2 : ((ts.map (·.2)).mergeSort (dataLe false (·.2))).map (·.1) = (ts.mergeSort fun a b => !dataLt b.2.2 a.2.2).map (·.2.1) := by
            have := List.map_mergeSort (l := ts) (r := fun a b => !dataLt b.2.2 a.2.2) (s := dataLe false (fun z : V × PyData => z.2)) (f := fun t : MV × V × PyData => t.2) fun a ha b hb => by simp [PySem.W.dataLe_eq]
            rw [← this, List.map_map]
            rfl
          rw [g1] at q
          rw [g2]
          have r3 : RVs G B ι H ((ts.mergeSort fun a b => !dataLt b.2.2 a.2.2).map (·.1)) ((ts.mergeSort fun a b => !dataLt b.2.2 a.2.2).map (·.2.1)) := rvs_of fun t ht => (e4 t (List.mem_mergeSort.mp ht)).1
          exact q _ _ (Ext.push hn) (hr.pushO hn) (RV.newLst hr hn r3) (New.lst hr hn r3)
      · cases ho
    · cases h
end
end MI
end
section
set_option Elab.async false
set_option linter.all false
set_option maxHeartbeats 4000000
/-! MI: what stands at a dict's key, else a new list put there. -/
namespace MI
open PySem PySem.Spec PyProof.Rows L2
section
variable {X : Cx} {G : GI} {W : WX} {wd : Wd} {B ι : List Addr} {H : Hp} {μ : Mem}
theorem putK_new {k : Key} {v : V} : ∀ {kws : List (Key × V)}, valV kws k = none → putK kws k v = kws ++ [(k, v)] := by
  intro kws h
  unfold putK
  rw [if_neg]
  intro z
  obtain ⟨q, hq, e⟩ := List.any_eq_true.mp z
  unfold valV at h
  rw [Option.map_eq_none_iff, List.find?_eq_none] at h
  exact h q hq e
theorem s_sdf {o e : Expr} {o' e' : E} {apos cpos lpos : Pos} (hK : X.K = G.K) (ho : PE X o (tE G W wd o')) (he : PE X e (tE G W wd e')) (m : M2 X o "setdefault" apos e (.List [] lpos) cpos) :
    PE X (.Call (.Attribute o "setdefault" apos) [e, .List [] lpos] [] cpos) (tE G W wd (.sdf o' e')) :=
  peW (pe_dsetd ho he (pe_lst pa_nil) m) fun σ H Q ⟨B, ι, μ, ρ, er, hr, h⟩ => by
    simp only [ev] at h
    refine tE_then er hr h.bnd fun x μ1 v H1 ι1 g e1 hr1 rx _ => ?_
    split at g
    · rename_i kvs0 e0
      obtain ⟨a, kws0, rfl, ha, _⟩ := dcOf_rv hr1 e0 rx
      refine ⟨a, rfl, .inl ⟨kws0, .inl ha⟩, ?_⟩
      refine tE_then (er.mono e1) hr1 (g.bnd.mono (fun _ _ q => q) fun _ _ q => q.ext e1) fun y μ2 w H2 ι2 g e2 hr2 ry _ => ?_
      refine ⟨Nat.zero_le _, fun p hp => ?_⟩
      have rx2 := rx.mono e2
      split at g
      · rename_i u μ3 hs
        unfold sdM at hs
        split at hs
        · rename_i j
          split at hs
          · rename_i kvs hj
            simp only [Option.bind_eq_some_iff] at hs
            obtain ⟨key, hk, hs⟩ := hs
            obtain ⟨b, hb, hob⟩ := hr2.get hj
            obtain ⟨kws, hd, rk⟩ := hob
            cases rx2 with
            | loc hn =>
              rw [hn] at hb
              cases hb
              have hd3 : upd H2 p (.lst []) a = some (.dK kws) := by rw [upd_ne (ne_of_none hd hp)]; exact hd
              have e3 : Ext G.K ι2 H2 ι2 (upd H2 p (.lst [])) := Ext.push hp
              obtain ⟨g1, g2⟩ := getK_rv (k := key) rk
              split at hs
              · rename_i hl
                refine ⟨kws, key, hd3, keyOf_rv hk ry, by rw [← rk.length]; exact most_lt hl, fun u' hu' => ?_, fun hn' => ?_⟩
                · split at hs
                  · rename_i u2 h2
                    cases hs
                    obtain ⟨u3, h3, ru⟩ := g1 _ h2
                    rw [hu'] at h3
                    cases h3
                    exact g _ _ ι2 ((e1.trans e2).trans e3) (hr2.pushO hp) (ru.mono e3) fun z => by cases z
                  · rename_i h2
                    rw [h2, hu'] at g2
                    cases g2
                · split at hs
                  · rename_i u2 h2
                    rw [h2, hn'] at g2
                    cases g2
                  · cases hs
                    have q1 : HR G (p :: B) ι2 (upd H2 p (.lst [])) μ2 := hr2.busy hp .l
                    have q2 : HR G B (ι2 ++ [p]) (upd H2 p (.lst [])) (μ2 ++ [.lst []]) := HR.own (o := .lst []) (fun o vs z => by rw [upd_same] at z; cases z) q1 (hr2.no hp) ⟨[], upd_same, .nil⟩
                    have e4 : Ext G.K ι2 H2 (ι2 ++ [p]) (upd H2 p (.lst [])) := Ext.pushL hp e3
                    have rl : RV G B (ι2 ++ [p]) (upd H2 p (.lst [])) (.loc μ2.length) (.ref p) := .loc (by rw [← hr2.len]; simp)
                    have hj2 := (List.getElem?_append_left (l₂ := [p]) (List.getElem?_eq_some_iff.mp hn).1).trans hn
                    obtain ⟨e5, q3⟩ := wr_dic q2 hj2 hd3 ((rk.mono e4).snoc rl)
                    rw [List.set_append_left _ _ (List.getElem?_eq_some_iff.mp hj).1] at q3
                    rw [putK_new hn']
                    exact g _ _ (ι2 ++ [p]) (((e1.trans e2).trans e4).trans e5) q3 (rl.mono e5) fun z => by cases z
              · cases hs
          · cases hs
        · cases hs
      · exact g.elim
    · exact g.elim
theorem s_dsp0 {pos : Pos} : PE X (.Dict [] [] pos) (tE G W wd (.dsp [] .nil)) :=
  peW pe_dnewK fun σ H Q ⟨B, ι, μ, ρ, er, hr, z⟩ => by
    simp only [ev, evs, bnd_ok, List.length_nil, List.nodup_nil, Nat.zero_le, and_self, if_true, List.zip_nil_right] at z
    intro p hp
    have q1 : HR G (p :: B) ι (upd H p (.dK [])) μ := hr.busy hp .d
    have q2 : HR G B (ι ++ [p]) (upd H p (.dK [])) (μ ++ [.dic []]) := HR.own (o := .dic []) (fun o vs z => by rw [upd_same] at z; cases z) q1 (hr.no hp) ⟨[], upd_same, .nil⟩
    exact z _ _ (ι ++ [p]) (Ext.pushL hp (Ext.push hp)) q2 (.loc (by rw [← hr.len]; simp)) fun z => by cases z
end
end MI
end
section
set_option Elab.async false
set_option linter.all false
set_option maxHeartbeats 4000000
/-! MI: two tuples walked side by side. -/
namespace MI
open PySem PySem.Spec PyProof.Rows L2
section
variable {G : GI} {B ι : List Addr} {H : Hp} {μ : Mem}
theorem wk_zipT {xs ys : List MV} {a b : Addr} (r : RV G B ι H (.tup xs) (.ref a)) (r' : RV G B ι H (.tup ys) (.ref b)) : Wk G B ι H (RZ.ItzT G.K a b) ((xs.zip ys).map fun p => .tup [p.1, p.2], []) := by
  refine ⟨fun H' => ∃ us ws, SqT G.K H' a us ∧ us.length = xs.length ∧ SqT G.K H' b ws ∧ ws.length = ys.length, (RZ.ItzT G.K a b).yld, ⟨?_, ?_, ?_⟩, fun B' ι' H' μ' fu hr g => ?_⟩
  · rintro i H' hi ⟨us, ws, q, e, q', e'⟩
    have hi' : i < min xs.length ys.length := by simpa using hi
    have l1 : i < us.length := by omega
    have l2 : i < ws.length := by omega
    exact ⟨us, ws, us[i], ws[i], q, q', by simp [l1], by simp [l2]⟩
  · rintro H' ⟨us, ws, q, e, q', e'⟩
    refine ⟨us, ws, q, q', ?_⟩
    simp only [List.length_map, List.length_zip]
    omega
  · exact fun i H' x H'' hi q y => y
  · cases fu _ _ r with
    | tup hq r2 =>
      rename_i us
      cases fu _ _ r' with
      | tup hq' r2' =>
        rename_i ws
        refine ⟨⟨us, ws, hq, r2.length.symm, hq', r2'.length.symm⟩, fun i x H'' hi ⟨T, u, w, e1, hT, e2, y1, y2⟩ => ?_⟩
        subst e1 e2
        obtain ⟨v1, hv1, rv1⟩ := r2.get' (y1 us hq)
        obtain ⟨v2, hv2, rv2⟩ := r2'.get' (y2 ws hq')
        exact ⟨.tup [v1, v2], by simp [List.getElem?_zip_eq_some, hv1, hv2], Ext.push hT, hr.pushO hT, .newTup hT (.cons rv1 (.cons rv2 .nil))⟩
theorem zipI_cases {μ : Mem} {x y : MV} {p : Items} (h : zipI μ x y = some p) : (∃ xs ys, x = .tup xs ∧ y = .tup ys ∧ p = ((xs.zip ys).map fun p => .tup [p.1, p.2], [])) ∨ ∃ xs ys, lsOf μ x = some xs ∧ lsOf μ y = some ys ∧ p = ((xs.zip ys).map fun p => .tup [p.1, p.2], gdOf x xs ++ gdOf y ys) := by
  unfold zipI at h
  split at h
  · cases h; exact .inl ⟨_, _, rfl, rfl, rfl⟩
  · obtain ⟨xs, h1, hp⟩ := Option.bind_eq_some_iff.mp h
    obtain ⟨ys, h2, rfl⟩ := Option.map_eq_some_iff.mp hp
    exact .inr ⟨xs, ys, h1, h2, rfl⟩
theorem ls_sq {v : MV} {xs : List MV} (h : lsOf μ v = some xs) : sqOf μ v = some xs ∧ ∀ ys, v ≠ .tup ys := by
  cases v with
  | lv ys => exact ⟨h, fun _ z => by cases z⟩
  | loc k => exact ⟨h, fun _ z => by cases z⟩
  | _ => simp [lsOf] at h
theorem gdOk_app {μ : Mem} {a b : List (Nat × List MV)} (h : gdOk μ (a ++ b) = true) : gdOk μ a = true ∧ gdOk μ b = true := by
  unfold gdOk at h ⊢
  rw [List.all_append, Bool.and_eq_true] at h
  exact h
theorem wk_zipL {x y : MV} {xs ys : List MV} {a b : Addr} (h : lsOf μ x = some xs) (h' : lsOf μ y = some ys) (r : RV G B ι H x (.ref a)) (r' : RV G B ι H y (.ref b)) : Wk G B ι H (Itz G.K a b) ((xs.zip ys).map fun p => .tup [p.1, p.2], gdOf x xs ++ gdOf y ys) := by
  obtain ⟨s, nt⟩ := ls_sq h
  obtain ⟨s', nt'⟩ := ls_sq h'
  refine ⟨fun H' => ∃ us ws, SqL G.K H' a us ∧ us.length = xs.length ∧ SqL G.K H' b ws ∧ ws.length = ys.length, (Itz G.K a b).yld, ⟨?_, ?_, ?_⟩, fun B' ι' H' μ' fu hr g => ?_⟩
  · rintro i H' hi ⟨us, ws, q, e, q', e'⟩
    have hi' : i < min xs.length ys.length := by simpa using hi
    have l1 : i < us.length := by omega
    have l2 : i < ws.length := by omega
    exact ⟨us, ws, us[i], ws[i], q, q', by simp [l1], by simp [l2]⟩
  · rintro H' ⟨us, ws, q, e, q', e'⟩
    refine ⟨us, ws, q, q', ?_⟩
    simp only [List.length_map, List.length_zip]
    omega
  · exact fun i H' x H'' hi q y => y
  · obtain ⟨g1, g2⟩ := gdOk_app g
    obtain ⟨b1, us, e1, hs1, r2, _, hL⟩ := sqOf_rv hr (sq_stays s g1) (fu _ _ r)
    obtain ⟨b2, ws, e2, hs2, r2', _, hL'⟩ := sqOf_rv hr (sq_stays s' g2) (fu _ _ r')
    cases e1
    cases e2
    refine ⟨⟨us, ws, hL nt, r2.length.symm, hL' nt', r2'.length.symm⟩, fun i v H'' hi ⟨T, u, w, e1, hT, e2, y1, y2⟩ => ?_⟩
    subst e1 e2
    obtain ⟨v1, hv1, rv1⟩ := r2.get' (y1 us (hL nt))
    obtain ⟨v2, hv2, rv2⟩ := r2'.get' (y2 ws (hL' nt'))
    exact ⟨.tup [v1, v2], by simp [List.getElem?_zip_eq_some, hv1, hv2], Ext.push hT, hr.pushO hT, .newTup hT (.cons rv1 (.cons rv2 .nil))⟩
end
section
variable {X : Cx} {G : GI} {W : WX} {wd : Wd}
theorem s_zip {elts : List Expr} {kk : Nat} {p pos tpos : Pos} {e e2 : Expr} {a' b' : E} (hK : X.K = G.K) (hg : Gl X "zip") (hm : X.mg "zip" = none) (ha : PA X [e, e2] (tEs G W wd (.cons a' (.cons b' .nil)))) (hs : starEach [e, e2] X.env = (false, eval e X.env) :: starEach [e2] X.env) (hpl : (backTo pos (starEach [e2] X.env)).any (·.1) = false) :
    PI X (.Tuple elts kk tpos) (.Call (.Name "zip" p) [e, e2] [] pos) (tI G W wd (.zip a' b')) :=
  piW (RZ.pi_zipA hg hm ha hs hpl) fun σ H R ⟨B, ι, μ, ρ, er, hr, h⟩ => by
    simp only [evIt] at h
    rw [hK]
    refine tEs_then (good := fun vs μ2 => ∃ x y, vs = [x, y] ∧ Out (ok μ2 (zipI μ2 x y)) (fun p μ1 => ∀ J H1 ι1, Ext G.K ι H ι1 H1 → HR G B ι1 H1 μ1 → Wk G B ι1 H1 J p → R J H1) (Bad G B ι H W σ)) er hr ?_ fun vs μ2 ws H1 ι1 ⟨x, y, e0, g⟩ e1 hr1 rs => ?_
    · cases q : ev wd a' ρ μ with
      | none => rw [q] at h; exact h.elim
      | some z =>
        obtain ⟨o, μ1⟩ := z
        rw [q] at h
        cases o with
        | error x => simp only [evs, q, bnd_error]; exact h
        | ok v =>
          simp only [bnd_ok] at h
          cases q2 : ev wd b' ρ μ1 with
          | none => rw [q2] at h; exact h.elim
          | some z2 =>
            obtain ⟨o2, μ2⟩ := z2
            rw [q2] at h
            cases o2 with
            | error x => simp only [evs, q, q2, bnd_ok, bnd_error]; exact h
            | ok v2 => simp only [evs, q, q2, bnd_ok]; exact ⟨v, v2, rfl, h⟩
    · subst e0
      obtain ⟨u, w, rfl, r1, r2⟩ := rs.two
      obtain ⟨p, hp, g⟩ := Out.ok g
      rcases zipI_cases hp with ⟨xs, ys, rfl, rfl, rfl⟩ | ⟨xs, ys, h1, h2, rfl⟩
      · obtain ⟨a, vs, rfl, _, _, hT, _⟩ := sqOf_rv hr1 (rfl : sqOf μ2 (.tup xs) = some xs) r1
        obtain ⟨b, vs', rfl, _, _, hT', _⟩ := sqOf_rv hr1 (rfl : sqOf μ2 (.tup ys) = some ys) r2
        exact ⟨a, b, vs, vs', rfl, .inr ⟨hT ⟨_, rfl⟩, hT' ⟨_, rfl⟩, g _ H1 ι1 e1 hr1 (wk_zipT r1 r2)⟩⟩
      · obtain ⟨s1, n1⟩ := ls_sq h1
        obtain ⟨s2, n2⟩ := ls_sq h2
        obtain ⟨a, vs, rfl, _, _, _, hT⟩ := sqOf_rv hr1 s1 r1
        obtain ⟨b, vs', rfl, _, _, _, hT'⟩ := sqOf_rv hr1 s2 r2
        exact ⟨a, b, vs, vs', rfl, .inl ⟨hT n1, hT' n2, g _ H1 ι1 e1 hr1 (wk_zipL h1 h2 r1 r2)⟩⟩
end
end MI
end
section
set_option Elab.async false
set_option linter.all false
set_option maxHeartbeats 8000000
/-! MI: try: y = ["told", thunk()] / except A as e: y = ["a", e.f] / except B as e: ... -/
namespace MI
open PySem PySem.Spec PyProof.Rows L2
open LamX (CodeO)
/-- a clause: the class's name, its place, one statement -/
structure Hdl where
  x : Str
  c : Addr
  st : Stmt
  np : Pos
  zp : Pos
def Hdl.mk1 (n : Str) (h : Hdl) : ExceptHandler := .ExceptHandler (some (.Name h.x h.np)) (some n) [h.st] h.zp
/-- what the clauses wish of an error of the body -/
def wLst (K : PySem.W.Frag) (i : Nat) (D : Ends) : List (Hdl × (Addr → Value → Option Addr → TS)) → WX
  | [] => fun _ _ _ _ => False
  | (h, ts) :: r => fun cls d σ H => ∃ b, PySem.W.exmOne K cls (.ref h.c) = some b ∧ (b = true → ∀ a, H a = none → i < σ.length → ts a cls d { nx := fun σ' H' => D.nx (σ'.set i none) H', rt := fun _ _ => False } (σ.set i (some (.ref a))) H) ∧ (b = false → wLst K i D r cls d σ H)
section
variable {X : Cx} {body : List Stmt} {tb : WX → TS} {i : Nat} {n : Str} {pos : Pos}
theorem ps_try_lst (hs : X.stack = X.env :: X.outer) (hf : X.env.frame = some X.env.locals) (hN : X.N.Nodup) (hi : X.N[i]? = some n) (hln : X.env.kindOf n = some .local)
    (p0 : Hdl × (Addr → Value → Option Addr → TS)) (L : List (Hdl × (Addr → Value → Option Addr → TS)))
    (hL : ∀ p ∈ p0 :: L, Gl X p.1.x ∧ X.mg p.1.x = some (.ref p.1.c) ∧ (p.1.x == ("__debug__" : Str)) = false ∧ ∀ (a : Addr) (oe : Obj) (cls : Value) (d : Option Addr) (pn : List (Addr × Obj)), Zc cls d oe → (∃ vs, oe.data = .fields vs) → PSs (X.suite a ((a, oe) :: pn)) [p.1.st] (p.2 a cls d))
    (hb : ∀ (W : WX) (pn : List (Addr × Obj)) (xe : Value → Shared → Prop), Takes (X.tr pn xe) W → PassesOwn (model X.prog X.w) X.A X.env xe → PSs (X.tr pn xe) body (tb W)) :
    PS X (.Try body (p0.1.mk1 n :: L.map fun p => p.1.mk1 n) [] [] pos) (fun D σ H => tb (wLst X.K i D (p0 :: L)) D σ H) := by
  refine ⟨fun pins s σ H D I h => ?_⟩
  have ok := I.ok
  have hfr : X.A.frames = some (X.env :: X.outer) := by rw [ok.frames, hs]
  refine wpAny_Try_except ?_
  refine wpAny_mono ((hb (wLst X.K i D (p0 :: L)) (X.pn ++ pins) (fun e s₁ => wpAny (model X.prog X.w) X.A (noteFrame e X.env) (fun _ s₂ => wpAny (model X.prog X.w) X.A (setFlight e none) (fun _ s₃ =>
    wpAny (model X.prog X.w) X.A (handleBy e X.env (p0.1.mk1 n :: L.map fun p => p.1.mk1 n)) (SP X pins D) X.xe s₃) X.xe s₂) X.xe s₁) (fun u s' xx => ?_) PassesOwn.looking).run [] s σ H D (I.toTry _) h) (fun f s1 hsp => ?_) (fun e s1 he => he)
  · obtain ⟨a, B, sI, pins', σ', H', cls, d, rfl, J', nb, up, sky, na, os, ag, wsh⟩ := xx
    have J : Inv X pins σ' H' sI := J'.ofTry ok
    have sky' : Sky B (X.env :: X.outer) a (Zc cls d) X.env.locals s'.heap := by rw [← hs]; exact sky
    show wpAny (model X.prog X.w) X.A (noteFrame (.ref a) X.env) _ _ _
    refine Sky.land Zc.steady hfr hf sky' fun h3' fl3 up3 => ?_
    have J3 : Inv X pins σ' H' { s' with heap := h3' } := J.landed nb fl3.1 (up.trans up3) os ag
    obtain ⟨oe3, vs3, he3, hz3, hd3⟩ := fl3.there
    have nfr : a ∉ frs (X.env :: X.outer) := fun hm => by
      obtain ⟨_, o', e', hnf⟩ := fl3.2.2.1.mem hm
      rw [he3] at e'; cases e'
      exact hnf _ hd3
    have nL : a ≠ X.env.locals := fun z => nfr (List.mem_filterMap.mpr ⟨X.env, List.mem_cons_self, by rw [hf, z]⟩)
    have nF : a ∉ X.fs := fun hm => by
      obtain ⟨e, he, q⟩ := List.mem_filterMap.mp hm
      exact nfr (List.mem_filterMap.mpr ⟨e, List.mem_cons_of_mem _ he, q⟩)
    have S3 := J3.suite he3 hd3 na nL nF
    have key : ∀ M : List (Hdl × (Addr → Value → Option Addr → TS)), (∀ p ∈ M, p ∈ p0 :: L) → wLst X.K i D M cls d σ' H' → wpAny (model X.prog X.w) X.A (handleBy (.ref a) X.env (M.map fun p => p.1.mk1 n)) (SP X pins D) X.xe { s' with heap := h3' } := by
      intro M
      induction M with
      | nil => intro _ z; exact z.elim
      | cons p M ih =>
        intro hM wM
        obtain ⟨g1, g2, g3, gs⟩ := hL p (hM p List.mem_cons_self)
        obtain ⟨b, hb1, hyes, hno⟩ := wM
        rw [List.map_cons]
        show wpAny (model X.prog X.w) X.A (handleBy (.ref a) X.env (.ExceptHandler (some (.Name p.1.x p.1.np)) (some n) [p.1.st] p.1.zp :: _)) _ _ _
        refine wpAny_handleBy_cons (codeAny_handlers_test ?_) (by intro q; cases q)
        have LT : PySem.W.Looks (model X.prog X.w) h3' (typeOf (.ref a)) cls := fun A Q E s k q => wpAny_typeOf_ref (k _ _ he3) (by rw [hz3.1]; exact q)
        have LM := PySem.W.exm_one (M := model X.prog X.w) (J3.kIn) LT hb1
        refine ld_glob (X := X.suite a ((a, oe3) :: (X.pn ++ pins))) S3 g1 g2 ?_ g3
        refine LM.here ?_
        cases b with
        | true =>
          refine codeAny_handlers_suite_as ?_
          refine HandSPX.lands_againZ fl3 fun h4 fl4 up4 => ?_
          have J4 : Inv X pins σ' H' { s' with heap := h4 } := J.landed nb fl4.1 ((up.trans up3).trans up4) os ag
          obtain ⟨oe4, vs4, he4, hz4, hd4⟩ := fl4.there
          have S4 := J4.suite he4 hd4 na nL nF
          refine store_ok (X := X.suite a ((a, oe4) :: (X.pn ++ pins))) (v := .ref a) S4 hN hi (.inl hln) rfl (fun s5 S5 => ?_) (.inr hln)
          refine wpAny_mono ((gs a oe4 cls d (X.pn ++ pins) hz4 ⟨_, hd4⟩).run [] s5 _ H' _ S5 (hyes rfl a na (by rw [J4.len]; exact (List.getElem?_eq_some_iff.mp hi).1))) (fun f s6 hsp => ?_) (fun _ _ z => False.elim z)
          cases f with
          | next =>
            obtain ⟨σ6, H6, S6, q6⟩ := hsp
            exact gone_ok (S6.unsuite ok) hN hi hln fun s7 J7 => ⟨_, _, J7, q6⟩
          | brk => obtain ⟨_, _, _, q⟩ := hsp; exact q.elim
          | cont => obtain ⟨_, _, _, q⟩ := hsp; exact q.elim
          | ret u => obtain ⟨_, _, _, _, _, q⟩ := hsp; exact q.elim
        | false => exact ih (fun q hq => hM q (List.mem_cons_of_mem _ hq)) (hno rfl)
    exact key (p0 :: L) (fun _ h => h) wsh
  · cases f with
    | next =>
      obtain ⟨σ', H', J', q⟩ := hsp
      exact wpAny_execs_nil ⟨σ', H', J'.ofTry ok, q⟩
    | brk =>
      obtain ⟨σ', H', J', q⟩ := hsp
      exact ⟨σ', H', J'.ofTry ok, q⟩
    | cont =>
      obtain ⟨σ', H', J', q⟩ := hsp
      exact ⟨σ', H', J'.ofTry ok, q⟩
    | ret u =>
      obtain ⟨v, σ', H', J', r, q⟩ := hsp
      exact ⟨v, σ', H', J'.ofTry ok, r, q⟩
end
end MI
end
section
set_option Elab.async false
set_option linter.all false
set_option maxHeartbeats 8000000
/-! MI: that try, of what a def was given. -/
namespace MI
open PySem PySem.Spec PyProof.Rows L2
open LamX (CodeO)
/-- a clause's suite: z = [s, e.f] -/
def tsH (K : PySem.W.Frag) (j nn : Nat) (s f : Str) : Addr → Value → Option Addr → TS := fun a cls d D σ H => σ[nn]? = some (some (.ref a)) ∧ ∃ (C d0 : Addr) (w : V), cls = .ref C ∧ d = some d0 ∧ ExF K C f ∧ H d0 = some (.xd [(f, w)]) ∧ ∀ p, H p = none → D.nx (σ.set j (some (.ref p))) (upd H p (.lst [.str s, w]))
inductive HdRel (K : PySem.W.Frag) (cls : Nat → Addr) (j nn : Nat) : List (Nat × Str × Str) → List (Hdl × (Addr → Value → Option Addr → TS)) → Prop where
  | nil : HdRel K cls j nn [] []
  | cons {d : Nat} {s f : Str} {h : Hdl} {r : List (Nat × Str × Str)} {L : List (Hdl × (Addr → Value → Option Addr → TS))} : h.c = cls d → HdRel K cls j nn r L → HdRel K cls j nn ((d, s, f) :: r) ((h, tsH K j nn s f) :: L)
section
variable {X : Cx} {G : GI} {W : WX} {wd : Wd}
theorem wlst_of (cl : ClsOk G wd) {c j nn : Nat} {s f : Str} {D : Ends} {d : Option Addr} {σ : L2.St} {H : Hp} (h : ∀ a, H a = none → nn < σ.length → tsH G.K j nn s f a (.ref (G.cls c)) d { nx := fun σ' H' => D.nx (σ'.set nn none) H', rt := fun _ _ => False } (σ.set nn (some (.ref a))) H) :
    ∀ {hd : List (Nat × Str × Str)} {L : List (Hdl × (Addr → Value → Option Addr → TS))}, HdRel G.K G.cls j nn hd L → hsel wd.sub c hd = some (s, f) → wLst G.K nn D L (.ref (G.cls c)) d σ H
  | _, _, .nil, z => by simp [hsel] at z
  | _, _, .cons (d := e) (h := hh) (r := r) hc R, z => by
    simp only [hsel] at z
    cases hs : wd.sub c e with
    | none => rw [hs] at z; cases z
    | some b =>
      rw [hs] at z
      have q := (cl.2.1 c e b hs).2.2
      refine ⟨b, by rw [hc]; exact q, fun hb a ha hl => ?_, fun hb => ?_⟩
      · subst hb
        simp only [Option.some.injEq, Prod.mk.injEq] at z
        obtain ⟨rfl, rfl⟩ := z
        exact h a ha hl
      · subst hb
        exact wlst_of cl h R z
theorem exf_xfc {K : PySem.W.Frag} {C : Addr} {f : Str} (F : ExF K C f) : XfC K C := ⟨F.ga, F.gg, F.sb, F.hd⟩
theorem suite_ok {j nn : Nat} {n z s f : Str} {ks : Nat} {p5 p6 q1 q2 q3 q4 : Pos} (hN : X.N.Nodup) (hj : X.N[j]? = some z) (hlz : X.env.kindOf z = some .local) (hn : X.N[nn]? = some n) (hln : X.env.kindOf n = some .local) (hdn : (n == ("__debug__" : Str)) = false) (hcn : (n == ("__classdict__" : Str)) = false)
    (hat : attributeBase (.Name n q2) f X.env (eval (.Name n q2) X.env) = eval (.Name n q2) X.env) (a : Addr) (oe : Obj) (cls : Value) (d : Option Addr) (pn : List (Addr × Obj)) (hz : Zc cls d oe) (hf : ∃ vs, oe.data = .fields vs) :
    PSs (X.suite a ((a, oe) :: pn)) [.Assign [.Name z p5] (.List [.Constant (.str s) ks q1, .Attribute (.Name n q2) f q3] q4) p6] (tsH X.K j nn s f a cls d) := by
  refine ⟨fun pins st σ H D I h => ?_⟩
  obtain ⟨h1, C, d0, w, ec, ed, F, h2, h3⟩ := h
  have e1 : PE (X.suite a ((a, oe) :: pn)) (.Attribute (.Name n q2) f q3) (tXf a cls d C f (tVar nn)) := pe_xf (exf_xfc F) F.no hz hf (pe_var hn (.inl hln) hdn hcn) hat
  have e2 : PE (X.suite a ((a, oe) :: pn)) (.List [.Constant (.str s) ks q1, .Attribute (.Name n q2) f q3] q4) _ := pe_lst (pa_cons pe_str (pa_cons e1 pa_nil))
  refine (pss_one (ps_set (X := X.suite a ((a, oe) :: pn)) (pos := p6) (pos' := p5) hN hj (.inl hlz) e2 rfl (.inr hlz))).run pins st σ H D I ?_
  refine ⟨.ref a, h1, rfl, ec, d0, [(f, w)], w, ed, h2, by simp [List.lookup], ?_, h3⟩
  show (2 : Nat) ≤ sizeLine
  decide
theorem s_trc {f c' : Addr} {q a n z w : Str} {j nn : Nat} {act : Mem → R MV} {tl : XK → Hp → VK → Prop} {hd : List (Nat × Str × Str)} {p0 : Hdl × (Addr → Value → Option Addr → TS)} {L : List (Hdl × (Addr → Value → Option Addr → TS))} {kw : Nat} {p1 p2 p3 p4 pw pl pos : Pos} (hK : X.K = G.K) (cl : ClsOk G wd) (hact : wd.act = some (f, act)) (hcd : (c', q) ∈ G.cd)
    (hs : X.stack = X.env :: X.outer) (hf : X.env.frame = some X.env.locals) (hN : X.N.Nodup) (hj : X.N[j]? = some z) (hlz : X.env.kindOf z = some .local) (hn : X.N[nn]? = some n) (hln : X.env.kindOf n = some .local)
    (hp : ∀ (W' : WX) (pn : List (Addr × Obj)) (xe : Value → Shared → Prop) (E : L2.St → XK), Takes (X.tr pn xe) W' → (∀ σ' cls d H', E σ' cls d H' → W' cls d σ' H') →
      PE (X.tr pn xe) (.Call (.Name a p1) [] [] p2) (fun σZ HZ Q => σZ[0]? = some (some (.ref f)) ∧ HZ c' = some (CodeO c' q) ∧ tl (E σZ) HZ Q))
    (htl : ∀ (E : XK) (B ι : List Addr) (μ : Mem) (H : Hp) (Q : VK), HR G B ι H μ → Out (act μ) (fun v μ' => ∀ w H' ι', Ext G.K ι H ι' H' → HR G B ι' H' μ' → RV G B ι' H' v w → Q w H') (fun x μ' => ∀ cls d H' ι', Ext G.K ι H ι' H' → HR G B ι' H' μ' → RX G B ι' H' cls d x → E cls d H') → tl E H Q)
    (hrel : HdRel G.K G.cls j nn hd (p0 :: L))
    (hL : ∀ p ∈ p0 :: L, Gl X p.1.x ∧ X.mg p.1.x = some (.ref p.1.c) ∧ (p.1.x == ("__debug__" : Str)) = false ∧ ∀ (a : Addr) (oe : Obj) (cls : Value) (d : Option Addr) (pn : List (Addr × Obj)), Zc cls d oe → (∃ vs, oe.data = .fields vs) → PSs (X.suite a ((a, oe) :: pn)) [p.1.st] (p.2 a cls d)) :
    PS X (.Try [.Assign [.Name z p3] (.List [.Constant (.str w) kw pw, .Call (.Name a p1) [] [] p2] pl) p4] (p0.1.mk1 n :: L.map fun p => p.1.mk1 n) [] [] pos) (tS G W wd (.trc 0 j nn w hd)) :=
  psW (ps_try_lst hs hf hN hn hln p0 L hL
    (tb := fun W' D σ H => ∃ E : L2.St → XK, (∀ σ' cls d H', E σ' cls d H' → W' cls d σ' H') ∧ σ[0]? = some (some (.ref f)) ∧ H c' = some (CodeO c' q) ∧ tl (E σ) H (fun x H1 => (2 : Nat) ≤ sizeLine ∧ ∀ p, H1 p = none → D.nx (σ.set j (some (.ref p))) (upd H1 p (.lst [.str w, x]))))
    fun W' pn xe tk _ => ⟨fun pins s σ H D I ⟨E, hW, h1, h2, h3⟩ => (pss_one (ps_set (X := X.tr pn xe) (pos := p4) (pos' := p3) hN hj (.inl hlz) (pe_lst (pos := pl) (pa_cons (pe_str (x := w) (j := kw) (pos := pw)) (pa_cons (hp W' pn xe E tk hW) pa_nil))) rfl (.inr hlz))).run pins s σ H D I ⟨h1, h2, h3⟩⟩) fun D σ H ⟨B, ι, μ, ρ, er, hr, h⟩ => by
    simp only [exec] at h
    cases hρ : ρ[0]?.bind id with
    | none => rw [hρ] at h; exact h.elim
    | some v0 =>
      rw [hρ] at h
      have hρ0 : ρ[0]? = some (some v0) := by
        cases e : ρ[0]? with
        | none => rw [e] at hρ; cases hρ
        | some o => rw [e] at hρ; exact congrArg some hρ
      obtain ⟨w0, hw0, r0⟩ := er.get 0 v0 hρ0
      cases v0 with
      | thk m =>
        rw [hact] at h
        simp only at h
        split at h
        · exact h.elim
        · rename_i hm
          have hm : m = f := Classical.not_not.mp hm
          subst hm
          cases r0
          refine ⟨fun σ' cls d H' => σ' = σ ∧ wLst X.K nn D (p0 :: L) cls d σ H', fun σ' cls d H' ⟨e, q⟩ => by rw [e]; exact q, hw0, (hr.co _ hcd).1, ?_⟩
          refine htl _ B ι μ H _ hr ?_
          cases ha : act μ with
          | none => rw [ha] at h; exact h.elim
          | some rr =>
            obtain ⟨o, μ1⟩ := rr
            rw [ha] at h
            cases o with
            | ok v =>
              simp only at h
              split at h
              · intro wv H' ι' e1 hr1 r1
                refine ⟨by decide, fun p hp => ?_⟩
                have e2 : Ext G.K ι' H' ι' (upd H' p (.lst [.str w, wv])) := Ext.push hp
                exact h _ _ ι' (e1.trans e2) (hr1.pushO hp) (((er.mono e1).mono e2).put (RV.newLst hr1 hp (.cons (.str w) (.cons r1 .nil))))
              · exact h.elim
            | error x =>
              obtain ⟨c, xv⟩ := x
              simp only at h
              cases hsb : hsel wd.sub c hd with
              | none => rw [hsb] at h; exact h.elim
              | some sf =>
                obtain ⟨s, fl⟩ := sf
                rw [hsb] at h
                simp only at h
                split at h
                · rename_i hjn
                  obtain ⟨hjl, hjn, hfl⟩ := hjn
                  intro cls d H' ι' e1 hr1 rx
                  obtain ⟨rfl, dd, wv, rfl, hdd, rw'⟩ := rx
                  refine ⟨rfl, ?_⟩
                  rw [hK]
                  have hf2 : G.fld c = fl := by rw [cl.1]; exact hfl
                  rw [hf2] at hdd
                  obtain ⟨e0, b0, hs0⟩ : ∃ e0 b0, wd.sub c e0 = some b0 := by
                    cases hrel with
                    | cons hc R =>
                      simp only [hsel] at hsb
                      split at hsb
                      · rename_i zz; exact ⟨_, _, zz⟩
                      · rename_i zz; exact ⟨_, _, zz⟩
                      · cases hsb
                  have F := (cl.2.1 c e0 b0 hs0).1
                  rw [hf2] at F
                  refine wlst_of cl (fun aa na hnl => ⟨by rw [List.getElem?_set_self hnl], G.cls c, dd, wv, rfl, rfl, F, hdd, fun p hp => ?_⟩) hrel hsb
                  have e2 : Ext G.K ι' H' ι' (upd H' p (.lst [.str s, wv])) := Ext.push hp
                  show D.nx _ _
                  rw [set_two hjn]
                  exact h _ _ ι' (e1.trans e2) (hr1.pushO hp) ((((er.mono e1).mono e2).put (RV.newLst hr1 hp (.cons (.str s) (.cons rw' .nil)))).drop nn)
                · exact h.elim
      | _ => exact h.elim
end
end MI
end
section
set_option Elab.async false
set_option linter.all false
set_option maxHeartbeats 8000000
/-! MI: what the checks are worth. -/
namespace MI
open PySem PySem.Spec PyProof.Rows L2
/-! ### small facts of the text -/
theorem star_cons {e : Expr} {es : List Expr} {env : PySem.Env} (h : plainE e = true) : starEach (e :: es) env = (false, eval e env) :: starEach es env := by
  cases e <;> first | rfl | (simp [plainE] at h)
theorem star_any {env : PySem.Env} {pos : Pos} : ∀ {es : List Expr}, es.all plainE = true → (backTo pos (starEach es env)).any (·.1) = false
  | [], _ => rfl
  | e :: es, h => by
    simp only [List.all_cons, Bool.and_eq_true] at h
    rw [star_cons h.1]
    have ih := star_any (env := env) (pos := pos) h.2
    unfold backTo at ih ⊢
    simp only [List.map_cons, List.any_cons, ih, Bool.or_false]
theorem assign_cons {e : Expr} {es : List Expr} {env : PySem.Env} (h : plainE e = true) : assignEach (e :: es) env = (false, assign e env) :: assignEach es env := by
  cases e <;> first | rfl | (simp [plainE] at h)
theorem assign_len {env : PySem.Env} : ∀ {es : List Expr}, es.all plainE = true → (assignEach es env).length = es.length ∧ (assignEach es env).findIdx? (·.1) = none
  | [], _ => ⟨rfl, rfl⟩
  | e :: es, h => by
    simp only [List.all_cons, Bool.and_eq_true] at h
    rw [assign_cons h.1]
    have ih := assign_len (env := env) h.2
    refine ⟨by simp [ih.1], ?_⟩
    rw [List.findIdx?_cons]
    simp [ih.2]
theorem test_val {e : Expr} {env : PySem.Env} (h : testE e = true) : ∀ whole, isTrue e env whole = (do let v ← whole; standAt e.pos; holding [v] (truthy v)) := by
  intro whole
  cases e <;> first | rfl | (simp [testE] at h)
theorem sub_plain {i : Expr} (h : sliceE i = false) : ∀ o j, subscripted i false o j = operate [o, j] (getItem o j) := by
  intro o j
  cases i <;> first | rfl | (simp [sliceE] at h)
theorem set_plain {e : Expr} {env : PySem.Env} (h : setE e = false) : ∀ x, foldedSetIterable e env x = pure x := by
  intro x
  cases e <;> first | rfl | (simp [setE] at h)
theorem base_plain {e : Expr} {env : PySem.Env} {n : Str} (h : baseE e = true) : attributeBase e n env (eval e env) = eval e env := by
  cases e with
  | Call f as ks p => cases f <;> first | rfl | (simp [baseE] at h; done)
  | _ => first | rfl | (simp [baseE] at h; done)
theorem sub_assign {o i : Expr} {pos : Pos} {env : PySem.Env} (h : sliceE i = false) : ∀ v, assign (.Subscript o i pos) env v = (do
      let ov ← holding [v] (eval o env)
      let iv ← holding [v, ov] (eval i env)
      standAt pos
      holding [v, ov, iv] (setItem ov iv v)
      release [v, ov, iv] []) := by
  intro v
  cases i <;> first | rfl | (simp [sliceE] at h)
/-! ### a context that fits -/
def GOk (G : GI) (wd : Wd) (X : Cx) (k : Nat) (x : Str) : GE → Prop
  | .con v => ∃ u, X.mg x = some u ∧ ConOk G v u
  | .fn f np dvs sg => (∀ j, FnA X G wd k x f np (dvs.drop j)) ∧ (∀ p ∈ sg, FnKw X G wd k x f np p.1 p.2) ∧ ∀ xs μ, wd.call f xs μ ≠ none → xs.length = np
  | .cls c rs => X.mg x = some (.ref (G.cls c)) ∧ (rs = true → MkT X.prog X.K (G.cls c) (G.fld c))
  | .hr f => HrK X G wd k x f
structure OkX (G : GI) (wd : Wd) (k : Nat) (cs : CS) (X : Cx) (W : WX) : Prop where
  N : X.N = cs.N
  nd : cs.N.Nodup
  sc : X.env.scope = cs.sc
  K : X.K = G.K
  calm : X.calm = true
  room : Room k X.A
  tk : Takes X W
  fo : ∀ x, cs.fo x = true → X.fn x = true
  gl : ∀ x g, cs.gl.lookup x = some g → GOk G wd X k x g
  bi : ∀ x ∈ cs.bi, X.mg x = none
  cl : ClsOk G wd
  lm : cs.lm = true → Room (k + 2) X.A ∧ G.ρ0 = [] ∧ G.σ0 = [] ∧ G.cd = [] ∧ ∃ c P, X.env.code = .ref c ∧ LamX.TabB X.base X.mg c P ∧ (P, X.env.qual ++ "<lambda>") ∈ G.T ∧ ∀ p ∈ G.T, p.1 = P → p.2 = X.env.qual ++ "<lambda>"
section
variable {G : GI} {wd : Wd} {k : Nat} {cs : CS} {X : Cx} {W : WX}
theorem OkX.blk (h : OkX G wd k cs X W) (s : Shared) (H : Hp) (scope : Scope) (C : Addr) (cl : List (Str × Addr)) (fp : List Addr) : OkX G wd k (cs.blk scope) (X.blk s H scope (compEnvC scope cl C X.env) fp) W0 where
  N := h.N
  nd := h.nd
  sc := by
    show relabel scope X.env = relS scope cs.sc
    unfold relabel relS PySem.Env.kindOf
    rw [h.sc]
  K := h.K
  calm := h.calm
  room := h.room
  tk := takes0
  fo := fun x e => e
  gl := fun x g e => by
    have q := h.gl x g e
    cases g with
    | con v => exact q
    | fn f np ds sg =>
      obtain ⟨q, q2, q3⟩ := q
      exact ⟨fun j => let ⟨z⟩ := q j; ⟨z⟩, fun p hp => let ⟨z⟩ := q2 p hp; ⟨z⟩, q3⟩
    | cls c rs => exact q
    | hr f => obtain ⟨q⟩ := q; exact ⟨q⟩
  bi := h.bi
  cl := h.cl
  lm := fun z => by cases z
theorem OkX.lamX (h : OkX G wd k cs X W) {A : Around} {outer : List PySem.Env} {s : Shared} {H : Hp} {E : XK} {scope : Scope} {f c' : Addr} (hr : Room k (A.deeper (LamX.lamEnv X scope s.heap.objs.size f c'))) : OkX G wd k (cs.lam scope) (LamX.lamCx X A outer s H E scope f c') (fun cls d _ H => E cls d H) where
  N := h.N
  nd := h.nd
  sc := rfl
  K := h.K
  calm := rfl
  room := hr
  tk := takes_of rfl rfl rfl (E₁ := fun e' s'' => L2.CX X.prog X.w outer H s E e' s'') rfl
  fo := fun x e => by cases e
  gl := fun x g e => by
    have q := h.gl x g e
    cases g with
    | con v => exact q
    | fn f np ds sg =>
      obtain ⟨q, q2, q3⟩ := q
      exact ⟨fun j => let ⟨z⟩ := q j; ⟨z⟩, fun p hp => let ⟨z⟩ := q2 p hp; ⟨z⟩, q3⟩
    | cls c rs => exact q
    | hr f => obtain ⟨q⟩ := q; exact ⟨q⟩
  bi := h.bi
  cl := h.cl
  lm := fun z => by cases z
theorem noArgs_eq {a : Arguments} (h : noArgs a = true) : a = ⟨[], [], none, [], [], none, []⟩ := by
  unfold noArgs at h
  split at h
  · rfl
  · cases h
theorem OkX.gx (h : OkX G wd k cs X W) {x : Str} (g : cs.glx x = true) : Gl X x := by
  unfold CS.glx at g
  show X.env.scope.names.lookup x = _
  rw [h.sc]
  exact of_decide_eq_true g
theorem OkX.vx (h : OkX G wd k cs X W) {x : Str} (g : cs.vis x = true) : Vis X.env.scope x := by
  unfold CS.vis at g
  simp only [Bool.or_eq_true, decide_eq_true_eq] at g
  unfold Vis
  rw [h.sc]
  rcases g with (g | g) | g
  · exact .inl g
  · exact .inr (.inl g)
  · exact .inr (.inr g)
theorem OkX.hu (h : OkX G wd k cs X W) : X.A.units + 64 < cLine := by have := h.room.un; omega
theorem OkX.bl (h : OkX G wd k cs X W) {x y : Str} (g : cs.blt x y = true) : x = y ∧ Gl X x ∧ X.mg x = none := by
  unfold CS.blt at g
  simp only [Bool.and_eq_true, decide_eq_true_eq] at g
  exact ⟨g.1.1, h.gx g.1.2, h.bi x g.2⟩
theorem nd_of {x : Str} (h : nd x = true) : (x == ("__debug__" : Str)) = false := by simpa [nd] using h
theorem ncd_of {x : Str} (h : ncd x = true) : (x == ("__classdict__" : Str)) = false := by simpa [ncd] using h
end
def Says (G : GI) (W : WX) (wd : Wd) (X : Cx) : Q → Prop
  | .e a x => PE X x (tE G W wd a)
  | .es a xs => PA X xs (tEs G W wd a)
  | .t a x => PT X x (tT G W wd a)
  | .w a op xs pos => PW X (.BoolOp op xs pos) (tT G W wd a)
  | .o h a x => PO X x (tO G W wd h a)
  | .i a tg x => PI X tg x (tI G W wd a)
  | .g a x => PG X x (tG G wd a)
  | .gs a xs => PGs X xs (tGs G wd a)
  | .d ks es kxs vs => DPs X G W wd ks es kxs vs
  | .k a kws => PK X kws (tEs G W wd a)
section
variable {G : GI} {wd : Wd} {k : Nat} {cs : CS} {X : Cx} {W : WX} {r : CS → Q → Bool}
def RecOk (G : GI) (wd : Wd) (k : Nat) (r : CS → Q → Bool) : Prop := ∀ cs q, r cs q = true → ∀ X W, OkX G wd k cs X W → Says G W wd X q
theorem bi_call {f : Bi} {x : Str} {y : Expr} {ys : List Expr} {es : ES} {p pos : Pos} (ok : OkX G wd k cs X W) (hg : Gl X x) (hm : X.mg x = none) (hf : biN f = some x) (ha : PA X (y :: ys) (tEs G W wd es)) (hy : plainE y = true) (hys : ys.all plainE = true) :
    PE X (.Call (.Name x p) (y :: ys) [] pos) (tE G W wd (.blt f es)) := by
  have he := star_cons (es := ys) (env := X.env) hy
  have hpl := star_any (env := X.env) (pos := pos) hys
  cases f <;> simp only [biN, reduceCtorEq, Option.some.injEq] at hf <;> subst hf
  · exact s_bltB (b_len ok.K) hg hm (by decide +kernel) ha (by decide) (by decide) he hpl
  · exact s_bltB b_abs hg hm (by decide +kernel) ha (by decide) (by decide) he hpl
  · exact s_bltB (b_min2 ok.calm) hg hm (by decide +kernel) ha (by decide) (by decide) he hpl
  · exact s_bltB (b_max2 ok.calm) hg hm (by decide +kernel) ha (by decide) (by decide) he hpl
  · exact s_bltT b_int1 hg hm (by decide +kernel) ha (by decide) (by decide) he hpl
  · exact s_bltT (b_tup1 ok.K) hg hm (by decide +kernel) ha (by decide) (by decide) he hpl
  · exact s_bltT (b_lst1 ok.K) hg hm (by decide +kernel) ha (by decide) (by decide) he hpl
  · exact s_bltB (b_srt1 ok.K ok.calm ok.hu) hg hm (by decide +kernel) ha (by decide) (by decide) he hpl
  · exact s_bltB (b_all1 ok.K ok.calm) hg hm (by decide +kernel) ha (by decide) (by decide) he hpl
  · exact s_bltB (b_any1 ok.K ok.calm) hg hm (by decide +kernel) ha (by decide) (by decide) he hpl
  · exact s_bltB (b_sum1 ok.K ok.calm) hg hm (by decide +kernel) ha (by decide) (by decide) he hpl
theorem isi_call {x t : Str} {c : Cl} {y : Expr} {a : E} {p q pos : Pos} (ok : OkX G wd k cs X W) (hx : cs.blt x "isinstance" = true) (hgt : cs.glx t = true) (hbt : t ∈ cs.bi) (hc : clS c = some t) (hy : plainE y = true) (ha : PE X y (tE G W wd a)) :
    PE X (.Call (.Name x p) [y, .Name t q] [] pos) (tE G W wd (.isi a [c])) := by
  obtain ⟨e, h1, h2⟩ := ok.bl hx
  have he := star_cons (e := y) (es := [.Name t q]) (env := X.env) hy
  have hpl : (backTo pos (starEach [.Name t q] X.env)).any (·.1) = false := star_any rfl
  cases c <;> simp only [clS, reduceCtorEq, Option.some.injEq] at hc <;> subst hc
  all_goals exact s_isi ok.K rfl e h1 h2 (ok.gx hgt) (ok.bi _ hbt) (by decide +kernel) (by decide) (by decide) ha he hpl
theorem lc_parts {own : List Nat} {it : It} {g : MI.G} {c e : E} {elt tg iter : Expr} {ifs : List Expr} {scope : Scope} (R : RecOk G wd k r) (ok : OkX G wd k cs X W) (hb : blkC cs.N cs.sc scope (ownN cs.N own) = true) (hi : r cs (.i it tg iter) = true)
    (hg : r (cs.blk scope) (.g g tg) = true) (he : r (cs.blk scope) (.e e elt) = true) (ht : (match ifs with
      | [] => (match c with
        | .con (.bl true) => true
        | _ => false)
      | [t] => r (cs.blk scope) (.t c t)
      | _ => false) = true) :
    PI X tg iter (tI G W wd it) ∧ BlkOk X.N X.env.scope scope (ownN cs.N own) ∧ (∀ (s : Shared) (H : Hp) (C : Addr) (cl : List (Str × Addr)) (fp : List Addr), PG (X.blk s H scope (compEnvC scope cl C X.env) fp) tg (tG G wd g)) ∧
      (∀ (s : Shared) (H : Hp) (C : Addr) (cl : List (Str × Addr)) (fp : List Addr), PTs (X.blk s H scope (compEnvC scope cl C X.env) fp) ifs (tT G W0 wd c)) ∧
      (∀ (s : Shared) (H : Hp) (C : Addr) (cl : List (Str × Addr)) (fp : List Addr), PE (X.blk s H scope (compEnvC scope cl C X.env) fp) elt (tE G W0 wd e)) ∧ (ownN cs.N own).map (·.2) = own := by
  refine ⟨R _ _ hi X W ok, by rw [ok.N, ok.sc]; exact blkOk_by hb, fun s H C cl fp => R _ _ hg _ _ (ok.blk s H scope C cl fp), fun s H C cl fp => ?_, fun s H C cl fp => R _ _ he _ _ (ok.blk s H scope C cl fp), ?_⟩
  · split at ht
    · split at ht
      · refine ⟨fun pins s' σ H' Q I h => pts_nil.run pins s' σ H' Q I ?_⟩
        obtain ⟨B, ι, μ, ρ, er, hr, h⟩ := h
        simp only [ev] at h
        obtain ⟨kk, e1, q⟩ := h (.bl true) H' ι Ext.refl hr (.bl true) fun z => by cases z
        cases e1
        exact q
      · cases ht
    · exact pts_one (R _ _ ht _ _ (ok.blk s H scope C cl fp))
    · cases ht
  · unfold ownN
    rw [List.map_map]
    exact List.map_id' own
theorem ckE_ok {a : E} {x : Expr} (R : RecOk G wd k r) (h : ckE r cs a x = true) (ok : OkX G wd k cs X W) : PE X x (tE G W wd a) := by
  unfold ckE at h
  split at h
  · -- constants
    unfold conOk at h
    split at h
    · exact s_non
    · rw [beq_iff_eq] at h; subst h; exact s_bl
    · rw [beq_iff_eq] at h; subst h; exact s_int
    · have h := of_decide_eq_true h; subst h; exact s_str
    · cases h
  · -- a constant of the module
    simp only [Bool.and_eq_true] at h
    obtain ⟨⟨h1, h2⟩, h3⟩ := h
    split at h3
    · rename_i w e
      have h3 := of_decide_eq_true h3
      subst h3
      obtain ⟨u, m, c⟩ := ok.gl _ _ e
      exact s_glob (ok.gx h1) m c (nd_of h2)
    · cases h3
  · simp only [Bool.and_eq_true, decide_eq_true_eq] at h
    exact s_var (by rw [ok.N]; exact h.1.1.1) (ok.vx h.1.1.2) (nd_of h.1.2) (ncd_of h.2)
  · simp only [Bool.and_eq_true, decide_eq_true_eq] at h
    exact s_bin ok.K h.1.1 (R _ _ h.1.2 _ _ ok) (R _ _ h.2 _ _ ok)
  · exact s_neg (R _ _ h _ _ ok)
  · exact s_nt (R _ _ h _ _ ok)
  · simp only [Bool.and_eq_true, decide_eq_true_eq, Bool.not_eq_true'] at h
    exact s_cmp ok.K ok.hu h.1.1.1 h.1.1.2 (R _ _ h.1.2 _ _ ok) (R _ _ h.2 _ _ ok)
  · simp only [Bool.and_eq_true, decide_eq_true_eq, Bool.not_eq_true'] at h
    exact s_chn ok.K ok.hu h.1.1.1.1.1 h.1.1.1.1.2 h.1.1.1.2 (R _ _ h.1.1.2 _ _ ok) (R _ _ h.1.2 _ _ ok) (R _ _ h.2 _ _ ok)
  · simp only [Bool.and_eq_true] at h
    exact s_an (R _ _ h.1 _ _ ok) (s_one (R _ _ h.2 _ _ ok))
  · simp only [Bool.and_eq_true] at h
    exact s_an (R _ _ h.1 _ _ ok) (R _ _ h.2 _ _ ok)
  · simp only [Bool.and_eq_true] at h
    exact s_orr (R _ _ h.1 _ _ ok) (s_one (R _ _ h.2 _ _ ok))
  · simp only [Bool.and_eq_true] at h
    exact s_orr (R _ _ h.1 _ _ ok) (R _ _ h.2 _ _ ok)
  · simp only [Bool.and_eq_true] at h
    exact s_ife (R _ _ h.1.1 _ _ ok) (fun _ _ _ q => q) (R _ _ h.1.2 _ _ ok) (R _ _ h.2 _ _ ok)
  · exact s_tup (R _ _ h _ _ ok)
  · exact s_lst (R _ _ h _ _ ok)
  · simp only [Bool.and_eq_true] at h
    exact s_chg h.1 (R _ _ h.2 _ _ ok)
  · simp only [Bool.and_eq_true, Bool.not_eq_true'] at h
    exact s_idx ok.K ok.hu (sub_plain h.1.1) (R _ _ h.1.2 _ _ ok) (R _ _ h.2 _ _ ok)
  · simp only [Bool.and_eq_true] at h
    exact s_slc ok.K (R _ _ h.1.1 _ _ ok) (R _ _ h.1.2 _ _ ok) (R _ _ h.2 _ _ ok)
  · simp only [Bool.and_eq_true] at h
    obtain ⟨⟨⟨⟨⟨h1, h2⟩, h3⟩, h4⟩, h5⟩, h6⟩ := h
    split at h3
    · rename_i f' np dvs sg e
      simp only [Bool.and_eq_true, decide_eq_true_eq] at h3
      obtain ⟨⟨⟨rfl, _⟩, z⟩, _⟩ := h3
      obtain ⟨F, _, hl⟩ := ok.gl _ _ e
      rw [z]
      exact s_app ok.tk (F _) hl ok.room (ok.gx h1) (R _ _ h6 _ _ ok) (nd_of h2) (star_cons h4) (star_any h5)
    · cases h3
  · simp only [Bool.and_eq_true] at h
    obtain ⟨⟨⟨h1, h2⟩, h3⟩, h4⟩ := h
    split at h3
    · rename_i f' np dvs sg e
      simp only [Bool.and_eq_true, decide_eq_true_eq, List.any_eq_true] at h3
      obtain ⟨⟨rfl, p, hp, ⟨q1, q2⟩, q3⟩, q4⟩ := h3
      obtain ⟨_, F, _⟩ := ok.gl _ _ e
      subst q2
      exact s_apk ok.tk (F p hp) (by simpa using q4) ok.room (ok.gx h1) (nd_of h2) q1 q3 (R _ _ h4 _ _ ok)
    · cases h3
  · simp only [Bool.and_eq_true] at h
    obtain ⟨⟨⟨⟨⟨⟨h1, h2⟩, h3⟩, h4⟩, h5⟩, h6⟩, h7⟩ := h
    split at h4
    · rename_i f' e
      have h4 := of_decide_eq_true h4
      subst h4
      obtain ⟨q1, q2, q3, q4, c, P, q5, q6, q7, q8⟩ := ok.lm h1
      have h6 := noArgs_eq h6
      subst h6
      exact s_hrd (ok.gl _ _ e) (ok.gx h2) (nd_of h3) q6 q5 q7 q8 q2 q3 q4 q1 (LamX.lamS_by (by rw [ok.sc]; exact h5)) rfl (fun _ _ _ _ _ => rfl) fun A outer s H E f c' hr => R _ _ h7 _ _ (ok.lamX hr)
    · cases h4
  · simp only [Bool.and_eq_true, decide_eq_true_eq] at h
    exact bi_call ok (ok.gx h.1.1.1.1.1) (ok.bi _ h.1.1.1.1.2) h.1.1.1.2 (R _ _ h.2 _ _ ok) h.1.1.2 h.1.2
  · simp only [Bool.and_eq_true] at h
    obtain ⟨⟨⟨⟨⟨h1, h2⟩, h3⟩, h4⟩, h5⟩, h6⟩ := h
    split at h4
    · rename_i d' rs e
      have h4 := of_decide_eq_true h4
      subst h4
      obtain ⟨e1, g1, m1⟩ := ok.bl h1
      exact s_isiE ok.K ok.cl e1 g1 m1 (ok.gx h2) (ok.gl _ _ e).1 (nd_of h3) (R _ _ h6 _ _ ok) (star_cons h5) (star_any rfl)
    · cases h4
  · simp only [Bool.and_eq_true, decide_eq_true_eq] at h
    exact isi_call ok h.1.1.1.1.1 h.1.1.1.1.2 h.1.1.1.2 h.1.1.2 h.1.2 (R _ _ h.2 _ _ ok)
  · simp only [Bool.and_eq_true, decide_eq_true_eq] at h
    exact s_fld ok.K ok.cl h.1.1.2 h.1.1.1 (base_plain h.1.2) (R _ _ h.2 _ _ ok)
  · simp only [Bool.and_eq_true, decide_eq_true_eq] at h
    obtain ⟨⟨⟨⟨⟨rfl, h2⟩, h3⟩, h4⟩, h5⟩, h6⟩ := h
    refine s_append ok.K rfl (R _ _ h5 _ _ ok) (R _ _ h6 _ _ ok) (base_plain h2) ?_ h3 (star_cons h4) rfl
    rw [star_cons h4]; rfl
  · simp only [Bool.and_eq_true, decide_eq_true_eq] at h
    obtain ⟨⟨⟨⟨⟨rfl, h2⟩, h3⟩, h4⟩, h5⟩, h6⟩ := h
    refine s_pop1 ok.K rfl (R _ _ h5 _ _ ok) (R _ _ h6 _ _ ok) (base_plain h2) ?_ h3 (star_cons h4) rfl
    rw [star_cons h4]; rfl
  · simp only [Bool.and_eq_true, decide_eq_true_eq] at h
    obtain ⟨⟨⟨rfl, h2⟩, h3⟩, h4⟩ := h
    exact s_pop0 ok.K rfl (R _ _ h4 _ _ ok) (base_plain h2) h3
  · simp only [Bool.and_eq_true, decide_eq_true_eq] at h
    obtain ⟨⟨⟨⟨⟨rfl, h2⟩, h3⟩, h4⟩, h5⟩, h6⟩ := h
    refine s_sdf ok.K (R _ _ h5 _ _ ok) (R _ _ h6 _ _ ok) ⟨base_plain h2, ?_, h3, ?_⟩
    · rw [star_cons h4]; rfl
    · rw [star_cons h4]; rfl
  · simp only [Bool.and_eq_true, Bool.not_eq_true', List.all_eq_true, decide_eq_true_eq] at h
    obtain ⟨⟨⟨⟨⟨⟨h1, h2⟩, h3⟩, h4⟩, h5⟩, h6⟩, h7⟩ := h
    obtain ⟨p1, p2, p3, p4, p5, p6⟩ := lc_parts R ok h1 h4 h5 h6 h7
    have q := fun pp : Pos => pe_lc (pos := pp) ok.calm (by rw [ok.N]; exact ok.nd) p1 p2 p3 p4 p5 (set_plain h3)
    rw [p6] at q
    exact peW (q _) fun σ H Q z => lcm_of h2 z
  · simp only [Bool.and_eq_true] at h
    obtain ⟨⟨⟨h1, h2⟩, h3⟩, h4⟩ := h
    obtain ⟨e1, g1, m1⟩ := ok.bl h1
    obtain ⟨e2, g2, m2⟩ := ok.bl h2
    subst e2
    exact s_lrg1 ok.calm (e1.trans (by split <;> rfl)) g1 m1 g2 m2 (R _ _ h4 _ _ ok) (star_cons h3) rfl
  · exact s_dsp0
  · simp only [Bool.and_eq_true, decide_eq_true_eq] at h
    exact s_dsp (R _ _ h.2 _ _ ok) h.1.1 h.1.2
  · cases h
theorem ckT_ok {a : E} {x : Expr} (R : RecOk G wd k r) (h : ckT r cs a x = true) (ok : OkX G wd k cs X W) : PT X x (tT G W wd a) := by
  unfold ckT at h
  split at h
  · simp only [Bool.and_eq_true, decide_eq_true_eq, Bool.not_eq_true'] at h
    exact t_cmp ok.K ok.hu h.1.1.1 h.1.1.2 (R _ _ h.1.2 _ _ ok) (R _ _ h.2 _ _ ok)
  · simp only [Bool.and_eq_true, decide_eq_true_eq, Bool.not_eq_true'] at h
    exact t_chn ok.K ok.hu h.1.1.1.1.1 h.1.1.1.1.2 h.1.1.1.2 (R _ _ h.1.1.2 _ _ ok) (R _ _ h.1.2 _ _ ok) (R _ _ h.2 _ _ ok)
  · exact t_nt (R _ _ h _ _ ok)
  · simp only [Bool.and_eq_true] at h
    exact (t_an (R _ _ h.1 _ _ ok) (R _ _ h.2 _ _ ok)).pt
  · simp only [Bool.and_eq_true] at h
    exact (t_orr (R _ _ h.1 _ _ ok) (R _ _ h.2 _ _ ok)).pt
  · simp only [Bool.and_eq_true] at h
    exact t_val (R _ _ h.2 _ _ ok) (test_val h.1)
theorem ckW_ok {a : E} {op : BoolOp} {xs : List Expr} {pos : Pos} (R : RecOk G wd k r) (h : ckW r cs a op xs pos = true) (ok : OkX G wd k cs X W) : PW X (.BoolOp op xs pos) (tT G W wd a) := by
  unfold ckW at h
  split at h
  · cases op with
    | And => exact t_an1 (R _ _ h _ _ ok)
    | Or => exact t_orr1 (R _ _ h _ _ ok)
  · simp only [Bool.and_eq_true] at h
    exact t_an (R _ _ h.1 _ _ ok) (R _ _ h.2 _ _ ok)
  · simp only [Bool.and_eq_true] at h
    exact t_orr (R _ _ h.1 _ _ ok) (R _ _ h.2 _ _ ok)
  · cases h
theorem ckI_ok {a : It} {tg x : Expr} (R : RecOk G wd k r) (h : ckI r cs a tg x = true) (ok : OkX G wd k cs X W) : PI X tg x (tI G W wd a) := by
  unfold ckI at h
  split at h
  · simp only [Bool.and_eq_true] at h
    obtain ⟨e, g, m⟩ := ok.bl h.1.1
    subst e
    exact s_enu ok.K g m (s_acons (R _ _ h.2 _ _ ok) s_anil (star_cons h.1.2)) (star_cons h.1.2)
  · simp only [Bool.and_eq_true] at h
    obtain ⟨e, g, m⟩ := ok.bl h.1.1.1
    subst e
    exact s_zip ok.K g m (R _ _ h.2 _ _ ok) (star_cons h.1.1.2) (by rw [star_cons h.1.2] <;> rfl)
  · simp only [Bool.and_eq_true, decide_eq_true_eq] at h
    obtain ⟨e, g, m⟩ := ok.bl h.1.1.1
    subst e
    exact s_rng1 h.1.1.2 g m (R _ _ h.2 _ _ ok) (star_cons h.1.2)
  · simp only [Bool.and_eq_true, decide_eq_true_eq] at h
    obtain ⟨⟨⟨⟨h1, h2⟩, h3⟩, h4⟩, h5⟩ := h
    obtain ⟨e, g, m⟩ := ok.bl h1
    subst e
    exact s_rng2 h2 g m (R _ _ h5 _ _ ok) (by rw [star_cons h3, star_cons h4] <;> rfl) (star_cons h4)
  · simp only [Bool.and_eq_true, decide_eq_true_eq] at h
    obtain ⟨⟨⟨⟨⟨h1, h2⟩, h3⟩, h4⟩, h5⟩, h6⟩ := h
    obtain ⟨e, g, m⟩ := ok.bl h1
    subst e
    exact s_rng3 h2 g m (R _ _ h6 _ _ ok) (star_cons h3) (star_any (by simp [h4, h5]))
  · exact s_seq ok.K (R _ _ h _ _ ok)
  · cases h
theorem asgs_len : ∀ {gs : GS} {xs : List MV} {ρ : Env} {μ : Mem}, asgs wd gs xs ρ μ ≠ none → xs.length = gsLen gs
  | .nil, [], _, _, _ => rfl
  | .nil, _ :: _, _, _, h => absurd (by simp [asgs]) h
  | .cons g gs, [], _, _, h => absurd (by simp [asgs]) h
  | .cons g gs, x :: xs, ρ, μ, h => by
    simp only [asgs] at h
    split at h
    · simp [gsLen, asgs_len h]
    · exact absurd rfl h
theorem ckG_ok {a : MI.G} {x : Expr} (R : RecOk G wd k r) (h : ckG r cs a x = true) (ok : OkX G wd k cs X W) : PG X x (tG G wd a) := by
  unfold ckG at h
  split at h
  · simp only [Bool.and_eq_true, Bool.or_eq_true, decide_eq_true_eq] at h
    refine g_nm (by rw [ok.N]; exact ok.nd) (by rw [ok.N]; exact h.1) ?_ ?_
    · rcases h.2 with q | q
      · exact .inl (by rw [ok.sc]; exact q)
      · exact .inr (by rw [ok.sc]; exact q.1)
    · rcases h.2 with q | q
      · exact .inr (by rw [ok.sc]; exact q)
      · exact .inl (ok.fo _ q.2)
  · simp only [Bool.and_eq_true, decide_eq_true_eq] at h
    have hl := assign_len (env := X.env) h.1.1
    exact g_tp ok.K ok.calm (R _ _ h.2 X W ok) hl.1 hl.2 fun xs ρ μ q => (asgs_len q).trans h.1.2
  · simp only [Bool.and_eq_true, Bool.not_eq_true'] at h
    have hu := ok.hu
    exact g_ix (W := W) (by omega) (R _ _ h.1.2 _ _ ok) (R _ _ h.2 _ _ ok) (sub_assign h.1.1)
  · cases h
theorem ck_ok : ∀ n, RecOk G wd k (ck n)
  | 0 => fun cs q h => by simp [ck] at h
  | n + 1 => fun cs q h X W ok => by
    have R : RecOk G wd k (ck n) := ck_ok n
    cases q with
    | e a x => exact ckE_ok R h ok
    | es a xs =>
      have h : ckEs (ck n) cs a xs = true := h
      unfold ckEs at h
      split at h
      · exact s_anil
      · simp only [Bool.and_eq_true] at h
        exact s_acons (R _ _ h.1.2 _ _ ok) (R _ _ h.2 _ _ ok) (star_cons h.1.1)
      · cases h
    | t a x => exact ckT_ok R h ok
    | w a op xs pos => exact ckW_ok R h ok
    | o hh a x =>
      have h : ckO (ck n) cs hh a x = true := h
      unfold ckO at h
      split at h
      · exact o_none
      · exact o_some (R _ _ h _ _ ok)
      · cases h
    | i a tg x => exact ckI_ok R h ok
    | g a x => exact ckG_ok R h ok
    | gs a xs =>
      have h : ckGs (ck n) cs a xs = true := h
      unfold ckGs at h
      split at h
      · exact gs_nil
      · simp only [Bool.and_eq_true] at h
        refine gs_cons (R _ _ h.1.2 X W ok) (R _ _ h.2 X W ok) ?_
        rw [assign_cons h.1.1]; rfl
      · cases h
    | d ks es kxs vs =>
      have h : ckD (ck n) cs ks es kxs vs = true := h
      unfold ckD at h
      split at h
      · exact .nil
      · simp only [Bool.and_eq_true] at h
        refine .cons ?_ (R _ _ h.1.2 _ _ ok) (R _ _ h.2 _ _ ok)
        have hk := h.1.1
        unfold dkey at hk
        split at hk
        · rw [beq_iff_eq] at hk; subst hk; exact pe_int
        · have hk := of_decide_eq_true hk; subst hk; exact pe_str
        · cases hk
      · cases h
    | k a kws =>
      have h : ckK (ck n) cs a kws = true := h
      unfold ckK at h
      split at h
      · exact s_knil
      · simp only [Bool.and_eq_true] at h
        exact s_kcons (R _ _ h.1.2 _ _ ok) (R _ _ h.2 _ _ ok)
      · cases h
end
end MI
end
section
set_option Elab.async false
set_option linter.all false
set_option maxHeartbeats 8000000
/-! MI: checks of statements. -/
namespace MI
open PySem PySem.Spec PyProof.Rows L2
inductive QS where
  | s (a : S) (x : Stmt) | ss (a : SS) (xs : List Stmt)
def compE : Expr → Bool
  | .ListComp .. | .SetComp .. | .DictComp .. => true
  | _ => false
/-- a target that is no plain local -/
def CS.farT (cs : CS) : Expr → Bool
  | .Name x _ => !(cs.sc.names.lookup x == some .local)
  | _ => true
/-- no swapped stores -/
def CS.swN (cs : CS) : Expr → Expr → Bool
  | .Tuple ts _ _, .Tuple vs _ _ => vs.all (foldedForSure 8) || ts.any cs.farT
  | .List _ _, .Tuple _ _ _ => false
  | _, _ => true
/-- a comprehension that may get a place -/
def lcOf : E → Option (List Nat × It × MI.G × E × E)
  | .lcm own it g c e => some (own, it, g, c, e)
  | .chg (.lcm own it g c e) => some (own, it, g, c, e)
  | _ => none
/-- names and nothing else -/
def namesOf : List Expr → Option (List (Str × Pos))
  | [] => some []
  | .Name x p :: xs => (namesOf xs).map ((x, p) :: ·)
  | _ => none
theorem namesOf_eq : ∀ {xs : List Expr} {ys : List (Str × Pos)}, namesOf xs = some ys → xs = ys.map fun p => .Name p.1 p.2
  | [], ys, h => by simp [namesOf] at h; subst h; rfl
  | x :: xs, ys, h => by
    cases x with
    | Name y p =>
      simp only [namesOf] at h
      obtain ⟨zs, hz, rfl⟩ := Option.map_eq_some_iff.mp h
      rw [namesOf_eq hz]
      rfl
    | _ => simp [namesOf] at h
/-- the clauses of a try, in the text -/
def ckHs (cs : CS) (n z : Str) : List (Nat × Str × Str) → List ExceptHandler → Bool
  | [], [] => true
  | (d, s, f) :: hs, .ExceptHandler (some (.Name x _)) (some n1) [.Assign [.Name z1 _] (.List [.Constant (.str s1) _ _, .Attribute (.Name n2 _) f1 _] _) _] _ :: hr => decide (n1 = n) && decide (z1 = z) && decide (s1 = s) && decide (n2 = n) && decide (f1 = f) && cs.glx x && nd x && (match cs.gl.lookup x with
    | some (.cls d1 _) => decide (d1 = d)
    | _ => false) && ckHs cs n z hs hr
  | _, _ => false
def ckTrc (cs : CS) (p j nn : Nat) (w : Str) (hs : List (Nat × Str × Str)) (z w1 a : Str) (hr : List ExceptHandler) : Bool :=
  cs.hd && decide (p = 0) && decide (cs.N[0]? = some a) && decide (cs.N[j]? = some z) && decide (cs.sc.names.lookup z = some .local) && decide (w1 = w) && !hr.isEmpty && (match cs.N[nn]? with
    | some n => decide (cs.sc.names.lookup n = some .local) && nd n && ncd n && ckHs cs n z hs hr
    | none => false)
section
variable (c : CS → Q → Bool) (r : QS → Bool) (cs : CS)
def ckTra (p i j nn : Nat) (ds : List Nat) (y a n z n' : Str) (xs : List Expr) : Bool :=
  cs.hd && decide (p = 0) && decide (cs.N[0]? = some a) && decide (cs.N[i]? = some y) && decide (cs.sc.names.lookup y = some .local) && decide (cs.N[j]? = some z) && decide (cs.sc.names.lookup z = some .local) && decide (cs.N[nn]? = some n) && decide (cs.sc.names.lookup n = some .local) && decide (n' = n) && nd n && ncd n &&
    decide (xs.length = ds.length) && decide (ds.length = 3) && (match namesOf xs with
      | some ys => (ys.zip ds).all fun q => cs.glx q.1.1 && nd q.1.1 && (match cs.gl.lookup q.1.1 with
        | some (.cls d _) => decide (d = q.2)
        | _ => false)
      | none => false)
def ckPar (i j : Nat) (a b : E) (x y : Str) (px py : Pos) (u v : Expr) : Bool :=
  decide (cs.N[i]? = some x) && decide (cs.N[j]? = some y) && decide (i ≠ j) && !(x == y) && !(y == x) && decide (cs.sc.names.lookup x = some .local) && decide (cs.sc.names.lookup y = some .local) && decide (cs.sc.kind = .function) && (px.line == py.line) && (px.line == px.line) &&
    !(foldedForSure 8 u && foldedForSure 8 v) && !(constantsAlone 8 u && constantsAlone 8 v) && plainE u && plainE v && c cs (.es (.cons a (.cons b .nil)) [u, v])
def ckSt : S → Stmt → Bool
  | .asg g a, .Assign [tg] v spos => (match g, a, tg, v with
    | .tp (.cons (.nm i) (.cons (.nm j) .nil)), .tup (.cons a (.cons b .nil)), .Tuple [.Name x px, .Name y py] _ _, .Tuple [u, v] _ _ => ckPar c cs i j a b x y px py u v
    | _, _, _, _ => false) || (match g, tg, v with
    | .nm i, .Name y py, .ListComp elt [⟨lt, iter, ifs, 0⟩] scope pos => decide (cs.N[i]? = some y) && decide (cs.sc.names.lookup y = some .local) && decide (cs.sc.kind = .function) && (py.line == pos.line) && !(scope.names.any fun (n, k) => n == y && (k == .local || k == .cell)) && (match lcOf a with
      | some (own, it, g, t, e) => blkC cs.N cs.sc scope (ownN cs.N own) && (gNames g).all (fun i => decide (i ∈ own)) && !setE iter && c cs (.i it lt iter) && c (cs.blk scope) (.g g lt) && c (cs.blk scope) (.e e elt) && (match ifs with
        | [] => (match t with
          | .con (.bl true) => true
          | _ => false)
        | [x] => c (cs.blk scope) (.t t x)
        | _ => false)
      | none => false)
    | _, _, _ => false) || ((!compE v || cs.farT tg) && cs.swN tg v && plainE tg && c cs (.e a v) && c cs (.g g tg))
  | .ex a, .Expr v _ => !compE v && c cs (.e a v)
  | .ret a, .Return (some v) _ => c cs (.e a v)
  | .ret (.con .non), .Return none _ => true
  | .ite t a b, .If x u v _ => c cs (.t t x) && r (.ss a u) && r (.ss b v)
  | .whl t a, .While x u [] _ => c cs (.t t x) && r (.ss a u)
  | .fr g it a, .For tg iter u [] _ => !setE iter && c cs (.i it tg iter) && c cs (.g g tg) && r (.ss a u)
  | .brk, .Break _ => true
  | .cnt, .Continue _ => true
  | .pas, .Pass _ => true
  | .nev, _ => true
  | .rai a e, .Raise (some (.Call (.Name x _) [y] [] _)) none _ => cs.glx x && nd x && (match cs.gl.lookup x with
    | some (.cls d true) => decide (a = d)
    | _ => false) && plainE y && c cs (.es (.cons e .nil) [y])
  | .tra p i j nn ds, .Try [.Assign [.Name y _] (.Call (.Name a _) [] [] _) _] [.ExceptHandler (some (.Tuple xs _ _)) (some n) [.Assign [.Name z _] (.Name n' _) _] _] [] [] _ => ckTra cs p i j nn ds y a n z n' xs
  | .trc p j nn w hs, .Try [.Assign [.Name z _] (.List [.Constant (.str w1) _ _, .Call (.Name a _) [] [] _] _) _] hr [] [] _ => ckTrc cs p j nn w hs z w1 a hr
  | _, _ => false
end
/-- n: how deep statements lie, m: how deep expressions -/
def ckS (m : Nat) (cs : CS) : Nat → QS → Bool
  | 0, _ => false
  | n + 1, q => match q with
    | .s a x => ckSt (ck m) (ckS m cs n) cs a x
    | .ss .nil [] => true
    | .ss (.cons a as) (x :: xs) => ckS m cs n (.s a x) && ckS m cs n (.ss as xs)
    | _ => false
theorem swaps_no {v : Expr} {t : Option Expr} {l : Nat} {env : PySem.Env} (h : compE v = false) : swapsWith v t l env = pure false := by
  cases v <;> first | rfl | (simp [compE] at h)
theorem swaps_far {cs : CS} {v tg : Expr} {l : Nat} {env : PySem.Env} (he : env.scope = cs.sc) (h : cs.farT tg = true) : swapsWith v (some tg) l env = pure false := by
  cases tg with
  | Name y p =>
    have k : (env.kindOf y == some .local) = false := by
      unfold PySem.Env.kindOf
      rw [he]
      simpa [CS.farT] using h
    cases v <;> first | rfl | (show (pure (env.blockKind == .function && env.kindOf y == some .local && _ && _) : Sem Bool) = pure false; rw [k, Bool.and_false, Bool.false_and, Bool.false_and])
  | _ => cases v <;> rfl
theorem far_len {cs : CS} {env : PySem.Env} {line : Nat} (he : env.scope = cs.sc) : ∀ {ts : List Expr}, ts.any cs.farT = true → (ts.filterMap fun
    | .Name id pos => if (env.kindOf id == some .local && pos.line == line) = true then some id else none
    | _ => none).length < ts.length
  | [], h => by simp at h
  | t :: ts, h => by
    have le : ∀ l : List Expr, (l.filterMap fun
      | .Name id pos => if (env.kindOf id == some .local && pos.line == line) = true then some id else none
      | _ => none).length ≤ l.length := fun l => List.length_filterMap_le _ _
    by_cases ht : cs.farT t = true
    · rw [List.filterMap_cons_none]
      · exact Nat.lt_succ_of_le (le ts)
      · cases t with
        | Name y p =>
          have k : (env.kindOf y == some .local) = false := by
            unfold PySem.Env.kindOf
            rw [he]
            simpa [CS.farT] using ht
          simp [k]
        | _ => rfl
    · have h2 : ts.any cs.farT = true := by
        simp only [List.any_cons, Bool.or_eq_true] at h
        exact h.resolve_left ht
      have ih := far_len (line := line) he h2
      rw [List.filterMap_cons]
      split
      · exact Nat.lt_succ_of_lt ih
      · simp only [List.length_cons]
        omega
theorem stores_no {cs : CS} {tg v : Expr} {env : PySem.Env} (he : env.scope = cs.sc) (h : cs.swN tg v = true) : swappedStores [tg] v env = pure none := by
  unfold CS.swN at h
  split at h
  · rename_i ts k1 p1 vs k2 p2
    simp only [Bool.or_eq_true] at h
    rcases h with h | h
    · unfold swappedStores
      simp only [h, if_true, pure_bind]
      repeat' split
      all_goals first | rfl | contradiction | simp_all
    · have hl := far_len (line := (ts.head?.map (·.pos.line)).getD 0) he h
      unfold swappedStores
      have e : ((ts.filterMap fun
        | .Name id pos => if (env.kindOf id == some .local && pos.line == (ts.head?.map (·.pos.line)).getD 0) = true then some id else none
        | _ => none).length != ts.length) = true := by
        rw [bne_iff_ne]
        exact Nat.ne_of_lt hl
      dsimp only
      split
      · rfl
      · split
        · rfl
        · split
          · rfl
          · rename_i zz
            exact (zz ((Bool.or_eq_true _ _).mpr (.inl e))).elim
  · cases h
  · rename_i h1 h2
    unfold swappedStores
    cases tg <;> first | rfl | (cases v <;> first | rfl | exact absurd rfl (h1 _ _ _ _ _ _ rfl) | exact absurd rfl (h2 _ _ _ _ _ rfl))
theorem stores_two {x y : Str} {u v : Expr} {px py p1 p2 : Pos} {k1 k2 : Nat} {env : PySem.Env} (hx : env.scope.names.lookup x = some .local) (hy : env.scope.names.lookup y = some .local) (hk : env.scope.kind = .function) (hl : (px.line == py.line) = true) (hxy : (x == y) = false) (hyx : (y == x) = false)
    (hf : (foldedForSure 8 u && foldedForSure 8 v) = false) (hc : (constantsAlone 8 u && constantsAlone 8 v) = false) (hu : plainE u = true) (hv : plainE v = true) : swappedStores [.Tuple [.Name x px, .Name y py] k1 p1] (.Tuple [u, v] k2 p2) env = pure (some [x, y]) := by
  have b : env.blockKind = .function := by
    unfold PySem.Env.blockKind
    rw [hk]; rfl
  have hl' : (py.line == px.line) = true := by rw [beq_iff_eq] at hl ⊢; exact hl.symm
  unfold swappedStores
  simp only [List.length_cons, List.length_nil, List.any_cons, List.any_nil, Bool.or_false, b, List.head?_cons, Option.map_some, Option.getD_some, List.filterMap_cons, List.filterMap_nil, PySem.Env.kindOf, hx, hy, List.all_cons, List.all_nil, Bool.and_true, hf, hc]
  simp [PySem.Expr.pos, hl', List.eraseDups_cons, hxy, hyx]
  rintro (z | z) <;> exfalso
  · cases u <;> first | (simp [plainE] at hu; done) | (cases z; done)
  · cases v <;> first | (simp [plainE] at hv; done) | (cases z; done)
structure OkS (G : GI) (wd : Wd) (k : Nat) (cs : CS) (X : Cx) (W : WX) : Prop where
  ok : OkX G wd k cs X W
  own : PassesOwn (model X.prog X.w) X.A X.env X.xe
  tra : cs.hd = true → ActOk X G wd
def SaysS (G : GI) (W : WX) (wd : Wd) (X : Cx) : QS → Prop
  | .s a x => PS X x (tS G W wd a)
  | .ss a xs => PSs X xs (tSs G W wd a)
section
variable {G : GI} {wd : Wd} {k : Nat} {cs : CS} {X : Cx} {W : WX} {c : CS → Q → Bool} {r : QS → Bool}
theorem ckHs_ok {n z : Str} {j nn : Nat} (ox : OkX G wd k cs X W) (hj : X.N[j]? = some z) (hlz : X.env.kindOf z = some .local) (hn : X.N[nn]? = some n) (hln : X.env.kindOf n = some .local) (hdn : (n == ("__debug__" : Str)) = false) (hcn : (n == ("__classdict__" : Str)) = false) :
    ∀ (hs : List (Nat × Str × Str)) (hr : List ExceptHandler), ckHs cs n z hs hr = true → ∃ L : List (Hdl × (Addr → Value → Option Addr → TS)), hr = L.map (fun p => p.1.mk1 n) ∧ HdRel G.K G.cls j nn hs L ∧
      ∀ p ∈ L, Gl X p.1.x ∧ X.mg p.1.x = some (.ref p.1.c) ∧ (p.1.x == ("__debug__" : Str)) = false ∧ ∀ (a : Addr) (oe : Obj) (cls : Value) (d : Option Addr) (pn : List (Addr × Obj)), Zc cls d oe → (∃ vs, oe.data = .fields vs) → PSs (X.suite a ((a, oe) :: pn)) [p.1.st] (p.2 a cls d) := by
  intro hs
  induction hs with
  | nil =>
    intro hr h
    cases hr with
    | nil => exact ⟨[], rfl, .nil, fun p hp => absurd hp List.not_mem_nil⟩
    | cons x xs => simp [ckHs] at h
  | cons e hs ih =>
    intro hr h
    obtain ⟨d, s, f⟩ := e
    unfold ckHs at h
    split at h
    · contradiction
    · rename_i d0 s0 f0 hs0 x0 np0 n1 z1 p1 s1 ks0 q0 n2 p2 f1 p3 p4 p5 p6 hr0 e0
      cases e0
      simp only [Bool.and_eq_true, decide_eq_true_eq] at h
      obtain ⟨⟨⟨⟨⟨⟨⟨⟨rfl, rfl⟩, rfl⟩, rfl⟩, rfl⟩, h6⟩, h7⟩, h8⟩, h9⟩ := h
      split at h8
      · rename_i d1 rs e1
        have h8 := of_decide_eq_true h8
        subst h8
        obtain ⟨L, q1, q2, q3⟩ := ih _ h9
        refine ⟨(⟨_, G.cls d1, _, _, _⟩, tsH G.K j nn _ _) :: L, by rw [q1]; rfl, .cons rfl q2, fun p hp => ?_⟩
        rcases List.mem_cons.mp hp with rfl | hp
        · refine ⟨ox.gx h6, (ox.gl _ _ e1).1, nd_of h7, fun a oe cls d pn hz hf => ?_⟩
          have := suite_ok (X := X) (j := j) (nn := nn) (s := s1) (f := f1) (ks := ks0) (p5 := p1) (p6 := p5) (q1 := q0) (q2 := p2) (q3 := p3) (q4 := p4) (by rw [ox.N]; exact ox.nd) hj hlz hn hln hdn hcn (base_plain rfl) a oe cls d pn hz hf
          rw [ox.K] at this
          exact this
        · exact q3 p hp
      · cases h8
    · cases h
theorem ckSt_ok {a : S} {x : Stmt} (C : RecOk G wd k c) (R : ∀ q, r q = true → SaysS G W wd X q) (h : ckSt c r cs a x = true) (ok : OkS G wd k cs X W) : PS X x (tS G W wd a) := by
  have ox := ok.ok
  unfold ckSt at h
  split at h
  · rename_i g a tg v spos
    simp only [Bool.or_eq_true] at h
    rcases h with (h | h) | h
    · split at h
      · unfold ckPar at h
        simp only [Bool.and_eq_true, Bool.not_eq_true', decide_eq_true_eq] at h
        obtain ⟨⟨⟨⟨⟨⟨⟨⟨⟨⟨⟨⟨⟨⟨h1, h2⟩, h3⟩, h4⟩, h5⟩, h6⟩, h7⟩, h8⟩, h9⟩, _⟩, h10⟩, h11⟩, h12⟩, h13⟩, h14⟩ := h
        exact s_par ox.calm (by rw [ox.N]; exact ox.nd) (by rw [ox.N]; exact h1) (by rw [ox.N]; exact h2) h3 (by rw [ox.sc]; exact h6) (by rw [ox.sc]; exact h7) (C _ _ h14 _ _ ox)
          (stores_two (by rw [ox.sc]; exact h6) (by rw [ox.sc]; exact h7) (by rw [ox.sc]; exact h8) h9 h4 h5 h10 h11 h12 h13) rfl
      · cases h
    · split at h
      · rename_i i y py elt lt iter ifs scope pos
        simp only [Bool.and_eq_true, Bool.not_eq_true', decide_eq_true_eq] at h
        obtain ⟨⟨⟨⟨⟨h1, h2⟩, h3⟩, h4⟩, h5⟩, h6⟩ := h
        split at h6
        · rename_i own it g t e hlc
          simp only [Bool.and_eq_true, Bool.not_eq_true', List.all_eq_true, decide_eq_true_eq] at h6
          obtain ⟨⟨⟨⟨⟨⟨g1, g2⟩, g3⟩, g4⟩, g5⟩, g6⟩, g7⟩ := h6
          obtain ⟨p1, p2, p3, p4, p5, p6⟩ := lc_parts C ox g1 g4 g5 g6 g7
          have hsw : swapsWith (.ListComp elt [⟨lt, iter, ifs, 0⟩] scope pos) (some (.Name y py)) spos.line X.env = pure true := by
            have e1 : (X.env.blockKind == .function && X.env.kindOf y == some .local && py.line == pos.line && !(scope.names.any fun (n, k) => n == y && (k == .local || k == .cell))) = true := by
              have b : X.env.blockKind = .function := by
                unfold PySem.Env.blockKind
                rw [ox.sc, h3]; rfl
              have kk : X.env.kindOf y = some .local := by
                unfold PySem.Env.kindOf
                rw [ox.sc]; exact h2
              rw [b, kk, h4, h5]
              rfl
            show (pure (X.env.blockKind == .function && X.env.kindOf y == some .local && py.line == pos.line && !(scope.names.any fun (n, k) => n == y && (k == .local || k == .cell))) : Sem Bool) = pure true
            rw [e1]
          have q := ps_setLc (spos := spos) ox.calm (by rw [ox.N]; exact ox.nd) (by rw [ox.N]; exact h1) (by rw [ox.sc]; exact h2) hsw p1 p2 p3 p4 p5 (set_plain g3)
          rw [p6] at q
          refine psW q fun D σ H z => ?_
          have fin : ∀ {Q : VK}, tE G W wd a σ H Q → tLc (tI G W wd it) (tG G wd g) (tT G W0 wd t) (tE G W0 wd e) own σ H Q := fun {Q} z => by
            unfold lcOf at hlc
            split at hlc
            · cases hlc
              exact lcm_of g2 z
            · cases hlc
              exact lcm_of g2 (chg_of rfl z)
            · cases hlc
          obtain ⟨B, ι, μ, ρ, er, hr, z⟩ := asg_of z
          refine fin ⟨B, ι, μ, ρ, er, hr, z.mono (fun v μ' q w H' ι' e1 e2 e3 e4 => ?_) fun _ _ q => q⟩
          obtain ⟨B2, ι2, μ2, ρ2, x2, ρ3, μ3, er2, hr2, r2, ha, q2⟩ := q w H' ι' e1 e2 e3 e4
          simp only [asg] at ha
          split at ha
          · cases ha
            refine q2 _ _ ι2 Ext.refl hr2 (er2.put r2) (by simp) fun j hj => ?_
            rw [List.getElem?_set_ne]
            rintro rfl
            exact hj (by simp [gNames])
          · cases ha
        · cases h6
      · cases h
    · simp only [Bool.and_eq_true, Bool.not_eq_true', Bool.or_eq_true] at h
      obtain ⟨⟨⟨⟨h1, h2⟩, h3⟩, h4⟩, h5⟩ := h
      refine s_asg (C _ _ h4 _ _ ox) (C _ _ h5 X W ox) (h1.elim (fun z => swaps_no z) fun z => swaps_far ox.sc z) (stores_no ox.sc h2) ?_
      rw [assign_cons h3]; rfl
  · simp only [Bool.and_eq_true, Bool.not_eq_true'] at h
    exact s_ex (C _ _ h.2 _ _ ox) (swaps_no h.1)
  · exact s_ret (C _ _ h _ _ ox)
  · exact s_retN
  · simp only [Bool.and_eq_true] at h
    exact s_ite (C _ _ h.1.1 _ _ ox) (R _ h.1.2) (R _ h.2)
  · simp only [Bool.and_eq_true] at h
    exact s_whl ok.own (C _ _ h.1 _ _ ox) (R _ h.2)
  · simp only [Bool.and_eq_true, Bool.not_eq_true'] at h
    exact s_fr ok.own ox.calm (C _ _ h.1.1.2 _ _ ox) (C _ _ h.1.2 X W ox) (R _ h.2) (set_plain h.1.1.1)
  · exact s_brk
  · exact s_cnt
  · exact s_pas
  · exact s_nev
  · simp only [Bool.and_eq_true] at h
    obtain ⟨⟨⟨⟨h1, h2⟩, h3⟩, h4⟩, h5⟩ := h
    split at h3
    · rename_i d e
      have h3 := of_decide_eq_true h3
      subst h3
      obtain ⟨m, T⟩ := ox.gl _ _ e
      exact s_rai ox.K ox.calm ox.tk (T rfl) ox.room (C _ _ h5 _ _ ox) (ox.gx h1) m (nd_of h2) (star_cons h4)
    · cases h3
  · unfold ckTra at h
    simp only [Bool.and_eq_true, decide_eq_true_eq] at h
    obtain ⟨⟨⟨⟨⟨⟨⟨⟨⟨⟨⟨⟨⟨⟨g1, rfl⟩, g3⟩, g4⟩, g5⟩, g6⟩, g7⟩, g8⟩, g9⟩, rfl⟩, g11⟩, g12⟩, g13⟩, g14⟩, g15⟩ := h
    split at g15
    · rename_i ys hys
      have hx := namesOf_eq hys
      subst hx
      obtain ⟨hs, hf, hex, f, c', q, a', act, tl, e1, e2, e3, hp, htl⟩ := ok.tra g1
      rw [ox.N, g3] at e3
      cases e3
      simp only [List.all_eq_true] at g15
      refine s_tra ox.K ox.cl e1 e2 hs hf hex (by rw [ox.N]; exact ox.nd) (by rw [ox.N]; exact g4) (by unfold PySem.Env.kindOf; rw [ox.sc]; exact g5) (by rw [ox.N]; exact g6) (by unfold PySem.Env.kindOf; rw [ox.sc]; exact g7) (by rw [ox.N]; exact g8) (by unfold PySem.Env.kindOf; rw [ox.sc]; exact g9) (nd_of g11) (ncd_of g12) (fun W' pn xe E => hp _ _ W' pn xe E) htl (by simpa using g13) g14 fun p hp => ?_
      rw [List.zip_map_right] at hp
      obtain ⟨p0, hp0, rfl⟩ := List.mem_map.mp hp
      have z := g15 p0 hp0
      simp only [Bool.and_eq_true] at z
      obtain ⟨⟨z1, z2⟩, z3⟩ := z
      split at z3
      · rename_i d rs e
        have z3 := of_decide_eq_true z3
        subst z3
        exact ⟨ox.gx z1, (ox.gl _ _ e).1, nd_of z2⟩
      · cases z3
    · cases g15
  · unfold ckTrc at h
    simp only [Bool.and_eq_true, decide_eq_true_eq] at h
    obtain ⟨⟨⟨⟨⟨⟨⟨g1, rfl⟩, g3⟩, g4⟩, g5⟩, rfl⟩, g7⟩, g8⟩ := h
    split at g8
    · rename_i n gn
      simp only [Bool.and_eq_true, decide_eq_true_eq] at g8
      obtain ⟨⟨⟨k1, k2⟩, k3⟩, k4⟩ := g8
      obtain ⟨hs, hf, hex, f, c', q, a', act, tl, e1, e2, e3, hp, htl⟩ := ok.tra g1
      rw [ox.N, g3] at e3
      cases e3
      have hj := g4
      rw [← ox.N] at hj
      have hlz := g5
      rw [← ox.sc] at hlz
      have hn := gn
      rw [← ox.N] at hn
      have hln := k1
      rw [← ox.sc] at hln
      obtain ⟨L, q1, q2, q3⟩ := ckHs_ok ox hj hlz hn hln (nd_of k2) (ncd_of k3) _ _ k4
      cases L with
      | nil => rw [q1] at g7; simp at g7
      | cons p0 L =>
        rw [q1]
        exact s_trc ox.K ox.cl e1 e2 hs hf (by rw [ox.N]; exact ox.nd) hj hlz hn hln (fun W' pn xe E => hp _ _ W' pn xe E) htl q2 q3
    · cases g8
  · cases h
theorem ckS_ok {m : Nat} (ok : OkS G wd k cs X W) : ∀ n q, ckS m cs n q = true → SaysS G W wd X q
  | 0, q, h => by simp [ckS] at h
  | n + 1, q, h => by
    have R := ckS_ok (m := m) ok n
    cases q with
    | s a x => exact ckSt_ok (ck_ok m) R h ok
    | ss a xs =>
      cases a with
      | nil =>
        cases xs with
        | nil => exact ss_nil
        | cons _ _ => simp [ckS] at h
      | cons a as =>
        cases xs with
        | nil => simp [ckS] at h
        | cons x xs =>
          simp only [ckS, Bool.and_eq_true] at h
          exact ss_cons (R _ h.1) (R _ h.2)
end
end MI
end
section
set_option Elab.async false
set_option linter.all false
set_option maxHeartbeats 8000000
/-! MI: defs, all of them at once. -/
namespace MI
open PySem PySem.Spec PyProof.Rows L2
/-- a plain default as a value -/
def dvV : MV → V
  | .bl b => .bl b
  | .int i => .int i
  | .str s => .str s
  | _ => .non
def dvOk : MV → Bool
  | .non | .bl _ | .int _ | .str _ => true
  | _ => false
theorem dv_rv {G : GI} {B ι : List Addr} {H : Hp} : ∀ {ds : List MV}, ds.all dvOk = true → RVs G B ι H ds (ds.map dvV)
  | [], _ => .nil
  | d :: ds, h => by
    simp only [List.all_cons, Bool.and_eq_true] at h
    refine .cons ?_ (dv_rv h.2)
    cases d <;> first | (simp [dvOk] at h; done) | constructor
/-- where its lambdas' codes stand -/
def LmF (G : GI) (base : Heap) (mg : Str → Option Value) (fd : FuncData) (qual : Str) (scope : Scope) : Prop := G.ρ0 = [] ∧ G.σ0 = [] ∧ G.cd = [] ∧ ∃ c tb, fd.code = .ref c ∧ LamX.TabB base mg c tb ∧
  ∀ L f cd, (tb, (envOfC qual scope L f cd).qual ++ "<lambda>") ∈ G.T ∧ ∀ p ∈ G.T, p.1 = tb → p.2 = (envOfC qual scope L f cd).qual ++ "<lambda>"
/-- a def of the text and its program -/
structure DefOk (G : GI) (base : Heap) (mg : Str → Option Value) (T : List Fn) (gl : List (Str × GE)) (bi : List Str) (x : Str) (f np : Nat) (dvs : List MV) (sg : List (List Str × List Nat)) : Prop where
  ex : ∃ (fa : Addr) (fd : FuncData) (qual : Str) (params : Arguments) (body : List Stmt) (scope : Scope) (F : Fn) (N ps : List Str) (m n : Nat) (lm : Bool), FunD G.K x qual params body scope (dvs.map dvV) [] fa fd ∧ (lm = true → LmF G base mg fd qual scope) ∧ mg x = some (.ref fa) ∧ T[f]? = some F ∧ FnScope N ps scope ∧ ps.length = F.np ∧ F.np = np ∧ N.length = F.ns ∧ N.Nodup ∧
    (∀ j, ∃ us, Vals ((dvs.drop j).map dvV) us ∧ Binds G.K fd ps us) ∧ (∀ p ∈ sg, KBn G.K fd ps 0 p.1 (fun _ ws => pick p.2 ws) (fun _ zs => pick p.2 zs)) ∧ ckS m { N := N, sc := scope, fo := fun _ => true, gl := gl, bi := bi, lm := lm } n (.ss F.body body) = true
  dv : dvs.all dvOk = true
/-- what a body sees -/
noncomputable abbrev wdAt (sub : Nat → Nat → Option Bool) (fld : Nat → Str) (fu : Option Nat) (T : List Fn) (d : Nat) (a : Option (Nat × (Mem → R MV))) : Wd := ⟨sub, fld, fu, fun g ws ν => den sub fld fu T d none g ws ν, fun g h ν => den sub fld fu T d (some (0, h)) g [.thk 0] ν, a⟩
/-- the def that hears -/
structure HrDef (G : GI) (mg : Str → Option Value) (sub : Nat → Nat → Option Bool) (fld : Nat → Str) (fu : Option Nat) (T : List Fn) (glh : List (Str × GE)) (bi : List Str) (x : Str) (f : Nat) : Prop where
  ex : ∃ (g : Addr) (pg : Arguments) (bg : List Stmt) (sg : Scope) (dV kV doc pm cdv ct oc : Value) (an od : Option Addr) (osl : Array (Option Value)) (Ng : List Str) (a : Str) (F : Fn) (m n : Nat),
    mg x = some (.ref g) ∧ PySem.W.keepIn G.K (.ref g) = true ∧ G.K.lookup g = some ⟨oc, od, .func (PySem.W.fnOf x x pg bg sg dV kV doc pm an cdv ct), osl⟩ ∧ PySem.W.codeIn G.K cdv x = true ∧ L2.Binds G.K (PySem.W.fnOf x x pg bg sg dV kV doc pm an cdv ct) [a] [] ∧
    FnScope Ng [a] sg ∧ Ng[0]? = some a ∧ Vis sg a ∧ (a == ("__debug__" : Str)) = false ∧ (a == ("__classdict__" : Str)) = false ∧ T[f]? = some F ∧ F.np = 1 ∧ F.ns = Ng.length ∧ Ng.Nodup ∧
    ckS m { N := Ng, sc := sg, fo := fun _ => true, gl := glh, bi := bi, hd := true } n (.ss F.body bg) = true ∧
    ∀ d f0 h μ, outc (execs (wdAt sub fld fu T d (some (f0, h))) F.body (some (.thk f0) :: List.replicate (F.ns - 1) none) μ) = outc (execs (wdAt sub fld fu T d (some (0, h))) F.body (some (.thk 0) :: List.replicate (F.ns - 1) none) μ)
structure ProgOk (P : Program) (G : GI) (base : Heap) (mg : Str → Option Value) (sub : Nat → Nat → Option Bool) (fld : Nat → Str) (fu : Option Nat) (T : List Fn) (gl glh : List (Str × GE)) (bi : List Str) : Prop where
  gl : ∀ x g, gl.lookup x = some g → match g with
    | .con v => ∃ u, mg x = some u ∧ ConOk G v u
    | .fn f np dvs sg => DefOk G base mg T gl bi x f np dvs sg
    | .cls c rs => mg x = some (.ref (G.cls c)) ∧ (rs = true → MkT P G.K (G.cls c) (G.fld c))
    | .hr f => HrDef G mg sub fld fu T glh bi x f
  glh : ∀ x g, glh.lookup x = some g → match g with
    | .con v => ∃ u, mg x = some u ∧ ConOk G v u
    | .cls c rs => mg x = some (.ref (G.cls c)) ∧ (rs = true → MkT P G.K (G.cls c) (G.fld c))
    | _ => False
  bi : ∀ x ∈ bi, mg x = none
  cl : ClsOk G (wdAt sub fld fu T 0 none)
section
variable {G : GI} {P : Program} {w : World} {mg : Str → Option Value} {base : Heap} {T : List Fn} {gl glh : List (Str × GE)} {bi : List Str} {sub : Nat → Nat → Option Bool} {fld : Nat → Str} {fu : Option Nat}
theorem den_len {a : Option (Nat × (Mem → R MV))} {d f : Nat} {F : Fn} {xs : List MV} {μ : Mem} (hT : T[f]? = some F) (h : den sub fld fu T d a f xs μ ≠ none) : xs.length = F.np := by
  cases d with
  | zero => exact absurd rfl h
  | succ d =>
    unfold den at h
    rw [hT] at h
    dsimp only at h
    split at h
    · rename_i z; exact z.1
    · exact absurd rfl h
theorem conOk_at {G : GI} {ρ0 : Env} {σ0 : L2.St} {cd : List (Addr × Str)} {v : MV} {u : Value} (h : ConOk G v u) : ConOk (G.at ρ0 σ0 cd) v u := by
  obtain ⟨w, h1, h2⟩ := h
  exact ⟨w, h1, fun B ι H => (h2 B ι H).sw⟩
/-- it hears, wherever it is called -/
theorem hr_ok (PO : ProgOk P G base mg sub fld fu T gl glh bi) {x : Str} {f : Nat} (hx : gl.lookup x = some (.hr f)) {X : Cx} (hP : X.prog = P) (hK : X.K = G.K) (hm : X.mg = mg) (d k : Nat) : HrK X G (wdAt sub fld fu T d none) k x f := by
  subst hP
  subst hm
  obtain ⟨g, pg, bg, sg, dV, kV, doc, pm, cdv, ct, oc, an, od, osl, Ng, a, F, m, n, h1, h2, h3, h4, h5, h6, h7, h8, h9, h10, h11, h12, h13, h14, h15, h16⟩ := (PO.gl x _ hx).ex
  refine ⟨fun hne => ?_⟩
  cases d with
  | zero =>
    obtain ⟨h, μ, z⟩ := hne
    exact absurd rfl z
  | succ d =>
    have hns : F.np ≤ F.ns := by
      rw [h12, h13]
      exact Nat.succ_le_of_lt ((List.getElem?_eq_some_iff.mp h7).1)
    refine ⟨g, pg, bg, sg, dV, kV, doc, pm, cdv, ct, oc, an, od, osl, Ng, a, F.body, fun f0 h => wdAt sub fld fu T d (some (f0, h)), h1, by rw [hK]; exact h2, by rw [hK]; exact h3, by rw [hK]; exact h4, by rw [hK]; exact h5, h6, h7, h8, h9, h10, fun f0 h μ => ?_, fun _ _ => rfl, fun A outer s H f0 h ρ0 σ0 cd hr act => ?_⟩
    · rw [← h13]
      refine Eq.trans ?_ (h16 d f0 h μ).symm
      show den sub fld fu T (d + 1) (some (0, h)) f [.thk 0] μ = _
      unfold den
      rw [h11]
      dsimp only
      rw [if_pos ⟨by rw [h12]; rfl, hns⟩]
      rfl
    · refine ckS_ok (X := cxOf C8.CX0 X.prog X.w X.K X.mg X.base Ng x sg g cdv A outer s H C8.E0) (W := W0) (G := G.at ρ0 σ0 cd) (wd := wdAt sub fld fu T d (some (f0, h))) (k := k) (cs := { N := Ng, sc := sg, fo := fun _ => true, gl := glh, bi := bi, hd := true }) (m := m) ⟨⟨rfl, h14, rfl, hK, rfl, hr.mono (Nat.le_succ k), LamX.takes0, fun _ _ => rfl, fun y g' hy => ?_, PO.bi, ?_, fun z => by cases z⟩, ?_, fun _ => act⟩ n _ h15
      · have q := PO.glh y g' hy
        cases g' with
        | con v => obtain ⟨u, q1, q2⟩ := q; exact ⟨u, q1, conOk_at q2⟩
        | cls c rs => exact ⟨q.1, fun z => by rw [show (cxOf C8.CX0 X.prog X.w X.K X.mg X.base Ng x sg g cdv A outer s H C8.E0).K = G.K from hK]; exact q.2 z⟩
        | fn _ _ _ _ => exact q.elim
        | hr _ => exact q.elim
      · exact PO.cl
      · exact passes_of (K := fun e' s'' => C8.CX0 outer H s C8.E0 e' s'') (E₁ := fun e' s'' => C8.CX0 outer H s C8.E0 e' s'') rfl
/-- the level of a def's promise is how deep calls go -/
theorem all_ok (PO : ProgOk P G base mg sub fld fu T gl glh bi) : ∀ d x f np dvs sg, gl.lookup x = some (.fn f np dvs sg) → ∃ (fa : Addr) (fd : FuncData) (ps : List Str), mg x = some (.ref fa) ∧ PySem.W.keepIn G.K (.ref fa) = true ∧ (∀ j, ∃ us, Vals ((dvs.drop j).map dvV) us ∧ Binds G.K fd ps us) ∧ (∀ p ∈ sg, KBn G.K fd ps 0 p.1 (fun _ ws => pick p.2 ws) (fun _ zs => pick p.2 zs)) ∧ dvs.all dvOk = true ∧
    (∃ F, T[f]? = some F ∧ F.np = np) ∧ FnOk P w G.K mg base (L2.CX P w) (3 * d) fa fd ps (spM G (den sub fld fu T d none f) np)
  | 0, x, f, np, dvs, sg, hx => by
    have D := PO.gl x _ hx
    obtain ⟨fa, fd, qual, params, body, scope, F, N, ps, m, n, lm, h1, hlm, h2, h3, h4, h5, h6, h7, h8, h9, hk9, h10⟩ := D.ex
    refine ⟨fa, fd, ps, h2, h1.kp, h9, hk9, D.dv, ⟨F, h3, h6⟩, ⟨fun vs H Q E h => h.1.trans (h6.symm.trans h5.symm), fun A outer s H args us vs Q E _ _ _ _ h => ?_⟩⟩
    obtain ⟨_, B, ι, μ, xs, _, _, z⟩ := h
    exact z.elim
  | d + 1, x, f, np, dvs, sg, hx => by
    have D := PO.gl x _ hx
    obtain ⟨fa, fd, qual, params, body, scope, F, N, ps, m, n, lm, h1, hlm, h2, h3, h4, h5, h6, h7, h8, h9, hk9, h10⟩ := D.ex
    have kp := h1.kp
    obtain ⟨oc, od, dV, kV, doc, pm, an, cdv, ct, osl, rfl, lk, hcd, _, _⟩ := h1.ex
    refine ⟨fa, _, ps, h2, kp, h9, hk9, D.dv, ⟨F, h3, h6⟩, ?_⟩
    refine fn_of (k := 3 * d + 2) lk hcd h4 (fun vs H Q E h => h.1.trans (h6.symm.trans h5.symm)) fun A outer s H vs Q E hr hsp => ?_
    obtain ⟨hl, B, ι, μ, xs, hr0, rs, hsp⟩ := hsp
    refine ⟨tSs G (fun cls d _ H => E cls d H) (wdAt sub fld fu T d none) F.body, ?_, ?_⟩
    · refine ckS_ok (X := cxOf (L2.CX P w) P w G.K mg base N qual scope fa cdv A outer s H E) (W := fun cls d _ H => E cls d H) (G := G) (wd := (wdAt sub fld fu T d none)) (k := 3 * d) (cs := { N := N, sc := scope, fo := fun _ => true, gl := gl, bi := bi, lm := lm }) (m := m) ⟨⟨rfl, h8, rfl, rfl, rfl, hr.mono (by omega), ?_, fun _ _ => rfl, ?_, PO.bi, PO.cl, ?_⟩, ?_, fun z => by cases z⟩ n _ h10
      · exact takes_of rfl rfl rfl (E₁ := fun e' s'' => L2.CX P w outer H s E e' s'') rfl
      · intro y g hy
        cases g with
        | con v => exact PO.gl y _ hy
        | fn f' np' dvs' sg' =>
          obtain ⟨fa', fd', ps', q1, q2, q3, qk, q4, ⟨F', q5, q6⟩, q7⟩ := all_ok PO d y f' np' dvs' sg' hy
          refine ⟨fun j => ?_, fun p hp => ⟨⟨fa', fd', ps', q1, q2, qk p hp, q7⟩⟩, fun xs' μ' z => (den_len q5 z).trans q6⟩
          obtain ⟨us, v1, v2⟩ := q3 j
          exact ⟨⟨fa', fd', ps', us, (dvs'.drop j).map dvV, q1, q2, v2, v1, fun B ι H => dv_rv (by
            rw [List.all_eq_true] at q4 ⊢
            exact fun y hy => q4 y (List.mem_of_mem_drop hy)), q7⟩⟩
        | cls c rs => exact PO.gl y _ hy
        | hr f' => exact hr_ok PO hy rfl rfl rfl d (3 * d)
      · intro z
        obtain ⟨z0, z1, z2, c, tb, hc, TB, hT⟩ := hlm z
        have q := hT s.heap.objs.size fa cdv
        exact ⟨hr, z0, z1, z2, c, tb, hc, TB, q.1, q.2⟩
      · exact passes_of (K := fun e' s'' => L2.CX P w outer H s E e' s'') (E₁ := fun e' s'' => L2.CX P w outer H s E e' s'') rfl
    · refine ⟨B, ι, μ, xs.map some ++ List.replicate (F.ns - xs.length) none, start_er rs h7, hr0, ?_⟩
      unfold den at hsp
      rw [h3] at hsp
      dsimp only at hsp
      split at hsp
      · unfold outc at hsp
        split at hsp
        · rename_i v μ' e
          rw [e]
          exact fun w H' ι' a b c => hsp w H' ι' a b c
        · rename_i ρ' μ' e
          rw [e]
          exact fun σ' H' ι' a b c => hsp .non H' ι' a b .non
        · rename_i x' ρ' μ' e
          rw [e]
          exact fun cls dd σ' H' ι' a b c r => hsp cls dd H' ι' a b r
        · exact hsp.elim
      · exact hsp.elim
end
end MI
end
section
set_option Elab.async false
set_option linter.all false
set_option maxHeartbeats 8000000
/-! MI: the head's hook: defs, own errors, the law's table of code objects. -/
namespace MI
open PySem PySem.Spec PyProof.Rows L2 PySem.HandSPX
open He (Fa DefD frT frT_in frT_mem frT_none emptyTab emptyTab_eq obsD valD SaysD AlD Defn cT tabsB asD ga ma eqO eqO_ok ba)
/-- an own error that is raised: its class, its field, its __init__ -/
structure RsD where
  cls : Str
  f : Str
  qual : Str
  params : Arguments
  body : List Stmt
  scope : Scope
abbrev InW : Type := Option (Str × Str × Arguments × FuncBody × Scope × Addr × List Str × Addr)
def RsD.cAd (r : RsD) (K : PySem.W.Frag) : Addr := ga K r.cls
def RsD.iAd (r : RsD) (K : PySem.W.Frag) : Addr := ma K (ga K r.cls) "__init__"
def iW (K : PySem.W.Frag) (a : Addr) : InW := match K.lookup a with
  | some ⟨_, _, .func fd, _⟩ => some (fd.name, fd.qualname, fd.params, fd.body, fd.scope, fd.globals, fd.closure.map (·.1), fd.builtins)
  | _ => none
def RsD.val (r : RsD) : InW := some ("__init__", r.qual, r.params, .stmts r.body, r.scope, mainGlobals, ["__class__"], builtinsNs)
def rcB (K : PySem.W.Frag) (C : Addr) : Bool := match K.lookup C with
  | some ⟨.type t, _, .cls cd, sl⟩ => decide (t = "type") && (match cd.mro, sl.toList with
    | .ref C' :: bm, [_, _, _, _, some (.builtin n), _] => decide (C' = C) && (decide (n = "ValueError.__new__") && (cd.hasDict && (!cd.hasDel && refsVE bm)))
    | _, _ => false)
  | _ => false
theorem rcB_ok {K : PySem.W.Frag} {C : Addr} (h : rcB K C = true) : ∃ nm q N bs bm sn sub ab col dd k0 k1 k2 k3 k5, K.lookup C = some (excClassObj nm q C N bs bm true sn sub ab col dd k0 k1 k2 k3 k5 "ValueError.__new__") ∧ refsVE bm = true := by
  unfold rcB at h
  split at h
  · rename_i t dd cd sl ho
    obtain ⟨h0, h⟩ := ba h
    split at h
    · rename_i C' bm k0 k1 k2 k3 n k5 hm hs
      obtain ⟨h1, h⟩ := ba h
      obtain ⟨h2, h⟩ := ba h
      obtain ⟨h3, h⟩ := ba h
      obtain ⟨h4, h5⟩ := ba h
      have h0 := of_decide_eq_true h0
      have h1 := of_decide_eq_true h1
      have h2 := of_decide_eq_true h2
      subst h0 h1 h2
      obtain ⟨nm, bs, mro, ns, qn, hd, sn, sub, ab, col, del⟩ := cd
      have hm : mro = .ref C' :: bm := hm
      have h3 : hd = true := h3
      have h6 : del = false := by simpa using h4
      clear h4
      subst hm h3 h6
      refine ⟨nm, qn, ns, bs, bm, sn, sub, ab, col, dd, k0, k1, k2, k3, k5, ?_, h5⟩
      rw [ho]
      have e : sl = #[k0, k1, k2, k3, some (.builtin "ValueError.__new__"), k5] := by
        rw [← hs, Array.toArray_toList]
      rw [e]
    · cases h
  · cases h
/-- what is looked at beside -/
def rsB (K : PySem.W.Frag) (file : Str) (r : RsD) : Bool :=
  rcB K (r.cAd K) && (eqO (PySem.W.findIn K (.ref (r.cAd K)) "__setattr__") (some (some (.builtin "object.__setattr__"))) && (eqO (PySem.W.findIn K (.ref (r.cAd K)) r.f) (some none) && (PySem.W.keepIn K (.ref (r.cAd K)) && (decide (PySem.W.subIn K (.ref (r.cAd K)) (.type "BaseException") = some true) &&
  (decide (PySem.W.typeIn K (.ref (r.cAd K)) = some (.type "type")) && (decide (PySem.W.subIn K (.ref (r.cAd K)) (.type "ValueError") = some true) && (decide (PySem.W.ks_superIn K (r.cAd K) (r.cAd K) "__init__" = some (some (.builtin "ValueError.__init__"))) && (eqO (PySem.W.nsIn K cStatics "thirdparty.any") (some none) &&
  (decide (PySem.W.mroIn K (r.cAd K) (.ref (r.cAd K)) = some true) && (eqO (PySem.W.nsIn K mainGlobals "super") (some none) && (eqO (PySem.W.findIn K (.ref (r.cAd K)) "__init__") (some (some (.ref (r.iAd K)))) && (decide (PySem.W.typeIn K (.ref (r.iAd K)) = some (.type "function")) &&
  (match K.lookup (r.iAd K) with
  | some ⟨_, _, .func fd, _⟩ => (match fd.defaults, fd.code, fd.closure with
    | .none, .ref cda, [(_, cc)] => PySem.W.codeIn K (.ref cda) r.qual && ((match K.lookup cc with
      | some ⟨_, _, .cell (some (.ref C)), _⟩ => decide (C = r.cAd K)
      | _ => false) && (match K.lookup cda with
      | some ⟨_, _, .fields vs, _⟩ => (match ((vs : Array Value)[2]? : Option Value) with
        | some (.str g _) => decide (g = file)
        | _ => false)
      | _ => false))
    | _, _, _ => false)
  | _ => false)))))))))))))
theorem rs_ok {prog : Program} {K : PySem.W.Frag} {r : RsD} (h1 : iW K (r.iAd K) = r.val) (h : rsB K prog.main.file r = true) (top : (prog.main.scope.names.lookup ("super" : Str)).isSome = false) (fd : (r.f == ("__debug__" : Str)) = false) (fs : (r.f == ("self" : Str)) = false)
    (hbd : ∀ (q : Str) (sc : Scope) (kV doc pm cv ct : Value) (an : Option Addr) (cc : Addr) (p1 p2 : Pos) (msg : Str) (j : Nat) (ps : List Pos) (a b : Value), bindArgs (PySem.W.ksFn "__init__" q (xArgs r.f p1 p2) (xBody r.f msg j ps) sc .none kV doc pm an cv ct cc) ⟨[a, b], []⟩ = pure [(("self" : Str), a), (r.f, b)])
    (hp : ∃ p1 p2, r.params = xArgs r.f p1 p2) (hb : ∃ msg j ps, r.body = xBody r.f msg j ps ∧ ((ps.getD 2 ⟨0, 0, 0, 0⟩).endLine == (ps.getD 4 ⟨0, 0, 0, 0⟩).line) = true)
    (hs : r.scope.kind = .function ∧ r.scope.isCoroutine = false ∧ r.scope.isGenerator = false ∧ (∀ x ∈ r.scope.names, x.2 ≠ .cell) ∧ r.scope.names.lookup ("self" : Str) = some NameKind.local ∧ r.scope.names.lookup r.f = some NameKind.local ∧ r.scope.names.lookup ("super" : Str) = some NameKind.globalImplicit ∧ r.scope.names.lookup ("__class__" : Str) = some NameKind.free) :
    MkT prog K (r.cAd K) r.f := by
  unfold rsB at h
  obtain ⟨a1, h⟩ := ba h
  obtain ⟨a2, h⟩ := ba h
  obtain ⟨a3, h⟩ := ba h
  obtain ⟨a4, h⟩ := ba h
  obtain ⟨a5, h⟩ := ba h
  obtain ⟨a6, h⟩ := ba h
  obtain ⟨a7, h⟩ := ba h
  obtain ⟨a8, h⟩ := ba h
  obtain ⟨a9, h⟩ := ba h
  obtain ⟨a10, h⟩ := ba h
  obtain ⟨a11, h⟩ := ba h
  obtain ⟨a12, h⟩ := ba h
  obtain ⟨a13, h⟩ := ba h
  refine ⟨rcB_ok a1, eqO_ok a2, eqO_ok a3, a4, of_decide_eq_true a5, of_decide_eq_true a6, of_decide_eq_true a7, of_decide_eq_true a8, eqO_ok a9, of_decide_eq_true a10, eqO_ok a11, top, fd, fs, ?_⟩
  obtain ⟨cls, f, qual, params, body, scope⟩ := r
  obtain ⟨p1, p2, hp⟩ := hp
  obtain ⟨msg, j, ps, hb, hl⟩ := hb
  obtain ⟨s1, s2, s3, s4, s5, s6, s7, s8⟩ := hs
  have hp2 : params = xArgs f p1 p2 := hp
  have hb2 : body = xBody f msg j ps := hb
  clear hp hb
  subst hp2
  subst hb2
  unfold iW at h1
  split at h
  · rename_i oc od fd osl hlk
    rw [hlk] at h1
    obtain ⟨n1, n2, n3, n4, n5, n6, n7, n8, n9, n10, n11, n12, n13, n14, n15⟩ := fd
    split at h
    · rename_i cda x cc e1 e2 e3
      have h1 : (some (n1, n2, n3, n4, n5, n6, n7.map (·.1), n15) : InW) = (some (("__init__" : Str), qual, xArgs f p1 p2, FuncBody.stmts (xBody f msg j ps), scope, mainGlobals, [("__class__" : Str)], builtinsNs) : InW) := h1
      have e4 : n8 = .none := e1
      have e5 : n13 = .ref cda := e2
      have e6 : n7 = [(x, cc)] := e3
      clear e1 e2 e3
      subst e4 e5 e6
      have h1 := Option.some.inj h1
      have g1 : n1 = ("__init__" : Str) := (Prod.mk.inj h1).1
      have h1 := (Prod.mk.inj h1).2
      have g2 : n2 = qual := (Prod.mk.inj h1).1
      have h1 := (Prod.mk.inj h1).2
      have g3 : n3 = xArgs f p1 p2 := (Prod.mk.inj h1).1
      have h1 := (Prod.mk.inj h1).2
      have g4 : n4 = FuncBody.stmts (xBody f msg j ps) := (Prod.mk.inj h1).1
      have h1 := (Prod.mk.inj h1).2
      have g5 : n5 = scope := (Prod.mk.inj h1).1
      have h1 := (Prod.mk.inj h1).2
      have g6 : n6 = mainGlobals := (Prod.mk.inj h1).1
      have h1 := (Prod.mk.inj h1).2
      have g7 : x = ("__class__" : Str) := (List.cons.inj (Prod.mk.inj h1).1).1
      have g8 : n15 = builtinsNs := (Prod.mk.inj h1).2
      clear h1
      subst g1 g2 g3 g4 g5 g6 g7 g8
      obtain ⟨b1, h⟩ := ba h
      obtain ⟨b2, b3⟩ := ba h
      split at b2
      · rename_i cl cld C csl hcc
        have b2 := of_decide_eq_true b2
        subst b2
        split at b3
        · rename_i ccl cdd vs ccs hcd
          split at b3
          · rename_i g t hv
            have b3 := of_decide_eq_true b3
            subst b3
            exact ⟨_, cc, cda, oc, ccl, cl, od, cdd, cld, osl, ccs, csl, vs, _, t, n2, n5, n9, n10, n11, n14, n12, p1, p2, msg, j, ps, eqO_ok a12, of_decide_eq_true a13, hlk, b1, hcc, hcd, hv, by simp, s1, s2, s3, s4, s5, s6, s7, s8, hl, fun a b => hbd _ _ _ _ _ _ _ _ _ _ _ _ _ _ a b⟩
          · cases b3
        · cases b3
      · cases b2
    · cases h
  · cases h
/-! ### the hook -/
/-- what is told -/
structure SaysM (fa : List Fa) (fn : List DefD) (rs : List RsD) (tf : List Defn) (ex : PySem.W.Frag → Bool) (file : Str) (h : Heap) (K : PySem.W.Frag) : Prop where
  d : SaysD fa fn K
  rv : rs.map (fun r => iW K (r.iAd K)) = rs.map RsD.val
  rb : ∀ r ∈ rs, rsB K file r = true
  more : ex K = true
  hd : ∀ p ∈ tf, PySem.W.codeHdIn K (cT K p).1 (cT K p).2 = true
  out : ∀ p ∈ tf, K.lookup (cT K p).2 = none
  emp : ∀ p ∈ tf, h.get? (cT K p).2 = some { cls := .none, data := .fields #[] }
abbrev AlM : Type := AlD × List InW × Bool
def atM (g : Addr → Option Obj) (n : Nat) : PySem.W.Frag := frT g (cStatics :: asD g n)
def obsM (n : Nat) (fa : List Fa) (fn : List DefD) (rs : List RsD) (tf : List Defn) (ex : PySem.W.Frag → Bool) (file : Str) (g : Addr → Option Obj) : AlM :=
  let K := atM g n
  (obsD fa fn K, rs.map (fun r => iW K (r.iAd K)), ex K && (rs.all (rsB K file) && tabsB g tf K))
def valM (fn : List DefD) (rs : List RsD) : AlM := (valD fn, rs.map RsD.val, true)
theorem saysM_of {n : Nat} {fa : List Fa} {fn : List DefD} {rs : List RsD} {tf : List Defn} {ex : PySem.W.Frag → Bool} {file : Str} {h : Heap} (e : obsM n fa fn rs tf ex file h.get? = valM fn rs) : SaysM fa fn rs tf ex file h (atM h.get? n) := by
  have e1 : obsD fa fn (atM h.get? n) = valD fn := (Prod.mk.inj e).1
  have e2 := (Prod.mk.inj e).2
  have e3 : rs.map (fun r => iW (atM h.get? n) (r.iAd (atM h.get? n))) = rs.map RsD.val := (Prod.mk.inj e2).1
  have e4 : (ex (atM h.get? n) && (rs.all (rsB (atM h.get? n) file) && tabsB h.get? tf (atM h.get? n))) = true := (Prod.mk.inj e2).2
  obtain ⟨h1, h2⟩ := ba e4
  obtain ⟨h3, h4⟩ := ba h2
  have tab : ∀ p ∈ tf, PySem.W.codeHdIn (atM h.get? n) (cT (atM h.get? n) p).1 (cT (atM h.get? n) p).2 = true ∧ ∃ o, h.get? (cT (atM h.get? n) p).2 = some o ∧ emptyTab o = true := fun p hp => by
    obtain ⟨q1, q2⟩ := ba (List.all_eq_true.mp h4 p hp)
    cases q : h.get? (cT (atM h.get? n) p).2 with
    | none => rw [q] at q2; cases q2
    | some o => rw [q] at q2; exact ⟨q1, o, rfl, q2⟩
  refine ⟨e1, e3, fun r hr => List.all_eq_true.mp h3 r hr, h1, fun p hp => (tab p hp).1, fun p hp => ?_, fun p hp => ?_⟩
  · obtain ⟨_, o, q, z⟩ := tab p hp
    exact frT_none q z
  · obtain ⟨_, o, q, z⟩ := tab p hp
    rw [q, emptyTab_eq z]
def hookM (n : Nat) (fa : List Fa) (fn : List DefD) (rs : List RsD) (tf : List Defn) (ex : PySem.W.Frag → Bool) (file : Str) : PySem.W.Hook where
  α := AlM
  obs := fun s => obsM n fa fn rs tf ex file s.heap.get?
  val := fun _ => valM fn rs
  says := fun _ h => ∃ K : PySem.W.Frag, K.In h ∧ SaysM fa fn rs tf ex file h K
  of := fun _ _ e => ⟨_, frT_in, saysM_of e⟩
  keeps := fun _ _ _ ⟨K, hK, c⟩ k => ⟨K, PySem.W.Frag.In.keeps hK k, c.d, c.rv, c.rb, c.more, c.hd, c.out, fun p hp => k _ _ (c.emp p hp)⟩
theorem obsM_eq {n : Nat} {fa : List Fa} {fn : List DefD} {rs : List RsD} {tf : List Defn} {ex : PySem.W.Frag → Bool} {file : Str} {g : Addr → Option Obj} {s : Shared} (h : ∀ a, g a = s.heap.get? a) : obsM n fa fn rs tf ex file g = (hookM n fa fn rs tf ex file).obs s := by
  have e : g = s.heap.get? := funext h
  rw [e] <;> rfl
theorem SaysM.raises {prog : Program} {fa : List Fa} {fn : List DefD} {rs : List RsD} {tf : List Defn} {ex : PySem.W.Frag → Bool} {file : Str} {h : Heap} {K : PySem.W.Frag} (c : SaysM fa fn rs tf ex file h K) {i : Nat} {r : RsD} (hr : rs[i]? = some r) : iW K (r.iAd K) = r.val ∧ rsB K file r = true := by
  have e2 : (rs.map fun r => iW K (r.iAd K))[i]? = (rs.map RsD.val)[i]? := by rw [c.rv]
  rw [List.getElem?_map, List.getElem?_map, hr] at e2
  exact ⟨Option.some.inj e2, c.rb r (List.mem_of_getElem? hr)⟩
end MI
end
section
set_option Elab.async false
set_option linter.all false
set_option maxHeartbeats 400000
/-! MI: the law's own def, which makes lambdas. -/
namespace MI
open PySem PySem.Spec PyProof.Rows L2
/-- what it does, its own calls d deep at most -/
noncomputable def topDen (sub : Nat → Nat → Option Bool) (fld : Nat → Str) (fu : Option Nat) (T : List Fn) (F : Fn) (d : Nat) (vs : List MV) (μ : Mem) : R MV :=
  if vs.length = F.np ∧ F.np ≤ F.ns then outc (execs (wdAt sub fld fu T d none) F.body (vs.map some ++ List.replicate (F.ns - vs.length) none) μ) else none
section
variable {G : GI} {P : Program} {w : World} {mg : Str → Option Value} {base : Heap} {T : List Fn} {gl glh : List (Str × GE)} {bi : List Str} {sub : Nat → Nat → Option Bool} {fld : Nat → Str} {fu : Option Nat}
theorem top_ok (PO : ProgOk P G base mg sub fld fu T gl glh bi) (d : Nat) {x qual : Str} {params : Arguments} {body : List Stmt} {scope : Scope} {dvs : List V} {kws : List (Str × V)} {fa : Addr} {fd : FuncData} {N ps : List Str} {F : Fn} {m n : Nat} (FD : FunD G.K x qual params body scope dvs kws fa fd) (S : FnScope N ps scope) (hp : ps.length = F.np) (hn : N.length = F.ns) (nd : N.Nodup)
    {lm : Bool} (hck : ckS m { N := N, sc := scope, fo := fun _ => true, gl := gl, bi := bi, lm := lm } n (.ss F.body body) = true) (hlm : lm = true → LmF G base mg fd qual scope) :
    FnOk P w G.K mg base (L2.CX P w) (3 * d + 3) fa fd ps (spM G (topDen sub fld fu T F d) F.np) := by
  obtain ⟨oc, od, dV, kV, doc, pm, an, cdv, ct, osl, rfl, lk, hcd, _, _⟩ := FD.ex
  refine fn_of (k := 3 * d + 2) lk hcd S (fun vs H Q E h => h.1.trans hp.symm) fun A outer s H vs Q E hr hsp => ?_
  obtain ⟨hl, B, ι, μ, xs, hr0, rs, hsp⟩ := hsp
  refine ⟨tSs G (fun cls d _ H => E cls d H) (wdAt sub fld fu T d none) F.body, ?_, ?_⟩
  · refine ckS_ok (X := cxOf (L2.CX P w) P w G.K mg base N qual scope fa cdv A outer s H E) (W := fun cls d _ H => E cls d H) (G := G) (wd := (wdAt sub fld fu T d none)) (k := 3 * d) (cs := { N := N, sc := scope, fo := fun _ => true, gl := gl, bi := bi, lm := lm }) (m := m) ⟨⟨rfl, nd, rfl, rfl, rfl, hr.mono (by omega), ?_, fun _ _ => rfl, ?_, PO.bi, PO.cl, ?_⟩, ?_, fun z => by cases z⟩ n _ hck
    · exact takes_of rfl rfl rfl (E₁ := fun e' s'' => L2.CX P w outer H s E e' s'') rfl
    · intro y g hy
      cases g with
      | con v => exact PO.gl y _ hy
      | fn f' np' dvs' sg' =>
        obtain ⟨fa', fd', ps', q1, q2, q3, qk, q4, ⟨F', q5, q6⟩, q7⟩ := all_ok (P := P) (w := w) (base := base) PO d y f' np' dvs' sg' hy
        refine ⟨fun j => ?_, fun p hp => ⟨⟨fa', fd', ps', q1, q2, qk p hp, q7⟩⟩, fun xs' μ' z => (den_len q5 z).trans q6⟩
        obtain ⟨us, v1, v2⟩ := q3 j
        exact ⟨⟨fa', fd', ps', us, (dvs'.drop j).map dvV, q1, q2, v2, v1, fun B ι H => dv_rv (by
          rw [List.all_eq_true] at q4 ⊢
          exact fun y hy => q4 y (List.mem_of_mem_drop hy)), q7⟩⟩
      | cls c rs => exact PO.gl y _ hy
      | hr f' => exact hr_ok PO hy rfl rfl rfl d (3 * d)
    · intro z
      obtain ⟨z0, z1, z2, c, tb, hc, TB, hT⟩ := hlm z
      have q := hT s.heap.objs.size fa cdv
      exact ⟨hr, z0, z1, z2, c, tb, hc, TB, q.1, q.2⟩
    · exact passes_of (K := fun e' s'' => L2.CX P w outer H s E e' s'') (E₁ := fun e' s'' => L2.CX P w outer H s E e' s'') rfl
  · refine ⟨B, ι, μ, xs.map some ++ List.replicate (F.ns - xs.length) none, start_er rs hn, hr0, ?_⟩
    unfold topDen at hsp
    split at hsp
    · unfold outc at hsp
      split at hsp
      · rename_i v μ' e
        rw [e]
        exact fun w H' ι' a b c => hsp w H' ι' a b c
      · rename_i ρ' μ' e
        rw [e]
        exact fun σ' H' ι' a b c => hsp .non H' ι' a b .non
      · rename_i x' ρ' μ' e
        rw [e]
        exact fun cls dd σ' H' ι' a b c r => hsp cls dd H' ι' a b r
      · exact hsp.elim
    · exact hsp.elim
end
end MI
end
section
set_option Elab.async false
set_option linter.all false
set_option maxHeartbeats 1000000
/-! MI: a def's facts, put together. -/
namespace MI
open PySem PySem.Spec PyProof.Rows L2
section
variable {G : GI} {base : Heap} {mg : Str → Option Value} {T : List Fn} {gl : List (Str × GE)} {bi : List Str} {x : Str} {params : Arguments} {body : List Stmt} {scope : Scope} {fa : Addr} {fd : FuncData} {N ps : List Str} {f : Nat}
/-- no defaults -/
theorem def0 {b : SS} {m n : Nat} {lm : Bool} {sg : List (List Str × List Nat)} (F : FunD G.K x x params body scope [] [] fa fd) (hlm : lm = true → LmF G base mg fd x scope) (hm : mg x = some (.ref fa)) (hT : T[f]? = some ⟨ps.length, N.length, b⟩) (S : FnScope N ps scope) (nd : N.Nodup)
    (hb : ∀ (kV doc pm : Value) (an : Option Addr) (cdv ct : Value) (us : List Value), us.length = ps.length → bindArgs (PySem.W.fnOf x x params body scope .none kV doc pm an cdv ct) ⟨us, []⟩ = pure (ps.zip us)) (hk : ∀ p ∈ sg, KBn G.K fd ps 0 p.1 (fun _ ws => pick p.2 ws) (fun _ zs => pick p.2 zs))
    (hc : ckS m { N := N, sc := scope, fo := fun _ => true, gl := gl, bi := bi, lm := lm } n (.ss b body) = true) : DefOk G base mg T gl bi x f ps.length [] sg where
  ex := ⟨fa, fd, x, params, body, scope, ⟨ps.length, N.length, b⟩, N, ps, m, n, lm, F, hlm, hm, hT, S, rfl, rfl, rfl, nd, fun j => ⟨[], by rw [List.drop_nil]; exact .nil, F.bindsN hb⟩, hk, hc⟩
  dv := rfl
/-- .. called by keywords -/
theorem kb0 (F : FunD G.K x x params body scope [] [] fa fd) (ks : List Str) (pm : List Nat) (h : ∀ (kV doc pm' : Value) (an : Option Addr) (cdv ct : Value) (ws : List Value), ws.length = ks.length → bindArgs (PySem.W.fnOf x x params body scope .none kV doc pm' an cdv ct) ⟨[], ks.zip ws⟩ = pure (ps.zip (pick pm ws))) :
    KBn G.K fd ps 0 ks (fun _ ws => pick pm ws) (fun _ zs => pick pm zs) := by
  obtain ⟨oc, od, dV, kV, doc, pm', an, cdv, ct, osl, rfl, lk, hcd, hD, hK⟩ := F.ex
  rcases hD with ⟨_, rfl⟩ | ⟨e, _⟩
  · refine ⟨fun s us ws _ l1 l2 => ?_, fun _ r => pick_vals r⟩
    cases us with
    | nil => exact .of_eq (h kV doc pm' an cdv ct ws l2)
    | cons _ _ => cases l1
  · exact absurd rfl e
/-- with defaults -/
theorem def1 {b : SS} {m n : Nat} {dvs : List MV} (F : FunD G.K x x params body scope (dvs.map dvV) [] fa fd) (hd : dvs ≠ []) (hdp : dvs.length ≤ ps.length) (hm : mg x = some (.ref fa)) (hT : T[f]? = some ⟨ps.length, N.length, b⟩) (S : FnScope N ps scope) (nd : N.Nodup)
    (hb : ∀ j ≤ dvs.length, ∀ (T : Addr) (kV doc pm : Value) (an : Option Addr) (cdv ct : Value) (us its : List Value), us.length = ps.length - (dvs.length - j) → its.length = dvs.length →
      ∃ k, bindArgs (PySem.W.fnOf x x params body scope (.ref T) kV doc pm an cdv ct) ⟨us, []⟩ = seqItems? (.ref T) >>= k ∧ k (some its.toArray) = pure (ps.zip (us ++ its.drop j)))
    (hc : ckS m { N := N, sc := scope, fo := fun _ => true, gl := gl, bi := bi } n (.ss b body) = true) (hv : dvs.all dvOk = true) : DefOk G base mg T gl bi x f ps.length dvs [] where
  ex := ⟨fa, fd, x, params, body, scope, ⟨ps.length, N.length, b⟩, N, ps, m, n, false, F, fun z => (by cases z), hm, hT, S, rfl, rfl, rfl, nd, fun j => by
    have hl : (dvs.map dvV).length = dvs.length := List.length_map ..
    have go : ∀ j ≤ dvs.length, ∃ us, Vals ((dvs.drop j).map dvV) us ∧ Binds G.K fd ps us := fun j hj => by
      obtain ⟨ds, h1, h2⟩ := F.binds1 (ps := ps) (ps.length - (dvs.length - j)) j (by simpa using hd) (by rw [hl]; omega) fun T kV doc pm an cdv ct us its h3 h4 => hb j hj T kV doc pm an cdv ct us its h3 (by rw [h4, hl])
      exact ⟨ds, by rw [List.map_drop]; exact h1, h2⟩
    by_cases hj : j ≤ dvs.length
    · exact go j hj
    · obtain ⟨us, h1, h2⟩ := go dvs.length (Nat.le_refl _)
      refine ⟨us, ?_, h2⟩
      rw [List.drop_eq_nil_of_le (by omega)]
      rwa [List.drop_eq_nil_of_le (Nat.le_refl _)] at h1, fun p hp => absurd hp List.not_mem_nil, hc⟩
  dv := hv
end
end MI
end
section
set_option Elab.async false
set_option linter.all false
set_option maxHeartbeats 1000000
/-! MI: the def that hears, put together. -/
namespace MI
open PySem PySem.Spec PyProof.Rows L2
theorem hdef {G : GI} {mg : Str → Option Value} {sub : Nat → Nat → Option Bool} {fld : Nat → Str} {fu : Option Nat} {T : List Fn} {glh : List (Str × GE)} {bi : List Str} {x a : Str} {params : Arguments} {body : List Stmt} {scope : Scope} {fa : Addr} {fd : FuncData} {Ng : List Str} {f m n : Nat} {b : SS}
    (F : FunD G.K x x params body scope [] [] fa fd) (hm : mg x = some (.ref fa)) (S : FnScope Ng [a] scope) (h0 : Ng[0]? = some a) (hv : Vis scope a) (hd : (a == ("__debug__" : Str)) = false) (hcd : (a == ("__classdict__" : Str)) = false) (hT : T[f]? = some ⟨1, Ng.length, b⟩) (nd : Ng.Nodup)
    (hb : ∀ (kV doc pm : Value) (an : Option Addr) (cdv ct : Value) (us : List Value), us.length = [a].length → bindArgs (PySem.W.fnOf x x params body scope .none kV doc pm an cdv ct) ⟨us, []⟩ = pure ([a].zip us))
    (hc : ckS m { N := Ng, sc := scope, fo := fun _ => true, gl := glh, bi := bi, hd := true } n (.ss b body) = true)
    (ind : ∀ d f0 h μ, outc (execs (wdAt sub fld fu T d (some (f0, h))) b (some (.thk f0) :: List.replicate (Ng.length - 1) none) μ) = outc (execs (wdAt sub fld fu T d (some (0, h))) b (some (.thk 0) :: List.replicate (Ng.length - 1) none) μ)) : HrDef G mg sub fld fu T glh bi x f := by
  have bb := F.bindsN hb
  obtain ⟨oc, od, dV, kV, doc, pm, an, cdv, ct, osl, rfl, lk, hcd', _, _⟩ := F.ex
  exact ⟨fa, params, body, scope, dV, kV, doc, pm, cdv, ct, oc, an, od, osl, Ng, a, ⟨1, Ng.length, b⟩, m, n, hm, F.kp, lk, hcd', bb, S, h0, hv, hd, hcd, hT, rfl, rfl, nd, hc, ind⟩
end MI
end
section
set_option Elab.async false
set_option linter.all false
set_option maxRecDepth 100000
set_option maxHeartbeats 4000000
namespace MI
open PySem PySem.Spec PyProof.Rows L2
theorem len_one (μ : Mem) (x : MV) : evBi μ .len [.lv [x]] = some (.int 1) := by simp [evBi, lsOf, sqOf, most, dcOf]
theorem idx_one (μ : Mem) (x : MV) : evIdx μ (.lv [x]) (.int 0) = some x := by simp [evIdx, sqOf, lsOf, L2.atI, L2.ixN, dcOf]
theorem dat_int (μ : Mem) (i : Int) : dat μ (.int i) = some (.int i) := by simp [dat, frz, MV.rd, MV.toD, SeqAt.shaped]; exact ⟨rfl, by simp [PyData.depth]⟩
theorem dat_str (μ : Mem) (i : Str) (h : (PyData.str i).canLay0 = true) : dat μ (.str i) = some (.str i) := by simp [dat, frz, MV.rd, MV.toD, SeqAt.shaped]; exact ⟨h, by simp [PyData.depth]⟩
theorem eqv_int (i j : Int) : PyData.eqv (.int i) (.int j) = (i == j) := by simp [PyData.eqv]
theorem eqv_str (i j : Str) : PyData.eqv (.str i) (.str j) = (i == j) := by simp [PyData.eqv]
end MI
end
section
set_option Elab.async false
set_option linter.all false
set_option maxRecDepth 100000
set_option maxHeartbeats 8000000
namespace MI
open PySem PySem.Spec PyProof.Rows L2
def top (i : Nat) : Stmt := PySem.Challenge.pw_portstell_k60_walks_step_by_step.main.body.getD i (.Pass ⟨0, 0, 0, 0⟩)

abbrev gh_ (x : Str) (f : Nat) : Str × GE := (x, .hr f)
abbrev gk_ (x : Str) (c : Nat) (rs : Bool) : Str × GE := (x, .cls c rs)
abbrev gc_ (x : Str) (v : MV) : Str × GE := (x, .con v)
abbrev gf_ (x : Str) (f np : Nat) (ds : List MV) (sg : List (List Str × List Nat)) : Str × GE := (x, .fn f np ds sg)
def gl : List (Str × GE) := [gc_ "NONE" (.tup [(.int 0), (.int 1)]),
  gc_ "ONE" (.tup [(.int 1), (.int 1)]),
  gc_ "MOST_NODES" (.int 48),
  gc_ "MOST_PORTS" (.int 8),
  gc_ "MOST_WIRES" (.int 40),
  gc_ "MOST_STEPS" (.int 60),
  gf_ "is_whole" 0 3 [.non, .non] [],
  gf_ "is_row" 1 2 [.non] [],
  gf_ "gcd" 2 2 [] [],
  gf_ "is_fraction" 3 1 [] [],
  gf_ "ratio" 4 2 [] [],
  gf_ "ratio_sum" 5 2 [] [],
  gf_ "ratio_times" 6 2 [] [],
  gf_ "ratio_over" 7 2 [] [],
  gf_ "ratio_total" 8 1 [] [],
  gf_ "is_wire" 9 2 [] [],
  gf_ "net_fault" 10 1 [] [],
  gf_ "need_net" 11 1 [] [],
  gf_ "wires_at" 12 1 [] [],
  gf_ "weights_of" 13 1 [] [],
  gf_ "node_weights" 14 1 [] [(["net"], [0])],
  gf_ "need_node" 15 2 [] [],
  gf_ "stepped_chances" 16 3 [] [],
  gf_ "chances_after" 17 3 [] [(["steps", "node", "net"], [2, 1, 0])],
  gf_ "step_chances" 18 2 [] [(["node", "net"], [1, 0])],
  gf_ "_law_mixed" 19 2 [] [],
  gf_ "_law_folded" 20 1 [] [],
  gf_ "_law_draw" 21 2 [] [],
  gf_ "_law_begun" 22 1 [] [],
  gf_ "_law_of" 23 2 [] [],
  gf_ "_law_like" 24 2 [] [],
  gf_ "_law_order" 25 2 [] [],
  gf_ "_law_common" 26 2 [] [],
  gf_ "_law_ratio" 27 2 [] [],
  gf_ "_law_sum" 28 1 [] [],
  gf_ "_law_times" 29 1 [] [],
  gf_ "_law_over" 30 2 [] [],
  gf_ "_law_strength" 31 1 [] [],
  gf_ "_law_net" 32 4 [] [],
  gf_ "_law_held" 33 4 [] [],
  gf_ "_law_weights" 34 1 [] [],
  gf_ "_law_any_net" 35 1 [] [],
  gf_ "_law_great_net" 36 1 [] [],
  gf_ "_law_shared" 37 2 [] [],
  gf_ "_law_after" 38 3 [] [],
  gf_ "_law_right" 40 2 [] [],
  gf_ "_law_refused_right" 41 2 [] [],
  gh_ "_law_heard" 39,
  gk_ "WireError" 1 false,
  gk_ "BadNet" 2 true,
  gk_ "BadNumber" 3 true,
  gk_ "BadNodes" 4 true]
def glh : List (Str × GE) := [gk_ "WireError" 1 false, gk_ "BadNet" 2 false, gk_ "BadNumber" 3 false, gk_ "BadNodes" 4 false]
def bi : List Str := ["len", "abs", "min", "max", "int", "tuple", "list", "all", "any", "sum", "range", "enumerate", "isinstance", "bool", "str", "dict", "zip", "sorted"]
def N_is_whole : List Str := ["value", "least", "most"]
def b_is_whole : SS := (.cons (.ite (.orr (.nt (.isi (.var 0) [.int])) (.isi (.var 0) [.bool])) (.cons (.ret (.con (.bl false))) .nil) .nil) (.cons (.ret (.an (.orr (.cmp .isn (.var 1) (.con .non)) (.cmp .ge (.var 0) (.var 1))) (.orr (.cmp .isn (.var 2) (.con .non)) (.cmp .le (.var 0) (.var 2))))) .nil))
theorem c_is_whole : ckS 60 { N := N_is_whole, sc := defScope (top 6), fo := fun _ => true, gl := gl, bi := bi } 60 (.ss b_is_whole (defBody (top 6))) = true := by kernel_rfl
def N_is_row : List Str := ["value", "length"]
def b_is_row : SS := (.cons (.ret (.an (.isi (.var 0) [.tuple]) (.orr (.cmp .isn (.var 1) (.con .non)) (.cmp .eq (.blt .len (.cons (.var 0) .nil)) (.var 1))))) .nil)
theorem c_is_row : ckS 60 { N := N_is_row, sc := defScope (top 7), fo := fun _ => true, gl := gl, bi := bi } 60 (.ss b_is_row (defBody (top 7))) = true := by kernel_rfl
def N_gcd : List Str := ["one", "other"]
def b_gcd : SS := (.cons (.asg (.tp (.cons (.nm 0) (.cons (.nm 1) .nil))) (.tup (.cons (.blt .abs (.cons (.var 0) .nil)) (.cons (.blt .abs (.cons (.var 1) .nil)) .nil)))) (.cons (.whl (.cmp .ne (.var 1) (.con (.int 0))) (.cons (.asg (.tp (.cons (.nm 0) (.cons (.nm 1) .nil))) (.tup (.cons (.var 1) (.cons (.bin .mod (.blt .int1 (.cons (.var 0) .nil)) (.var 1)) .nil)))) .nil)) (.cons (.ret (.var 0)) .nil)))
theorem c_gcd : ckS 60 { N := N_gcd, sc := defScope (top 8), fo := fun _ => true, gl := gl, bi := bi } 60 (.ss b_gcd (defBody (top 8))) = true := by kernel_rfl
def N_is_fraction : List Str := ["value"]
def b_is_fraction : SS := (.cons (.ite (.orr (.nt (.app false 1 (.cons (.var 0) (.cons (.con (.int 2)) .nil)) [])) (.orr (.nt (.app false 0 (.cons (.idx (.var 0) (.con (.int 0))) .nil) [.non, .non])) (.nt (.app false 0 (.cons (.idx (.var 0) (.con (.int 1))) (.cons (.con (.int 1)) .nil)) [.non])))) (.cons (.ret (.con (.bl false))) .nil) .nil) (.cons (.ret (.cmp .eq (.app false 2 (.cons (.idx (.var 0) (.con (.int 0))) (.cons (.idx (.var 0) (.con (.int 1))) .nil)) []) (.con (.int 1)))) .nil))
theorem c_is_fraction : ckS 60 { N := N_is_fraction, sc := defScope (top 12), fo := fun _ => true, gl := gl, bi := bi } 60 (.ss b_is_fraction (defBody (top 12))) = true := by kernel_rfl
def N_ratio : List Str := ["upper", "under", "common"]
def b_ratio : SS := (.cons (.ite (.cmp .lt (.var 1) (.con (.int 0))) (.cons (.asg (.tp (.cons (.nm 0) (.cons (.nm 1) .nil))) (.tup (.cons (.neg (.var 0)) (.cons (.neg (.var 1)) .nil)))) .nil) .nil) (.cons (.asg (.nm 2) (.app false 2 (.cons (.var 0) (.cons (.var 1) .nil)) [])) (.cons (.ret (.tup (.cons (.bin .fdv (.var 0) (.var 2)) (.cons (.bin .fdv (.var 1) (.var 2)) .nil)))) .nil)))
theorem c_ratio : ckS 60 { N := N_ratio, sc := defScope (top 13), fo := fun _ => true, gl := gl, bi := bi } 60 (.ss b_ratio (defBody (top 13))) = true := by kernel_rfl
def N_ratio_sum : List Str := ["one", "other"]
def b_ratio_sum : SS := (.cons (.ret (.app false 4 (.cons (.bin .add (.bin .mul (.idx (.var 0) (.con (.int 0))) (.idx (.var 1) (.con (.int 1)))) (.bin .mul (.idx (.var 1) (.con (.int 0))) (.idx (.var 0) (.con (.int 1))))) (.cons (.bin .mul (.idx (.var 0) (.con (.int 1))) (.idx (.var 1) (.con (.int 1)))) .nil)) [])) .nil)
theorem c_ratio_sum : ckS 60 { N := N_ratio_sum, sc := defScope (top 14), fo := fun _ => true, gl := gl, bi := bi } 60 (.ss b_ratio_sum (defBody (top 14))) = true := by kernel_rfl
def N_ratio_times : List Str := ["one", "other"]
def b_ratio_times : SS := (.cons (.ret (.app false 4 (.cons (.bin .mul (.idx (.var 0) (.con (.int 0))) (.idx (.var 1) (.con (.int 0)))) (.cons (.bin .mul (.idx (.var 0) (.con (.int 1))) (.idx (.var 1) (.con (.int 1)))) .nil)) [])) .nil)
theorem c_ratio_times : ckS 60 { N := N_ratio_times, sc := defScope (top 15), fo := fun _ => true, gl := gl, bi := bi } 60 (.ss b_ratio_times (defBody (top 15))) = true := by kernel_rfl
def N_ratio_over : List Str := ["one", "other"]
def b_ratio_over : SS := (.cons (.ret (.app false 4 (.cons (.bin .mul (.idx (.var 0) (.con (.int 0))) (.idx (.var 1) (.con (.int 1)))) (.cons (.bin .mul (.idx (.var 0) (.con (.int 1))) (.idx (.var 1) (.con (.int 0)))) .nil)) [])) .nil)
theorem c_ratio_over : ckS 60 { N := N_ratio_over, sc := defScope (top 16), fo := fun _ => true, gl := gl, bi := bi } 60 (.ss b_ratio_over (defBody (top 16))) = true := by kernel_rfl
def N_ratio_total : List Str := ["fractions", "found", "one"]
def b_ratio_total : SS := (.cons (.asg (.nm 1) (.con (.tup [(.int 0), (.int 1)]))) (.cons (.fr (.nm 2) (.seq (.var 0)) (.cons (.asg (.nm 1) (.app false 5 (.cons (.var 1) (.cons (.var 2) .nil)) [])) .nil)) (.cons (.ret (.var 1)) .nil)))
theorem c_ratio_total : ckS 60 { N := N_ratio_total, sc := defScope (top 17), fo := fun _ => true, gl := gl, bi := bi } 60 (.ss b_ratio_total (defBody (top 17))) = true := by kernel_rfl
def N_is_wire : List Str := ["nodes", "value"]
def b_is_wire : SS := (.cons (.ite (.orr (.nt (.app false 1 (.cons (.var 1) (.cons (.con (.int 3)) .nil)) [])) (.orr (.nt (.app false 0 (.cons (.idx (.var 1) (.con (.int 0))) (.cons (.con (.int 0)) (.cons (.bin .sub (.var 0) (.con (.int 1))) .nil))) [])) (.nt (.app false 0 (.cons (.idx (.var 1) (.con (.int 1))) (.cons (.con (.int 0)) (.cons (.bin .sub (.var 0) (.con (.int 1))) .nil))) [])))) (.cons (.ret (.con (.bl false))) .nil) .nil) (.cons (.ret (.an (.cmp .lt (.idx (.var 1) (.con (.int 0))) (.idx (.var 1) (.con (.int 1)))) (.an (.app false 3 (.cons (.idx (.var 1) (.con (.int 2))) .nil) []) (.cmp .gt (.idx (.idx (.var 1) (.con (.int 2))) (.con (.int 0))) (.con (.int 0)))))) .nil))
theorem c_is_wire : ckS 60 { N := N_is_wire, sc := defScope (top 22), fo := fun _ => true, gl := gl, bi := bi } 60 (.ss b_is_wire (defBody (top 22))) = true := by kernel_rfl
def N_net_fault : List Str := ["value", "number", "wire"]
def b_net_fault : SS := (.cons (.ite (.orr (.nt (.app false 1 (.cons (.var 0) (.cons (.con (.int 3)) .nil)) [])) (.nt (.app false 1 (.cons (.idx (.var 0) (.con (.int 2))) .nil) [.non]))) (.cons (.ret (.tup (.cons (.con (.str "form")) .nil))) .nil) .nil) (.cons (.ite (.nt (.app false 0 (.cons (.idx (.var 0) (.con (.int 0))) (.cons (.con (.int 0)) (.cons (.con (.int 48)) .nil))) [])) (.cons (.ret (.tup (.cons (.con (.str "nodes")) .nil))) .nil) .nil) (.cons (.ite (.nt (.app false 0 (.cons (.idx (.var 0) (.con (.int 1))) (.cons (.con (.int 0)) (.cons (.blt .min2 (.cons (.idx (.var 0) (.con (.int 0))) (.cons (.con (.int 8)) .nil))) .nil))) [])) (.cons (.ret (.tup (.cons (.con (.str "ports")) .nil))) .nil) .nil) (.cons (.ite (.cmp .gt (.blt .len (.cons (.idx (.var 0) (.con (.int 2))) .nil)) (.con (.int 40))) (.cons (.ret (.tup (.cons (.con (.str "many")) .nil))) .nil) .nil) (.cons (.fr (.tp (.cons (.nm 1) (.cons (.nm 2) .nil))) (.enu (.idx (.var 0) (.con (.int 2)))) (.cons (.ite (.orr (.nt (.app false 9 (.cons (.idx (.var 0) (.con (.int 0))) (.cons (.var 2) .nil)) [])) (.an (.cmp .gt (.var 1) (.con (.int 0))) (.cmp .lt (.var 2) (.idx (.idx (.var 0) (.con (.int 2))) (.bin .sub (.var 1) (.con (.int 1))))))) (.cons (.ret (.tup (.cons (.var 1) .nil))) .nil) .nil) .nil)) (.cons (.ret (.tup .nil)) .nil))))))
theorem c_net_fault : ckS 60 { N := N_net_fault, sc := defScope (top 23), fo := fun _ => true, gl := gl, bi := bi } 60 (.ss b_net_fault (defBody (top 23))) = true := by kernel_rfl
def N_need_net : List Str := ["net", "fault"]
def b_need_net : SS := (.cons (.asg (.nm 1) (.app false 10 (.cons (.var 0) .nil) [])) (.cons (.ite (.cmp .ne (.var 1) (.tup .nil)) (.cons (.rai 2 (.idx (.var 1) (.con (.int 0)))) .nil) .nil) (.cons (.ret (.var 0)) .nil)))
theorem c_need_net : ckS 60 { N := N_need_net, sc := defScope (top 24), fo := fun _ => true, gl := gl, bi := bi } 60 (.ss b_need_net (defBody (top 24))) = true := by kernel_rfl
def N_wires_at : List Str := ["net", "found", "number", "wire", "node"]
def b_wires_at : SS := (.cons (.asg (.nm 1) (.chg (.lcm [4] (.rng (.cons (.idx (.var 0) (.con (.int 0))) .nil)) (.nm 4) (.con (.bl true)) (.chg (.lst .nil))))) (.cons (.fr (.tp (.cons (.nm 2) (.cons (.nm 3) .nil))) (.enu (.idx (.var 0) (.con (.int 2)))) (.cons (.ex (.mth .append (.idx (.var 1) (.idx (.var 3) (.con (.int 0)))) (.cons (.var 2) .nil))) (.cons (.ex (.mth .append (.idx (.var 1) (.idx (.var 3) (.con (.int 1)))) (.cons (.var 2) .nil))) .nil))) (.cons (.ret (.var 1)) .nil)))
theorem c_wires_at : ckS 60 { N := N_wires_at, sc := defScope (top 25), fo := fun _ => true, gl := gl, bi := bi } 60 (.ss b_wires_at (defBody (top 25))) = true := by kernel_rfl
def N_weights_of : List Str := ["net", "row", "number"]
def b_weights_of : SS := (.cons (.ret (.lcm [1] (.seq (.app false 12 (.cons (.var 0) .nil) [])) (.nm 1) (.con (.bl true)) (.app false 8 (.cons (.lcm [2] (.seq (.var 1)) (.nm 2) (.con (.bl true)) (.idx (.idx (.idx (.var 0) (.con (.int 2))) (.var 2)) (.con (.int 2)))) .nil) []))) .nil)
theorem c_weights_of : ckS 60 { N := N_weights_of, sc := defScope (top 28), fo := fun _ => true, gl := gl, bi := bi } 60 (.ss b_weights_of (defBody (top 28))) = true := by kernel_rfl
def N_node_weights : List Str := ["net"]
def b_node_weights : SS := (.cons (.ex (.app false 11 (.cons (.var 0) .nil) [])) (.cons (.ret (.blt .tup1 (.cons (.app false 13 (.cons (.var 0) .nil) []) .nil))) .nil))
theorem c_node_weights : ckS 60 { N := N_node_weights, sc := defScope (top 29), fo := fun _ => true, gl := gl, bi := bi } 60 (.ss b_node_weights (defBody (top 29))) = true := by kernel_rfl
def N_need_node : List Str := ["net", "node"]
def b_need_node : SS := (.cons (.ite (.nt (.app false 0 (.cons (.var 1) (.cons (.con (.int 0)) (.cons (.bin .sub (.idx (.var 0) (.con (.int 0))) (.con (.int 1))) .nil))) [])) (.cons (.rai 4 (.var 1)) .nil) .nil) (.cons (.ret (.var 1)) .nil))
theorem c_need_node : ckS 60 { N := N_need_node, sc := defScope (top 30), fo := fun _ => true, gl := gl, bi := bi } 60 (.ss b_need_node (defBody (top 30))) = true := by kernel_rfl
def N_stepped_chances : List Str := ["net", "weights", "chances", "found", "one", "two", "strength", "there", "back", "weight"]
def b_stepped_chances : SS := (.cons (.asg (.nm 3) (.chg (.lcm [4, 9] (.zip (.var 2) (.var 1)) (.tp (.cons (.nm 4) (.cons (.nm 9) .nil))) (.con (.bl true)) (.ife (.cmp .eq (.var 9) (.con (.tup [(.int 0), (.int 1)]))) (.var 4) (.con (.tup [(.int 0), (.int 1)])))))) (.cons (.fr (.tp (.cons (.nm 4) (.cons (.nm 5) (.cons (.nm 6) .nil)))) (.seq (.idx (.var 0) (.con (.int 2)))) (.cons (.asg (.nm 7) (.app false 7 (.cons (.app false 6 (.cons (.idx (.var 2) (.var 4)) (.cons (.var 6) .nil)) []) (.cons (.idx (.var 1) (.var 4)) .nil)) [])) (.cons (.asg (.nm 8) (.app false 7 (.cons (.app false 6 (.cons (.idx (.var 2) (.var 5)) (.cons (.var 6) .nil)) []) (.cons (.idx (.var 1) (.var 5)) .nil)) [])) (.cons (.asg (.ix (.var 3) (.var 5)) (.app false 5 (.cons (.idx (.var 3) (.var 5)) (.cons (.var 7) .nil)) [])) (.cons (.asg (.ix (.var 3) (.var 4)) (.app false 5 (.cons (.idx (.var 3) (.var 4)) (.cons (.var 8) .nil)) [])) .nil))))) (.cons (.ret (.var 3)) .nil)))
theorem c_stepped_chances : ckS 60 { N := N_stepped_chances, sc := defScope (top 31), fo := fun _ => true, gl := gl, bi := bi } 60 (.ss b_stepped_chances (defBody (top 31))) = true := by kernel_rfl
def N_chances_after : List Str := ["net", "node", "steps", "weights", "found", "turn", "place"]
def b_chances_after : SS := (.cons (.ex (.app false 11 (.cons (.var 0) .nil) [])) (.cons (.ex (.app false 15 (.cons (.var 0) (.cons (.var 1) .nil)) [])) (.cons (.ite (.nt (.app false 0 (.cons (.var 2) (.cons (.con (.int 0)) (.cons (.con (.int 60)) .nil))) [])) (.cons (.rai 3 (.var 2)) .nil) .nil) (.cons (.asg (.nm 3) (.app false 13 (.cons (.var 0) .nil) [])) (.cons (.asg (.nm 4) (.lcm [6] (.rng (.cons (.idx (.var 0) (.con (.int 0))) .nil)) (.nm 6) (.con (.bl true)) (.ife (.cmp .eq (.var 6) (.var 1)) (.con (.tup [(.int 1), (.int 1)])) (.con (.tup [(.int 0), (.int 1)]))))) (.cons (.fr (.nm 5) (.rng (.cons (.var 2) .nil)) (.cons (.asg (.nm 4) (.app false 16 (.cons (.var 0) (.cons (.var 3) (.cons (.var 4) .nil))) [])) .nil)) (.cons (.ret (.blt .tup1 (.cons (.var 4) .nil))) .nil)))))))
theorem c_chances_after : ckS 60 { N := N_chances_after, sc := defScope (top 32), fo := fun _ => true, gl := gl, bi := bi } 60 (.ss b_chances_after (defBody (top 32))) = true := by kernel_rfl
def N_step_chances : List Str := ["net", "node"]
def b_step_chances : SS := (.cons (.ret (.app false 17 (.cons (.var 0) (.cons (.var 1) (.cons (.con (.int 1)) .nil))) [])) .nil)
theorem c_step_chances : ckS 60 { N := N_step_chances, sc := defScope (top 33), fo := fun _ => true, gl := gl, bi := bi } 60 (.ss b_step_chances (defBody (top 33))) = true := by kernel_rfl
def N__law_mixed : List Str := ["cell", "n", "blend"]
def b__law_mixed : SS := (.cons (.asg (.nm 2) (.bin .add (.bin .add (.bin .mod (.blt .int1 (.cons (.bin .mul (.bin .mul (.var 0) (.bin .add (.con (.int 1)) (.bin .mul (.con (.int 2)) (.var 1)))) (.con (.int 48271))) .nil)) (.con (.int 2147483647))) (.bin .mul (.bin .mul (.con (.int 7919)) (.var 1)) (.var 1))) (.bin .mul (.con (.int 104729)) (.var 1)))) (.cons (.ret (.bin .fdv (.bin .mod (.blt .int1 (.cons (.bin .mul (.var 2) (.con (.int 69621))) .nil)) (.con (.int 2147483629))) (.con (.int 7)))) .nil))
theorem c__law_mixed : ckS 60 { N := N__law_mixed, sc := defScope (top 35), fo := fun _ => true, gl := gl, bi := bi } 60 (.ss b__law_mixed (defBody (top 35))) = true := by kernel_rfl
def N__law_folded : List Str := ["script", "found", "n", "cell"]
def b__law_folded : SS := (.cons (.asg (.nm 1) (.chg (.lcm [2] (.rng (.cons (.con (.int 64)) .nil)) (.nm 2) (.con (.bl true)) (.bin .add (.con (.int 17)) (.var 2))))) (.cons (.fr (.tp (.cons (.nm 2) (.cons (.nm 3) .nil))) (.enu (.var 0)) (.cons (.asg (.ix (.var 1) (.bin .mod (.blt .int1 (.cons (.var 2) .nil)) (.con (.int 64)))) (.bin .mod (.blt .int1 (.cons (.bin .add (.bin .mul (.idx (.var 1) (.bin .mod (.blt .int1 (.cons (.var 2) .nil)) (.con (.int 64)))) (.con (.int 48271))) (.var 3)) .nil)) (.con (.int 2147483647)))) .nil)) (.cons (.fr (.nm 2) (.rng (.cons (.con (.int 1)) (.cons (.con (.int 64)) .nil))) (.cons (.asg (.ix (.var 1) (.var 2)) (.bin .mod (.blt .int1 (.cons (.bin .add (.idx (.var 1) (.var 2)) (.bin .mul (.idx (.var 1) (.bin .sub (.var 2) (.con (.int 1)))) (.con (.int 16807)))) .nil)) (.con (.int 2147483647)))) .nil)) (.cons (.ret (.var 1)) .nil))))
theorem c__law_folded : ckS 60 { N := N__law_folded, sc := defScope (top 36), fo := fun _ => true, gl := gl, bi := bi } 60 (.ss b__law_folded (defBody (top 36))) = true := by kernel_rfl
def N__law_draw : List Str := ["m", "limit", "n", "lot", "here", "cell"]
def b__law_draw : SS := (.cons (.asg (.nm 2) (.idx (.var 0) (.con (.str "spot")))) (.cons (.asg (.ix (.var 0) (.con (.str "spot"))) (.bin .add (.var 2) (.con (.int 1)))) (.cons (.ite (.cmp .ne (.idx (.var 0) (.con (.str "great"))) (.lst .nil)) (.cons (.asg (.nm 3) (.idx (.var 0) (.con (.str "great")))) (.cons (.asg (.nm 4) (.bin .mod (.blt .int1 (.cons (.var 2) .nil)) (.blt .len (.cons (.var 3) .nil)))) (.cons (.asg (.nm 5) (.idx (.var 3) (.var 4))) (.cons (.ite (.cmp .gt (.var 5) (.con (.int 0))) (.cons (.asg (.ix (.var 3) (.var 4)) (.bin .fdv (.var 5) (.var 1))) (.cons (.ret (.bin .mod (.blt .int1 (.cons (.var 5) .nil)) (.var 1))) .nil)) .nil) .nil)))) .nil) (.cons (.asg (.nm 3) (.idx (.var 0) (.con (.str "cells")))) (.cons (.ret (.bin .mod (.blt .int1 (.cons (.app false 19 (.cons (.app false 19 (.cons (.bin .add (.idx (.var 3) (.bin .mod (.blt .int1 (.cons (.var 2) .nil)) (.con (.int 64)))) (.bin .mul (.con (.int 31)) (.bin .fdv (.var 2) (.con (.int 64))))) (.cons (.var 2) .nil)) []) (.cons (.bin .add (.var 2) (.con (.int 7))) .nil)) []) .nil)) (.var 1))) .nil)))))
theorem c__law_draw : ckS 60 { N := N__law_draw, sc := defScope (top 37), fo := fun _ => true, gl := gl, bi := bi } 60 (.ss b__law_draw (defBody (top 37))) = true := by kernel_rfl
def N__law_begun : List Str := ["script", "m", "cell"]
def b__law_begun : SS := (.cons (.asg (.nm 1) (.dsp [.inr "cells", .inr "great", .inr "spot"] (.cons (.app false 20 (.cons (.var 0) .nil) []) (.cons (.lst .nil) (.cons (.con (.int 0)) .nil))))) (.cons (.asg (.ix (.var 1) (.con (.str "great"))) (.chg (.lcm [2] (.seq (.var 0)) (.nm 2) (.con (.bl true)) (.ife (.cmp .ge (.var 2) (.bin .pow (.con (.int 10)) (.con (.int 18)))) (.var 2) (.con (.int 0)))))) (.cons (.ret (.var 1)) .nil)))
theorem c__law_begun : ckS 60 { N := N__law_begun, sc := defScope (top 38), fo := fun _ => true, gl := gl, bi := bi } 60 (.ss b__law_begun (defBody (top 38))) = true := by kernel_rfl
def N__law_of : List Str := ["m", "some"]
def b__law_of : SS := (.cons (.ret (.idx (.var 1) (.app false 21 (.cons (.var 0) (.cons (.blt .len (.cons (.var 1) .nil)) .nil)) []))) .nil)
theorem c__law_of : ckS 60 { N := N__law_of, sc := defScope (top 39), fo := fun _ => true, gl := gl, bi := bi } 60 (.ss b__law_of (defBody (top 39))) = true := by kernel_rfl
def N__law_like : List Str := ["got", "due", "n"]
def b__law_like : SS := (.cons (.ite (.cmp .isn (.var 1) (.con .non)) (.cons (.ret (.cmp .isn (.var 0) (.con .non))) .nil) .nil) (.cons (.ite (.isi (.var 1) [.bool]) (.cons (.ret (.an (.isi (.var 0) [.bool]) (.cmp .eq (.var 0) (.var 1)))) .nil) .nil) (.cons (.ite (.isi (.var 1) [.int]) (.cons (.ret (.an (.isi (.var 0) [.int]) (.an (.nt (.isi (.var 0) [.bool])) (.cmp .eq (.var 0) (.var 1))))) .nil) .nil) (.cons (.ite (.isi (.var 1) [.str]) (.cons (.ret (.an (.isi (.var 0) [.str]) (.cmp .eq (.var 0) (.var 1)))) .nil) .nil) (.cons (.ite (.orr (.an (.isi (.var 1) [.tuple]) (.nt (.isi (.var 0) [.tuple]))) (.an (.isi (.var 1) [.list]) (.nt (.isi (.var 0) [.list])))) (.cons (.ret (.con (.bl false))) .nil) .nil) (.cons (.ite (.cmp .ne (.blt .len (.cons (.var 0) .nil)) (.blt .len (.cons (.var 1) .nil))) (.cons (.ret (.con (.bl false))) .nil) .nil) (.cons (.fr (.nm 2) (.rng (.cons (.blt .len (.cons (.var 1) .nil)) .nil)) (.cons (.ite (.nt (.app false 24 (.cons (.idx (.var 0) (.var 2)) (.cons (.idx (.var 1) (.var 2)) .nil)) [])) (.cons (.ret (.con (.bl false))) .nil) .nil) .nil)) (.cons (.ret (.con (.bl true))) .nil))))))))
theorem c__law_like : ckS 60 { N := N__law_like, sc := defScope (top 40), fo := fun _ => true, gl := gl, bi := bi } 60 (.ss b__law_like (defBody (top 40))) = true := by kernel_rfl
def N__law_order : List Str := ["m", "many", "left", "found"]
def b__law_order : SS := (.cons (.asg (.tp (.cons (.nm 2) (.cons (.nm 3) .nil))) (.tup (.cons (.chg (.lrg false (.cons (.var 1) .nil))) (.cons (.chg (.lst .nil)) .nil)))) (.cons (.whl (.cmp .ne (.var 2) (.lst .nil)) (.cons (.ex (.mth .append (.var 3) (.cons (.mth .pop1 (.var 2) (.cons (.app false 21 (.cons (.var 0) (.cons (.blt .len (.cons (.var 2) .nil)) .nil)) []) .nil)) .nil))) .nil)) (.cons (.ret (.var 3)) .nil)))
theorem c__law_order : ckS 60 { N := N__law_order, sc := defScope (top 41), fo := fun _ => true, gl := gl, bi := bi } 60 (.ss b__law_order (defBody (top 41))) = true := by kernel_rfl
def N__law_common : List Str := ["one", "other"]
def b__law_common : SS := (.cons (.asg (.tp (.cons (.nm 0) (.cons (.nm 1) .nil))) (.tup (.cons (.blt .abs (.cons (.var 0) .nil)) (.cons (.blt .abs (.cons (.var 1) .nil)) .nil)))) (.cons (.whl (.cmp .ne (.var 1) (.con (.int 0))) (.cons (.asg (.tp (.cons (.nm 0) (.cons (.nm 1) .nil))) (.tup (.cons (.var 1) (.cons (.bin .mod (.blt .int1 (.cons (.var 0) .nil)) (.var 1)) .nil)))) .nil)) (.cons (.ret (.var 0)) .nil)))
theorem c__law_common : ckS 60 { N := N__law_common, sc := defScope (top 42), fo := fun _ => true, gl := gl, bi := bi } 60 (.ss b__law_common (defBody (top 42))) = true := by kernel_rfl
def N__law_ratio : List Str := ["upper", "under", "common"]
def b__law_ratio : SS := (.cons (.asg (.nm 2) (.app false 26 (.cons (.var 0) (.cons (.var 1) .nil)) [])) (.cons (.asg (.nm 2) (.ife (.cmp .lt (.var 1) (.con (.int 0))) (.neg (.var 2)) (.var 2))) (.cons (.ret (.tup (.cons (.bin .fdv (.var 0) (.var 2)) (.cons (.bin .fdv (.var 1) (.var 2)) .nil)))) .nil)))
theorem c__law_ratio : ckS 60 { N := N__law_ratio, sc := defScope (top 43), fo := fun _ => true, gl := gl, bi := bi } 60 (.ss b__law_ratio (defBody (top 43))) = true := by kernel_rfl
def N__law_sum : List Str := ["fractions", "found", "upper", "under"]
def b__law_sum : SS := (.cons (.asg (.nm 1) (.tup (.cons (.con (.int 0)) (.cons (.con (.int 1)) .nil)))) (.cons (.fr (.tp (.cons (.nm 2) (.cons (.nm 3) .nil))) (.seq (.var 0)) (.cons (.asg (.nm 1) (.app false 27 (.cons (.bin .add (.bin .mul (.idx (.var 1) (.con (.int 0))) (.var 3)) (.bin .mul (.var 2) (.idx (.var 1) (.con (.int 1))))) (.cons (.bin .mul (.idx (.var 1) (.con (.int 1))) (.var 3)) .nil)) [])) .nil)) (.cons (.ret (.var 1)) .nil)))
theorem c__law_sum : ckS 60 { N := N__law_sum, sc := defScope (top 44), fo := fun _ => true, gl := gl, bi := bi } 60 (.ss b__law_sum (defBody (top 44))) = true := by kernel_rfl
def N__law_times : List Str := ["fractions", "found", "upper", "under"]
def b__law_times : SS := (.cons (.asg (.nm 1) (.tup (.cons (.con (.int 1)) (.cons (.con (.int 1)) .nil)))) (.cons (.fr (.tp (.cons (.nm 2) (.cons (.nm 3) .nil))) (.seq (.var 0)) (.cons (.asg (.nm 1) (.app false 27 (.cons (.bin .mul (.idx (.var 1) (.con (.int 0))) (.var 2)) (.cons (.bin .mul (.idx (.var 1) (.con (.int 1))) (.var 3)) .nil)) [])) .nil)) (.cons (.ret (.var 1)) .nil)))
theorem c__law_times : ckS 60 { N := N__law_times, sc := defScope (top 45), fo := fun _ => true, gl := gl, bi := bi } 60 (.ss b__law_times (defBody (top 45))) = true := by kernel_rfl
def N__law_over : List Str := ["one", "other"]
def b__law_over : SS := (.cons (.ret (.app false 27 (.cons (.bin .mul (.idx (.var 0) (.con (.int 0))) (.idx (.var 1) (.con (.int 1)))) (.cons (.bin .mul (.idx (.var 0) (.con (.int 1))) (.idx (.var 1) (.con (.int 0)))) .nil)) [])) .nil)
theorem c__law_over : ckS 60 { N := N__law_over, sc := defScope (top 46), fo := fun _ => true, gl := gl, bi := bi } 60 (.ss b__law_over (defBody (top 46))) = true := by kernel_rfl
def N__law_strength : List Str := ["m", "pick"]
def b__law_strength : SS := (.cons (.asg (.nm 1) (.app false 21 (.cons (.var 0) (.cons (.con (.int 8)) .nil)) [])) (.cons (.ite (.cmp .lt (.var 1) (.con (.int 3))) (.cons (.ret (.tup (.cons (.con (.int 1)) (.cons (.con (.int 1)) .nil)))) .nil) .nil) (.cons (.ite (.cmp .lt (.var 1) (.con (.int 7))) (.cons (.ret (.app false 27 (.cons (.bin .add (.con (.int 1)) (.app false 21 (.cons (.var 0) (.cons (.con (.int 6)) .nil)) [])) (.cons (.bin .add (.con (.int 1)) (.app false 21 (.cons (.var 0) (.cons (.con (.int 5)) .nil)) [])) .nil)) [])) .nil) .nil) (.cons (.ret (.app false 27 (.cons (.bin .add (.con (.int 1)) (.app false 21 (.cons (.var 0) (.cons (.bin .pow (.con (.int 10)) (.con (.int 6))) .nil)) [])) (.cons (.bin .add (.con (.int 1)) (.app false 21 (.cons (.var 0) (.cons (.bin .pow (.con (.int 10)) (.con (.int 6))) .nil)) [])) .nil)) [])) .nil))))
theorem c__law_strength : ckS 60 { N := N__law_strength, sc := defScope (top 47), fo := fun _ => true, gl := gl, bi := bi } 60 (.ss b__law_strength (defBody (top 47))) = true := by kernel_rfl
def N__law_net : List Str := ["m", "nodes", "ports", "wires", "found", "turn", "two", "one"]
def b__law_net : SS := (.cons (.asg (.nm 4) (.chg (.lst .nil))) (.cons (.ite (.cmp .gt (.var 1) (.con (.int 1))) (.cons (.fr (.nm 5) (.rng (.cons (.app false 21 (.cons (.var 0) (.cons (.bin .add (.var 3) (.con (.int 1))) .nil)) []) .nil)) (.cons (.asg (.tp (.cons (.nm 7) (.cons (.nm 6) .nil))) (.tup (.cons (.app false 21 (.cons (.var 0) (.cons (.var 1) .nil)) []) (.cons (.app false 21 (.cons (.var 0) (.cons (.bin .sub (.var 1) (.con (.int 1))) .nil)) []) .nil)))) (.cons (.asg (.nm 6) (.ife (.cmp .ge (.var 6) (.var 7)) (.bin .add (.var 6) (.con (.int 1))) (.var 6))) (.cons (.ex (.mth .append (.var 4) (.cons (.tup (.cons (.blt .min2 (.cons (.var 7) (.cons (.var 6) .nil))) (.cons (.blt .max2 (.cons (.var 7) (.cons (.var 6) .nil))) (.cons (.app false 31 (.cons (.var 0) .nil) []) .nil)))) .nil))) .nil)))) .nil) .nil) (.cons (.ret (.tup (.cons (.var 1) (.cons (.var 2) (.cons (.blt .tup1 (.cons (.blt .srt1 (.cons (.var 4) .nil)) .nil)) .nil))))) .nil)))
theorem c__law_net : ckS 60 { N := N__law_net, sc := defScope (top 48), fo := fun _ => true, gl := gl, bi := bi } 60 (.ss b__law_net (defBody (top 48))) = true := by kernel_rfl
def N__law_held : List Str := ["m", "nodes", "ports", "wires", "found", "node", "order", "turn", "two", "one", "n", "strength"]
def b__law_held : SS := (.cons (.asg (.nm 4) (.chg (.lst .nil))) (.cons (.fr (.nm 5) (.rng (.cons (.var 2) (.cons (.var 1) .nil))) (.cons (.ex (.mth .append (.var 4) (.cons (.tup (.cons (.app false 21 (.cons (.var 0) (.cons (.var 5) .nil)) []) (.cons (.var 5) (.cons (.app false 31 (.cons (.var 0) .nil) []) .nil)))) .nil))) .nil)) (.cons (.ite (.cmp .gt (.var 1) (.con (.int 1))) (.cons (.fr (.nm 7) (.rng (.cons (.app false 21 (.cons (.var 0) (.cons (.blt .max2 (.cons (.con (.int 1)) (.cons (.bin .add (.bin .sub (.var 3) (.blt .len (.cons (.var 4) .nil))) (.con (.int 1))) .nil))) .nil)) []) .nil)) (.cons (.asg (.tp (.cons (.nm 9) (.cons (.nm 8) .nil))) (.tup (.cons (.app false 21 (.cons (.var 0) (.cons (.var 1) .nil)) []) (.cons (.app false 21 (.cons (.var 0) (.cons (.bin .sub (.var 1) (.con (.int 1))) .nil)) []) .nil)))) (.cons (.asg (.nm 8) (.ife (.cmp .ge (.var 8) (.var 9)) (.bin .add (.var 8) (.con (.int 1))) (.var 8))) (.cons (.ex (.mth .append (.var 4) (.cons (.tup (.cons (.blt .min2 (.cons (.var 9) (.cons (.var 8) .nil))) (.cons (.blt .max2 (.cons (.var 9) (.cons (.var 8) .nil))) (.cons (.app false 31 (.cons (.var 0) .nil) []) .nil)))) .nil))) .nil)))) .nil) .nil) (.cons (.asg (.nm 6) (.bin .add (.lrg false (.cons (.var 2) .nil)) (.lcm [10] (.seq (.app false 25 (.cons (.var 0) (.cons (.bin .sub (.var 1) (.var 2)) .nil)) [])) (.nm 10) (.con (.bl true)) (.bin .add (.var 2) (.var 10))))) (.cons (.asg (.nm 4) (.chg (.lcm [9, 8, 11] (.seq (.var 4)) (.tp (.cons (.nm 9) (.cons (.nm 8) (.cons (.nm 11) .nil)))) (.con (.bl true)) (.tup (.cons (.blt .min2 (.cons (.idx (.var 6) (.var 9)) (.cons (.idx (.var 6) (.var 8)) .nil))) (.cons (.blt .max2 (.cons (.idx (.var 6) (.var 9)) (.cons (.idx (.var 6) (.var 8)) .nil))) (.cons (.var 11) .nil))))))) (.cons (.ret (.tup (.cons (.var 1) (.cons (.var 2) (.cons (.blt .tup1 (.cons (.blt .srt1 (.cons (.var 4) .nil)) .nil)) .nil))))) .nil))))))
theorem c__law_held : ckS 60 { N := N__law_held, sc := defScope (top 49), fo := fun _ => true, gl := gl, bi := bi } 60 (.ss b__law_held (defBody (top 49))) = true := by kernel_rfl
def N__law_weights : List Str := ["net", "found", "one", "two", "strength"]
def b__law_weights : SS := (.cons (.asg (.nm 1) (.chg (.bin .mul (.lst (.cons (.tup (.cons (.con (.int 0)) (.cons (.con (.int 1)) .nil))) .nil)) (.idx (.var 0) (.con (.int 0)))))) (.cons (.fr (.tp (.cons (.nm 2) (.cons (.nm 3) (.cons (.nm 4) .nil)))) (.seq (.idx (.var 0) (.con (.int 2)))) (.cons (.asg (.tp (.cons (.ix (.var 1) (.var 2)) (.cons (.ix (.var 1) (.var 3)) .nil))) (.tup (.cons (.app false 28 (.cons (.lst (.cons (.idx (.var 1) (.var 2)) (.cons (.var 4) .nil))) .nil) []) (.cons (.app false 28 (.cons (.lst (.cons (.idx (.var 1) (.var 3)) (.cons (.var 4) .nil))) .nil) []) .nil)))) .nil)) (.cons (.ret (.var 1)) .nil)))
theorem c__law_weights : ckS 60 { N := N__law_weights, sc := defScope (top 50), fo := fun _ => true, gl := gl, bi := bi } 60 (.ss b__law_weights (defBody (top 50))) = true := by kernel_rfl
def N__law_any_net : List Str := ["m", "nodes"]
def b__law_any_net : SS := (.cons (.asg (.nm 1) (.bin .add (.con (.int 1)) (.app false 21 (.cons (.var 0) (.cons (.con (.int 6)) .nil)) []))) (.cons (.ite (.cmp .eq (.app false 21 (.cons (.var 0) (.cons (.con (.int 2)) .nil)) []) (.con (.int 0))) (.cons (.ret (.app false 32 (.cons (.var 0) (.cons (.var 1) (.cons (.app false 21 (.cons (.var 0) (.cons (.bin .add (.var 1) (.con (.int 1))) .nil)) []) (.cons (.con (.int 9)) .nil)))) [])) .nil) .nil) (.cons (.ret (.app false 33 (.cons (.var 0) (.cons (.var 1) (.cons (.bin .add (.con (.int 1)) (.app false 21 (.cons (.var 0) (.cons (.var 1) .nil)) [])) (.cons (.con (.int 9)) .nil)))) [])) .nil)))
theorem c__law_any_net : ckS 60 { N := N__law_any_net, sc := defScope (top 51), fo := fun _ => true, gl := gl, bi := bi } 60 (.ss b__law_any_net (defBody (top 51))) = true := by kernel_rfl
def N__law_great_net : List Str := ["m", "node", "turn", "net", "order", "wires", "nodes", "one", "strength", "two"]
def b__law_great_net : SS := (.cons (.asg (.tp (.cons (.nm 6) (.cons (.nm 5) .nil))) (.tup (.cons (.bin .add (.con (.int 7)) (.app false 21 (.cons (.var 0) (.cons (.con (.int 6)) .nil)) [])) (.cons (.chg (.lst .nil)) .nil)))) (.cons (.fr (.nm 1) (.rng (.cons (.con (.int 1)) (.cons (.var 6) .nil))) (.cons (.ite (.cmp .gt (.app false 21 (.cons (.var 0) (.cons (.con (.int 8)) .nil)) []) (.con (.int 0))) (.cons (.ex (.mth .append (.var 5) (.cons (.tup (.cons (.app false 21 (.cons (.var 0) (.cons (.var 1) .nil)) []) (.cons (.var 1) (.cons (.app false 27 (.cons (.bin .add (.con (.int 1)) (.app false 21 (.cons (.var 0) (.cons (.con (.int 4)) .nil)) [])) (.cons (.bin .add (.con (.int 1)) (.app false 21 (.cons (.var 0) (.cons (.con (.int 3)) .nil)) [])) .nil)) []) .nil)))) .nil))) .nil) .nil) .nil)) (.cons (.fr (.nm 2) (.rng (.cons (.app false 21 (.cons (.var 0) (.cons (.con (.int 7)) .nil)) []) .nil)) (.cons (.asg (.tp (.cons (.nm 7) (.cons (.nm 8) .nil))) (.tup (.cons (.app false 21 (.cons (.var 0) (.cons (.bin .sub (.var 6) (.con (.int 1))) .nil)) []) (.cons (.app false 27 (.cons (.bin .add (.con (.int 1)) (.app false 21 (.cons (.var 0) (.cons (.con (.int 3)) .nil)) [])) (.cons (.bin .add (.con (.int 1)) (.app false 21 (.cons (.var 0) (.cons (.con (.int 4)) .nil)) [])) .nil)) []) .nil)))) (.cons (.ex (.mth .append (.var 5) (.cons (.tup (.cons (.var 7) (.cons (.bin .add (.bin .add (.var 7) (.con (.int 1))) (.app false 21 (.cons (.var 0) (.cons (.bin .sub (.bin .sub (.var 6) (.con (.int 1))) (.var 7)) .nil)) [])) (.cons (.var 8) .nil)))) .nil))) .nil))) (.cons (.asg (.nm 3) (.tup (.cons (.var 6) (.cons (.con (.int 0)) (.cons (.blt .tup1 (.cons (.blt .srt1 (.cons (.var 5) .nil)) .nil)) .nil))))) (.cons (.asg (.nm 4) (.app false 25 (.cons (.var 0) (.cons (.var 6) .nil)) [])) (.cons (.asg (.nm 5) (.chg (.lcm [7, 9, 8] (.seq (.idx (.var 3) (.con (.int 2)))) (.tp (.cons (.nm 7) (.cons (.nm 9) (.cons (.nm 8) .nil)))) (.con (.bl true)) (.tup (.cons (.blt .min2 (.cons (.idx (.var 4) (.var 7)) (.cons (.idx (.var 4) (.var 9)) .nil))) (.cons (.blt .max2 (.cons (.idx (.var 4) (.var 7)) (.cons (.idx (.var 4) (.var 9)) .nil))) (.cons (.var 8) .nil))))))) (.cons (.ret (.tup (.cons (.var 6) (.cons (.ife (.cmp .gt (.var 6) (.con (.int 7))) (.app false 21 (.cons (.var 0) (.cons (.con (.int 9)) .nil)) []) (.app false 21 (.cons (.var 0) (.cons (.con (.int 8)) .nil)) [])) (.cons (.blt .tup1 (.cons (.blt .srt1 (.cons (.var 5) .nil)) .nil)) .nil))))) .nil)))))))
theorem c__law_great_net : ckS 60 { N := N__law_great_net, sc := defScope (top 52), fo := fun _ => true, gl := gl, bi := bi } 60 (.ss b__law_great_net (defBody (top 52))) = true := by kernel_rfl
def N__law_shared : List Str := ["net", "chances", "node", "weights", "found", "parts", "one", "two", "strength"]
def b__law_shared : SS := (.cons (.asg (.tp (.cons (.nm 3) (.cons (.nm 4) .nil))) (.tup (.cons (.app false 34 (.cons (.var 0) .nil) []) (.cons (.chg (.lst .nil)) .nil)))) (.cons (.fr (.nm 2) (.rng (.cons (.idx (.var 0) (.con (.int 0))) .nil)) (.cons (.asg (.nm 5) (.ife (.cmp .eq (.idx (.idx (.var 3) (.var 2)) (.con (.int 0))) (.con (.int 0))) (.chg (.lst (.cons (.idx (.var 1) (.var 2)) .nil))) (.chg (.lst .nil)))) (.cons (.fr (.tp (.cons (.nm 6) (.cons (.nm 7) (.cons (.nm 8) .nil)))) (.seq (.idx (.var 0) (.con (.int 2)))) (.cons (.ite (.cmp .eq (.var 6) (.var 2)) (.cons (.ex (.mth .append (.var 5) (.cons (.app false 30 (.cons (.app false 29 (.cons (.lst (.cons (.idx (.var 1) (.var 7)) (.cons (.var 8) .nil))) .nil) []) (.cons (.idx (.var 3) (.var 7)) .nil)) []) .nil))) .nil) .nil) (.cons (.ite (.cmp .eq (.var 7) (.var 2)) (.cons (.ex (.mth .append (.var 5) (.cons (.app false 30 (.cons (.app false 29 (.cons (.lst (.cons (.idx (.var 1) (.var 6)) (.cons (.var 8) .nil))) .nil) []) (.cons (.idx (.var 3) (.var 6)) .nil)) []) .nil))) .nil) .nil) .nil))) (.cons (.ex (.mth .append (.var 4) (.cons (.app false 28 (.cons (.var 5) .nil) []) .nil))) .nil)))) (.cons (.ret (.var 4)) .nil)))
theorem c__law_shared : ckS 60 { N := N__law_shared, sc := defScope (top 53), fo := fun _ => true, gl := gl, bi := bi } 60 (.ss b__law_shared (defBody (top 53))) = true := by kernel_rfl
def N__law_after : List Str := ["net", "node", "steps", "found", "turn", "one"]
def b__law_after : SS := (.cons (.asg (.nm 3) (.lcm [5] (.rng (.cons (.idx (.var 0) (.con (.int 0))) .nil)) (.nm 5) (.con (.bl true)) (.tup (.cons (.blt .int1 (.cons (.cmp .eq (.var 5) (.var 1)) .nil)) (.cons (.con (.int 1)) .nil))))) (.cons (.fr (.nm 4) (.rng (.cons (.var 2) .nil)) (.cons (.asg (.nm 3) (.app false 37 (.cons (.var 0) (.cons (.var 3) .nil)) [])) .nil)) (.cons (.ret (.blt .tup1 (.cons (.var 3) .nil))) .nil)))
theorem c__law_after : ckS 60 { N := N__law_after, sc := defScope (top 54), fo := fun _ => true, gl := gl, bi := bi } 60 (.ss b__law_after (defBody (top 54))) = true := by kernel_rfl
def N__law_heard : List Str := ["call", "told", "e"]
def b__law_heard : SS := (.cons (.asg (.nm 1) (.lst (.cons (.con (.str "none")) (.cons (.con .non) .nil)))) (.cons (.trc 0 1 2 "told" [(2, "net", "place"), (4, "nodes", "value"), (3, "number", "value")]) (.cons (.ret (.var 1)) .nil)))
theorem c__law_heard : ckS 60 { N := N__law_heard, sc := defScope (top 55), fo := fun _ => true, gl := glh, bi := bi, hd := true } 60 (.ss b__law_heard (defBody (top 55))) = true := by kernel_rfl
def N__law_right : List Str := ["m", "net", "due", "told", "back", "node", "steps", "weights", "other"]
def b__law_right : SS := (.cons (.ite (.nt (.app false 24 (.cons (.lst (.cons (.app false 14 (.cons (.var 1) .nil) []) (.cons (.apk 14 (.cons (.var 1) .nil) [.inl 0]) .nil))) (.cons (.bin .mul (.lst (.cons (.blt .tup1 (.cons (.app false 34 (.cons (.var 1) .nil) []) .nil)) .nil)) (.con (.int 2))) .nil)) [])) (.cons (.ret (.con (.bl false))) .nil) .nil) (.cons (.asg (.tp (.cons (.nm 5) (.cons (.nm 6) .nil))) (.tup (.cons (.app false 21 (.cons (.var 0) (.cons (.idx (.var 1) (.con (.int 0))) .nil)) []) (.cons (.app false 21 (.cons (.var 0) (.cons (.con (.int 10)) .nil)) []) .nil)))) (.cons (.asg (.nm 2) (.app false 38 (.cons (.var 1) (.cons (.var 5) (.cons (.var 6) .nil))) [])) (.cons (.asg (.nm 3) (.lst (.cons (.app false 17 (.cons (.var 1) (.cons (.var 5) (.cons (.var 6) .nil))) []) (.cons (.apk 17 (.cons (.var 6) (.cons (.var 5) (.cons (.var 1) .nil))) [.inl 2, .inl 1, .inl 0]) .nil)))) (.cons (.ite (.nt (.app false 24 (.cons (.bin .add (.var 3) (.lst (.cons (.apk 18 (.cons (.var 5) (.cons (.var 1) .nil)) [.inl 1, .inl 0]) .nil))) (.cons (.lst (.cons (.var 2) (.cons (.var 2) (.cons (.app false 38 (.cons (.var 1) (.cons (.var 5) (.cons (.con (.int 1)) .nil))) []) .nil)))) .nil)) [])) (.cons (.ret (.con (.bl false))) .nil) .nil) (.cons (.asg (.tp (.cons (.nm 7) (.cons (.nm 8) .nil))) (.tup (.cons (.app false 34 (.cons (.var 1) .nil) []) (.cons (.app false 21 (.cons (.var 0) (.cons (.idx (.var 1) (.con (.int 0))) .nil)) []) .nil)))) (.cons (.asg (.nm 4) (.idx (.app false 17 (.cons (.var 1) (.cons (.var 8) (.cons (.var 6) .nil))) []) (.var 5))) (.cons (.ite (.cmp .ne (.app false 29 (.cons (.lst (.cons (.idx (.var 7) (.var 5)) (.cons (.idx (.var 2) (.var 8)) .nil))) .nil) []) (.app false 29 (.cons (.lst (.cons (.idx (.var 7) (.var 8)) (.cons (.var 4) .nil))) .nil) [])) (.cons (.ret (.con (.bl false))) .nil) .nil) (.cons (.ret (.cmp .eq (.app false 28 (.cons (.var 2) .nil) []) (.tup (.cons (.con (.int 1)) (.cons (.con (.int 1)) .nil))))) .nil)))))))))
theorem c__law_right : ckS 60 { N := N__law_right, sc := defScope (top 56), fo := fun _ => true, gl := gl, bi := bi } 60 (.ss b__law_right (defBody (top 56))) = true := by kernel_rfl
def N__law_refused_right : List Str := ["m", "net", "some", "told", "due", "odd", "far", "bad", "place"]
def b__law_refused_right : SS := (.cons (.asg (.tp (.cons (.nm 5) (.cons (.nm 6) .nil))) (.tup (.cons (.app false 23 (.cons (.var 0) (.cons (.lst (.cons (.neg (.con (.int 1))) (.cons (.idx (.var 1) (.con (.int 0))) (.cons (.con (.bl true)) (.cons (.con .non) (.cons (.con (.str "0")) (.cons (.tup (.cons (.con (.int 0)) .nil)) .nil))))))) .nil)) []) (.cons (.app false 23 (.cons (.var 0) (.cons (.lst (.cons (.neg (.con (.int 1))) (.cons (.con (.int 61)) (.cons (.con (.bl false)) (.cons (.con .non) (.cons (.tup (.cons (.con (.int 3)) .nil)) .nil)))))) .nil)) []) .nil)))) (.cons (.asg (.nm 2) (.lst (.cons (.tup (.cons (.con .non) (.cons (.con (.str "form")) .nil))) (.cons (.tup (.cons (.tup (.cons (.con (.int 49)) (.cons (.con (.int 0)) (.cons (.tup .nil) .nil)))) (.cons (.con (.str "nodes")) .nil))) (.cons (.tup (.cons (.tup (.cons (.con (.int 2)) (.cons (.con (.int 3)) (.cons (.tup .nil) .nil)))) (.cons (.con (.str "ports")) .nil))) (.cons (.tup (.cons (.tup (.cons (.con (.int 2)) (.cons (.con (.int 1)) (.cons (.tup (.cons (.tup (.cons (.con (.int 0)) (.cons (.con (.int 1)) (.cons (.tup (.cons (.con (.int 0)) (.cons (.con (.int 1)) .nil))) .nil)))) .nil)) .nil)))) (.cons (.con (.int 0)) .nil))) .nil)))))) (.cons (.asg (.tp (.cons (.nm 7) (.cons (.nm 8) .nil))) (.app false 23 (.cons (.var 0) (.cons (.var 2) .nil)) [])) (.cons (.asg (.nm 3) (.lst (.cons (.hrd 39 (.app false 14 (.cons (.var 7) .nil) [])) (.cons (.hrd 39 (.app false 17 (.cons (.var 7) (.cons (.var 5) (.cons (.var 6) .nil))) [])) (.cons (.hrd 39 (.app false 17 (.cons (.var 1) (.cons (.var 5) (.cons (.var 6) .nil))) [])) (.cons (.hrd 39 (.app false 17 (.cons (.var 1) (.cons (.con (.int 0)) (.cons (.var 6) .nil))) [])) (.cons (.hrd 39 (.app false 18 (.cons (.var 1) (.cons (.var 5) .nil)) [])) (.cons (.hrd 39 (.app false 18 (.cons (.tup (.cons (.con (.int 0)) (.cons (.con (.int 0)) (.cons (.tup .nil) .nil)))) (.cons (.con (.int 0)) .nil)) [])) .nil)))))))) (.cons (.asg (.nm 4) (.lst (.cons (.lst (.cons (.con (.str "net")) (.cons (.var 8) .nil))) (.cons (.lst (.cons (.con (.str "net")) (.cons (.var 8) .nil))) (.cons (.lst (.cons (.con (.str "nodes")) (.cons (.var 5) .nil))) (.cons (.lst (.cons (.con (.str "number")) (.cons (.var 6) .nil))) (.cons (.lst (.cons (.con (.str "nodes")) (.cons (.var 5) .nil))) .nil))))))) (.cons (.ret (.app false 24 (.cons (.var 3) (.cons (.bin .add (.var 4) (.lst (.cons (.lst (.cons (.con (.str "nodes")) (.cons (.con (.int 0)) .nil))) .nil))) .nil)) [])) .nil))))))
theorem c__law_refused_right : ckS 60 { N := N__law_refused_right, sc := defScope (top 57), fo := fun _ => true, gl := gl, bi := bi, lm := true } 60 (.ss b__law_refused_right (defBody (top 57))) = true := by kernel_rfl
def N_law : List Str := ["script", "m", "turn", "pair", "net"]
def b_law : SS := (.cons (.asg (.nm 1) (.app true 22 (.cons (.var 0) .nil) [])) (.cons (.fr (.nm 2) (.rng (.cons (.con (.int 4)) .nil)) (.cons (.asg (.nm 4) (.app false 35 (.cons (.var 1) .nil) [])) (.cons (.ite (.nt (.app false 40 (.cons (.var 1) (.cons (.var 4) .nil)) [])) (.cons (.ret (.con (.bl false))) .nil) .nil) .nil))) (.cons (.ite (.an (.cmp .eq (.app false 21 (.cons (.var 1) (.cons (.con (.int 3)) .nil)) []) (.con (.int 0))) (.nt (.app false 40 (.cons (.var 1) (.cons (.app false 36 (.cons (.var 1) .nil) []) .nil)) []))) (.cons (.ret (.con (.bl false))) .nil) .nil) (.cons (.asg (.nm 3) (.tup (.cons (.con (.int 2)) (.cons (.app false 21 (.cons (.var 1) (.cons (.con (.int 3)) .nil)) []) (.cons (.tup (.cons (.tup (.cons (.con (.int 0)) (.cons (.con (.int 1)) (.cons (.app false 31 (.cons (.var 1) .nil) []) .nil)))) .nil)) .nil))))) (.cons (.ite (.nt (.app false 24 (.cons (.app false 17 (.cons (.var 3) (.cons (.con (.int 0)) (.cons (.bin .sub (.con (.int 60)) (.bin .mul (.app false 21 (.cons (.var 1) (.cons (.con (.int 2)) .nil)) []) (.con (.int 2)))) .nil))) []) (.cons (.tup (.cons (.tup (.cons (.con (.int 1)) (.cons (.con (.int 1)) .nil))) (.cons (.tup (.cons (.con (.int 0)) (.cons (.con (.int 1)) .nil))) .nil))) .nil)) [])) (.cons (.ret (.con (.bl false))) .nil) .nil) (.cons (.ret (.an (.app false 24 (.cons (.app false 14 (.cons (.tup (.cons (.con (.int 0)) (.cons (.con (.int 0)) (.cons (.tup .nil) .nil)))) .nil) []) (.cons (.tup .nil) .nil)) []) (.app false 41 (.cons (.var 1) (.cons (.var 4) .nil)) []))) .nil))))))
theorem c_law : ckS 60 { N := N_law, sc := defScope (top 58), fo := fun _ => true, gl := gl, bi := bi } 60 (.ss b_law (defBody (top 58))) = true := by kernel_rfl
end MI
end
section
set_option Elab.async false
set_option linter.all false
set_option maxRecDepth 100000
set_option maxHeartbeats 0
namespace MI
open PySem PySem.Spec PyProof.Rows L2
open He (Fa DefD)
abbrev hdW : PySem.W.OpenRow := PySem.W.OpenLaw.row PySem.Challenge.rw_portstell_k60_walks_step_by_step
def dd (x : Str) (i : Nat) (dfl : List He.Dv) : DefD := ⟨(x, none), x, x, defArgs (top i), defBody (top i), defScope (top i), dfl, []⟩
def hdF1 : List DefD := [dd "is_whole" 6 [.non, .non], dd "is_row" 7 [.non], dd "gcd" 8 [], dd "is_fraction" 12 [], dd "ratio" 13 [], dd "ratio_sum" 14 [], dd "ratio_times" 15 [], dd "ratio_over" 16 [], dd "ratio_total" 17 [], dd "is_wire" 22 [], dd "net_fault" 23 [], dd "need_net" 24 [], dd "wires_at" 25 [], dd "weights_of" 28 [], dd "node_weights" 29 [], dd "need_node" 30 [], dd "stepped_chances" 31 [], dd "chances_after" 32 [], dd "step_chances" 33 [], dd "_law_mixed" 35 [], dd "_law_folded" 36 [], dd "_law_draw" 37 [], dd "_law_begun" 38 [], dd "_law_of" 39 [], dd "_law_like" 40 [], dd "_law_order" 41 [], dd "_law_common" 42 [], dd "_law_ratio" 43 [], dd "_law_sum" 44 [], dd "_law_times" 45 []]
def hdF2 : List DefD := [dd "_law_over" 46 [], dd "_law_strength" 47 [], dd "_law_net" 48 [], dd "_law_held" 49 [], dd "_law_weights" 50 [], dd "_law_any_net" 51 [], dd "_law_great_net" 52 [], dd "_law_shared" 53 [], dd "_law_after" 54 [], dd "_law_heard" 55 [], dd "_law_right" 56 [], dd "_law_refused_right" 57 [], dd "law" 58 []]
def hdF : List DefD := hdF1 ++ hdF2
def hdA0 : List Fa := [.glo "is_whole", .glo "is_row", .glo "gcd", .glo "is_fraction", .glo "ratio", .glo "ratio_sum", .glo "ratio_times", .glo "ratio_over", .glo "ratio_total", .glo "is_wire", .glo "net_fault", .glo "need_net", .glo "wires_at", .glo "weights_of", .glo "node_weights", .glo "need_node", .glo "stepped_chances", .glo "chances_after", .glo "step_chances", .glo "_law_mixed", .glo "_law_folded", .glo "_law_draw", .glo "_law_begun", .glo "_law_of", .glo "_law_like", .glo "_law_order", .glo "_law_common", .glo "_law_ratio", .glo "_law_sum", .glo "_law_times"]
def hdA1 : List Fa := [.glo "_law_over", .glo "_law_strength", .glo "_law_net", .glo "_law_held", .glo "_law_weights", .glo "_law_any_net", .glo "_law_great_net", .glo "_law_shared", .glo "_law_after", .glo "_law_heard", .glo "_law_right", .glo "_law_refused_right", .glo "law", .glo "WireError", .glo "BadNet", .glo "BadNumber", .glo "BadNodes", .int "MOST_NODES" (48), .int "MOST_PORTS" (8), .int "MOST_WIRES" (40), .int "MOST_STEPS" (60), .free "len", .free "abs", .free "min", .free "max", .free "int", .free "tuple", .free "list", .free "all", .free "any"]
def hdA2 : List Fa := [.free "sum", .free "range", .free "enumerate", .free "isinstance", .free "bool", .free "str", .free "dict", .free "zip", .free "sorted", .glo "NONE", .glo "ONE"]
def hdA : List Fa := hdA0 ++ hdA1 ++ hdA2
def hdL0 : List Str := ["is_whole", "is_row", "gcd", "is_fraction", "ratio", "ratio_sum", "ratio_times", "ratio_over", "ratio_total", "is_wire", "net_fault", "need_net", "wires_at", "weights_of", "node_weights", "need_node", "stepped_chances", "chances_after", "step_chances", "_law_mixed", "_law_folded", "_law_draw", "_law_begun", "_law_of", "_law_like", "_law_order", "_law_common", "_law_ratio", "_law_sum", "_law_times"]
def hdL1 : List Str := ["_law_over", "_law_strength", "_law_net", "_law_held", "_law_weights", "_law_any_net", "_law_great_net", "_law_shared", "_law_after", "_law_heard", "_law_right", "_law_refused_right", "WireError", "BadNet", "BadNumber", "BadNodes", "NONE", "ONE", "MOST_NODES", "MOST_PORTS", "MOST_WIRES", "MOST_STEPS"]
def hdL : List Str := hdL0 ++ hdL1
def hdR : List RsD := [⟨"BadNet", "place", "BadNet.__init__", defArgs ((C8.clsBody (top 2)).getD 0 (.Pass ⟨0, 0, 0, 0⟩)), defBody ((C8.clsBody (top 2)).getD 0 (.Pass ⟨0, 0, 0, 0⟩)), defScope ((C8.clsBody (top 2)).getD 0 (.Pass ⟨0, 0, 0, 0⟩))⟩, ⟨"BadNumber", "value", "BadNumber.__init__", defArgs ((C8.clsBody (top 3)).getD 0 (.Pass ⟨0, 0, 0, 0⟩)), defBody ((C8.clsBody (top 3)).getD 0 (.Pass ⟨0, 0, 0, 0⟩)), defScope ((C8.clsBody (top 3)).getD 0 (.Pass ⟨0, 0, 0, 0⟩))⟩, ⟨"BadNodes", "value", "BadNodes.__init__", defArgs ((C8.clsBody (top 4)).getD 0 (.Pass ⟨0, 0, 0, 0⟩)), defBody ((C8.clsBody (top 4)).getD 0 (.Pass ⟨0, 0, 0, 0⟩)), defScope ((C8.clsBody (top 4)).getD 0 (.Pass ⟨0, 0, 0, 0⟩))⟩]
def clsN : Nat → Str
  | 1 => "WireError"
  | 2 => "BadNet"
  | 3 => "BadNumber"
  | 4 => "BadNodes"
  | _ => ""
def subT : Nat → Nat → Option Bool
  | 2, 1 => some true
  | 2, 2 => some true
  | 2, 3 => some false
  | 2, 4 => some false
  | 3, 1 => some true
  | 3, 2 => some false
  | 3, 3 => some true
  | 3, 4 => some false
  | 4, 1 => some true
  | 4, 2 => some false
  | 4, 3 => some false
  | 4, 4 => some true
  | _, _ => none
def fldT : Nat → Str
  | 2 => "place"
  | 3 => "value"
  | 4 => "value"
  | _ => ""
/-- the defs that make lambdas -/
def lamQ : List (Str × Nat) := [("_law_refused_right", 57)]
def lamD : List He.Defn := lamQ.map fun d => (d.1, none)
def hdX (K : PySem.W.Frag) : Bool := decide ((lamD.map fun d => (He.cT K d).2).Nodup) && (He.tupB K "NONE" [.int (0), .int (1)] && (He.tupB K "ONE" [.int (1), .int (1)] && (exfB K (He.ga K "BadNet") "place" && (exfB K (He.ga K "BadNumber") "value" && (exfB K (He.ga K "BadNodes") "value" && ((decide (PySem.W.kitOne K (.ref (He.ga K "BadNet")) (.ref (He.ga K "WireError")) = some true) && decide (PySem.W.exmOne K (.ref (He.ga K "BadNet")) (.ref (He.ga K "WireError")) = some true)) && ((decide (PySem.W.kitOne K (.ref (He.ga K "BadNet")) (.ref (He.ga K "BadNet")) = some true) && decide (PySem.W.exmOne K (.ref (He.ga K "BadNet")) (.ref (He.ga K "BadNet")) = some true)) && ((decide (PySem.W.kitOne K (.ref (He.ga K "BadNet")) (.ref (He.ga K "BadNumber")) = some false) && decide (PySem.W.exmOne K (.ref (He.ga K "BadNet")) (.ref (He.ga K "BadNumber")) = some false)) && ((decide (PySem.W.kitOne K (.ref (He.ga K "BadNet")) (.ref (He.ga K "BadNodes")) = some false) && decide (PySem.W.exmOne K (.ref (He.ga K "BadNet")) (.ref (He.ga K "BadNodes")) = some false)) && ((decide (PySem.W.kitOne K (.ref (He.ga K "BadNumber")) (.ref (He.ga K "WireError")) = some true) && decide (PySem.W.exmOne K (.ref (He.ga K "BadNumber")) (.ref (He.ga K "WireError")) = some true)) && ((decide (PySem.W.kitOne K (.ref (He.ga K "BadNumber")) (.ref (He.ga K "BadNet")) = some false) && decide (PySem.W.exmOne K (.ref (He.ga K "BadNumber")) (.ref (He.ga K "BadNet")) = some false)) && ((decide (PySem.W.kitOne K (.ref (He.ga K "BadNumber")) (.ref (He.ga K "BadNumber")) = some true) && decide (PySem.W.exmOne K (.ref (He.ga K "BadNumber")) (.ref (He.ga K "BadNumber")) = some true)) && ((decide (PySem.W.kitOne K (.ref (He.ga K "BadNumber")) (.ref (He.ga K "BadNodes")) = some false) && decide (PySem.W.exmOne K (.ref (He.ga K "BadNumber")) (.ref (He.ga K "BadNodes")) = some false)) && ((decide (PySem.W.kitOne K (.ref (He.ga K "BadNodes")) (.ref (He.ga K "WireError")) = some true) && decide (PySem.W.exmOne K (.ref (He.ga K "BadNodes")) (.ref (He.ga K "WireError")) = some true)) && ((decide (PySem.W.kitOne K (.ref (He.ga K "BadNodes")) (.ref (He.ga K "BadNet")) = some false) && decide (PySem.W.exmOne K (.ref (He.ga K "BadNodes")) (.ref (He.ga K "BadNet")) = some false)) && ((decide (PySem.W.kitOne K (.ref (He.ga K "BadNodes")) (.ref (He.ga K "BadNumber")) = some false) && decide (PySem.W.exmOne K (.ref (He.ga K "BadNodes")) (.ref (He.ga K "BadNumber")) = some false)) && ((decide (PySem.W.kitOne K (.ref (He.ga K "BadNodes")) (.ref (He.ga K "BadNodes")) = some true) && decide (PySem.W.exmOne K (.ref (He.ga K "BadNodes")) (.ref (He.ga K "BadNodes")) = some true)))))))))))))))))))
abbrev hdK : PySem.W.Hook := hookM 6 hdA hdF hdR lamD hdX hdW.prog.main.file
def hdO (s : PySem.W.SharedT) : AlM := obsM 6 hdA hdF hdR lamD hdX hdW.prog.main.file (HandSHeadRun.getT s)
theorem hdO_eq (s : PySem.W.SharedT) : hdO s = hdK.obs s.abs := obsM_eq (HandSHeadRun.getT_eq s)
theorem hd_run (w : World) : HandSHeadRun.RunEq hdW (PySem.W.view hdW.prog [58]) hdK hdO 4000 hdL w := by
  intro os
  kernel_rfl
end MI
end
section
set_option Elab.async false
set_option linter.all false
set_option maxRecDepth 100000
set_option maxHeartbeats 4000000
namespace MI
open PySem PySem.Spec PyProof.Rows L2
open He (ga)
def prT0 : List Fn := [⟨3, 3, b_is_whole⟩, ⟨2, 2, b_is_row⟩, ⟨2, 2, b_gcd⟩, ⟨1, 1, b_is_fraction⟩, ⟨2, 3, b_ratio⟩, ⟨2, 2, b_ratio_sum⟩, ⟨2, 2, b_ratio_times⟩, ⟨2, 2, b_ratio_over⟩, ⟨1, 3, b_ratio_total⟩, ⟨2, 2, b_is_wire⟩, ⟨1, 3, b_net_fault⟩, ⟨1, 2, b_need_net⟩, ⟨1, 5, b_wires_at⟩, ⟨1, 3, b_weights_of⟩, ⟨1, 1, b_node_weights⟩, ⟨2, 2, b_need_node⟩, ⟨3, 10, b_stepped_chances⟩, ⟨3, 7, b_chances_after⟩, ⟨2, 2, b_step_chances⟩, ⟨2, 3, b__law_mixed⟩]
def prT1 : List Fn := [⟨1, 4, b__law_folded⟩, ⟨2, 6, b__law_draw⟩, ⟨1, 3, b__law_begun⟩, ⟨2, 2, b__law_of⟩, ⟨2, 3, b__law_like⟩, ⟨2, 4, b__law_order⟩, ⟨2, 2, b__law_common⟩, ⟨2, 3, b__law_ratio⟩, ⟨1, 4, b__law_sum⟩, ⟨1, 4, b__law_times⟩, ⟨2, 2, b__law_over⟩, ⟨1, 2, b__law_strength⟩, ⟨4, 8, b__law_net⟩, ⟨4, 12, b__law_held⟩, ⟨1, 5, b__law_weights⟩, ⟨1, 2, b__law_any_net⟩, ⟨1, 10, b__law_great_net⟩, ⟨2, 9, b__law_shared⟩, ⟨3, 6, b__law_after⟩, ⟨1, 3, b__law_heard⟩]
def prT2 : List Fn := [⟨2, 9, b__law_right⟩, ⟨2, 9, b__law_refused_right⟩, ⟨1, 5, b_law⟩]
def prT : List Fn := prT0 ++ prT1 ++ prT2
def giOf (K : PySem.W.Frag) : GI := ⟨K, fun c => ga K (clsN c), fldT, lamQ.map (fun d => ((He.cT K (d.1, none)).2, (envOfC d.1 (defScope (top d.2)) 0 0 .none).qual ++ "<lambda>")), [], [], []⟩
theorem tab_uni {α β : Type} : ∀ {l : List (α × β)}, (l.map (·.1)).Nodup → ∀ {a : α} {b : β}, (a, b) ∈ l → ∀ p ∈ l, p.1 = a → p.2 = b
  | [], _, _, _, h, _, _, _ => absurd h List.not_mem_nil
  | q :: l, nd, a, b, h, p, hp, e => by
    rw [List.map_cons, List.nodup_cons] at nd
    rcases List.mem_cons.mp h with h1 | h1
    · rcases List.mem_cons.mp hp with h2 | h2
      · rw [h2, ← h1]
      · exact absurd (List.mem_map.mpr ⟨p, h2, by rw [e, ← h1]⟩) nd.1
    · rcases List.mem_cons.mp hp with h2 | h2
      · subst h2
        exact absurd (List.mem_map.mpr ⟨(a, b), h1, e.symm⟩) nd.1
      · exact tab_uni nd.2 h1 p h2 e
section
variable {K : PySem.W.Frag} {h base : Heap} {mg : Str → Option Value}
abbrev Told (h : Heap) (K : PySem.W.Frag) : Prop := SaysM hdA hdF hdR lamD hdX hdW.prog.main.file h K
theorem df_fun (c : Told h K) {i : Nat} {d : He.DefD} (e : hdF[i]? = some d) : ∃ fd, FunD K d.name d.qual d.params d.body d.scope (d.dvs K) (d.kws K) (He.fAd K d.at_) fd := c.d.def_ i e
theorem df_glo (X : K.In h) (G : h.Ns mainGlobals mg) (c : Told h K) {i : Nat} {x : Str} (e : hdA[i]? = some (.glo x)) : mg x = some (.ref (ga K x)) := He.glo_ok X G (c.d.fact i e)
abbrev TabsB (K : PySem.W.Frag) (base : Heap) (mg : Str → Option Value) : Prop := ∀ p ∈ lamD.map (He.cT K), LamX.TabB base mg p.1 p.2
theorem lam_nd (c : Told h K) : (lamD.map fun d => (He.cT K d).2).Nodup := by
  have z := c.more
  unfold hdX at z
  simp only [Bool.and_eq_true, decide_eq_true_eq] at z
  first | exact z.1 | exact z
theorem lam_of (c : Told h K) (TB : TabsB K base mg) {x : Str} {j : Nat} {params : Arguments} {body : List Stmt} {dvs : List V} {kws : List (Str × V)} {fd : FuncData} (hx : (x, j) ∈ lamQ) (F : FunD K x x params body (defScope (top j)) dvs kws (He.fAd K (x, none)) fd) : LmF (giOf K) base mg fd x (defScope (top j)) := by
  obtain ⟨cc, hcc⟩ : ∃ cc, fd.code = .ref cc := by
    obtain ⟨oc, od, dV, kV, doc, pm, an, cdv, ct, osl, rfl, lk, hcd, _, _⟩ := F.ex
    exact He.codeIn_ref hcd
  have e1 : (He.cT K (x, none)).1 = cc := by
    obtain ⟨oc, od, dV, kV, doc, pm, an, cdv, ct, osl, e, lk, hcd, _, _⟩ := F.ex
    exact He.codeOf_eq lk hcc
  have hm : (x, none) ∈ lamD := List.mem_map.mpr ⟨(x, j), hx, rfl⟩
  have tb := TB _ (List.mem_map.mpr ⟨_, hm, rfl⟩)
  rw [e1] at tb
  refine ⟨rfl, rfl, rfl, cc, _, hcc, tb, fun L f cd => ?_⟩
  have hin : ((He.cT K (x, none)).2, (envOfC x (defScope (top j)) L f cd).qual ++ "<lambda>") ∈ (giOf K).T := List.mem_map.mpr ⟨(x, j), hx, rfl⟩
  refine ⟨hin, tab_uni ?_ hin⟩
  have nd := lam_nd c
  unfold lamD at nd
  rw [List.map_map] at nd
  show (List.map (fun q => q.1) (lamQ.map (fun d => ((He.cT K (d.1, none)).2, (envOfC d.1 (defScope (top d.2)) 0 0 .none).qual ++ "<lambda>")))).Nodup
  rw [List.map_map]
  exact nd
theorem s_is_whole_ : FnScope N_is_whole ["value", "least", "most"] (defScope (top 6)) := ⟨rfl, rfl, rfl, by decide +kernel, rfl, by decide +kernel, by decide +kernel⟩
theorem d_is_whole (X : K.In h) (G : h.Ns mainGlobals mg) (c : Told h K) : DefOk (giOf K) base mg prT gl bi "is_whole" 0 3 [.non, .non] [] := by
  obtain ⟨fd, F⟩ := df_fun c (i := 0) (d := dd "is_whole" 6 [.non, .non]) rfl
  exact def1 (G := giOf K) (ps := ["value", "least", "most"]) (N := N_is_whole) (b := b_is_whole) (m := 60) (n := 60) (dvs := [.non, .non]) F (by simp) (by decide) (df_glo X G c (i := 0) rfl) rfl s_is_whole_ s_is_whole_.nd (fun j hj T kV doc pm an cdv ct us its h1 h2 => match j, hj, us, its, h1, h2 with
    | 0, _, [_], [_, _], _, _ => ⟨_, rfl, rfl⟩
    | 1, _, [_, _], [_, _], _, _ => ⟨_, rfl, rfl⟩
    | 2, _, [_, _, _], [_, _], _, _ => ⟨_, rfl, rfl⟩) c_is_whole rfl
theorem s_is_row_ : FnScope N_is_row ["value", "length"] (defScope (top 7)) := ⟨rfl, rfl, rfl, by decide +kernel, rfl, by decide +kernel, by decide +kernel⟩
theorem d_is_row (X : K.In h) (G : h.Ns mainGlobals mg) (c : Told h K) : DefOk (giOf K) base mg prT gl bi "is_row" 1 2 [.non] [] := by
  obtain ⟨fd, F⟩ := df_fun c (i := 1) (d := dd "is_row" 7 [.non]) rfl
  exact def1 (G := giOf K) (ps := ["value", "length"]) (N := N_is_row) (b := b_is_row) (m := 60) (n := 60) (dvs := [.non]) F (by simp) (by decide) (df_glo X G c (i := 1) rfl) rfl s_is_row_ s_is_row_.nd (fun j hj T kV doc pm an cdv ct us its h1 h2 => match j, hj, us, its, h1, h2 with
    | 0, _, [_], [_], _, _ => ⟨_, rfl, rfl⟩
    | 1, _, [_, _], [_], _, _ => ⟨_, rfl, rfl⟩) c_is_row rfl
theorem s_gcd_ : FnScope N_gcd ["one", "other"] (defScope (top 8)) := ⟨rfl, rfl, rfl, by decide +kernel, rfl, by decide +kernel, by decide +kernel⟩
theorem d_gcd (X : K.In h) (G : h.Ns mainGlobals mg) (c : Told h K) : DefOk (giOf K) base mg prT gl bi "gcd" 2 2 [] [] := by
  obtain ⟨fd, F⟩ := df_fun c (i := 2) (d := dd "gcd" 8 []) rfl
  exact def0 (G := giOf K) (ps := ["one", "other"]) (N := N_gcd) (b := b_gcd) (m := 60) (n := 60) (lm := false) F (fun z => by cases z) (df_glo X G c (i := 2) rfl) rfl s_gcd_ s_gcd_.nd (fun _ _ _ _ _ _ us hl => match us, hl with | [_, _], _ => rfl) (fun p hp => absurd hp List.not_mem_nil) c_gcd
theorem s_is_fraction_ : FnScope N_is_fraction ["value"] (defScope (top 12)) := ⟨rfl, rfl, rfl, by decide +kernel, rfl, by decide +kernel, by decide +kernel⟩
theorem d_is_fraction (X : K.In h) (G : h.Ns mainGlobals mg) (c : Told h K) : DefOk (giOf K) base mg prT gl bi "is_fraction" 3 1 [] [] := by
  obtain ⟨fd, F⟩ := df_fun c (i := 3) (d := dd "is_fraction" 12 []) rfl
  exact def0 (G := giOf K) (ps := ["value"]) (N := N_is_fraction) (b := b_is_fraction) (m := 60) (n := 60) (lm := false) F (fun z => by cases z) (df_glo X G c (i := 3) rfl) rfl s_is_fraction_ s_is_fraction_.nd (fun _ _ _ _ _ _ us hl => match us, hl with | [_], _ => rfl) (fun p hp => absurd hp List.not_mem_nil) c_is_fraction
theorem s_ratio_ : FnScope N_ratio ["upper", "under"] (defScope (top 13)) := ⟨rfl, rfl, rfl, by decide +kernel, rfl, by decide +kernel, by decide +kernel⟩
theorem d_ratio (X : K.In h) (G : h.Ns mainGlobals mg) (c : Told h K) : DefOk (giOf K) base mg prT gl bi "ratio" 4 2 [] [] := by
  obtain ⟨fd, F⟩ := df_fun c (i := 4) (d := dd "ratio" 13 []) rfl
  exact def0 (G := giOf K) (ps := ["upper", "under"]) (N := N_ratio) (b := b_ratio) (m := 60) (n := 60) (lm := false) F (fun z => by cases z) (df_glo X G c (i := 4) rfl) rfl s_ratio_ s_ratio_.nd (fun _ _ _ _ _ _ us hl => match us, hl with | [_, _], _ => rfl) (fun p hp => absurd hp List.not_mem_nil) c_ratio
theorem s_ratio_sum_ : FnScope N_ratio_sum ["one", "other"] (defScope (top 14)) := ⟨rfl, rfl, rfl, by decide +kernel, rfl, by decide +kernel, by decide +kernel⟩
theorem d_ratio_sum (X : K.In h) (G : h.Ns mainGlobals mg) (c : Told h K) : DefOk (giOf K) base mg prT gl bi "ratio_sum" 5 2 [] [] := by
  obtain ⟨fd, F⟩ := df_fun c (i := 5) (d := dd "ratio_sum" 14 []) rfl
  exact def0 (G := giOf K) (ps := ["one", "other"]) (N := N_ratio_sum) (b := b_ratio_sum) (m := 60) (n := 60) (lm := false) F (fun z => by cases z) (df_glo X G c (i := 5) rfl) rfl s_ratio_sum_ s_ratio_sum_.nd (fun _ _ _ _ _ _ us hl => match us, hl with | [_, _], _ => rfl) (fun p hp => absurd hp List.not_mem_nil) c_ratio_sum
theorem s_ratio_times_ : FnScope N_ratio_times ["one", "other"] (defScope (top 15)) := ⟨rfl, rfl, rfl, by decide +kernel, rfl, by decide +kernel, by decide +kernel⟩
theorem d_ratio_times (X : K.In h) (G : h.Ns mainGlobals mg) (c : Told h K) : DefOk (giOf K) base mg prT gl bi "ratio_times" 6 2 [] [] := by
  obtain ⟨fd, F⟩ := df_fun c (i := 6) (d := dd "ratio_times" 15 []) rfl
  exact def0 (G := giOf K) (ps := ["one", "other"]) (N := N_ratio_times) (b := b_ratio_times) (m := 60) (n := 60) (lm := false) F (fun z => by cases z) (df_glo X G c (i := 6) rfl) rfl s_ratio_times_ s_ratio_times_.nd (fun _ _ _ _ _ _ us hl => match us, hl with | [_, _], _ => rfl) (fun p hp => absurd hp List.not_mem_nil) c_ratio_times
theorem s_ratio_over_ : FnScope N_ratio_over ["one", "other"] (defScope (top 16)) := ⟨rfl, rfl, rfl, by decide +kernel, rfl, by decide +kernel, by decide +kernel⟩
theorem d_ratio_over (X : K.In h) (G : h.Ns mainGlobals mg) (c : Told h K) : DefOk (giOf K) base mg prT gl bi "ratio_over" 7 2 [] [] := by
  obtain ⟨fd, F⟩ := df_fun c (i := 7) (d := dd "ratio_over" 16 []) rfl
  exact def0 (G := giOf K) (ps := ["one", "other"]) (N := N_ratio_over) (b := b_ratio_over) (m := 60) (n := 60) (lm := false) F (fun z => by cases z) (df_glo X G c (i := 7) rfl) rfl s_ratio_over_ s_ratio_over_.nd (fun _ _ _ _ _ _ us hl => match us, hl with | [_, _], _ => rfl) (fun p hp => absurd hp List.not_mem_nil) c_ratio_over
theorem s_ratio_total_ : FnScope N_ratio_total ["fractions"] (defScope (top 17)) := ⟨rfl, rfl, rfl, by decide +kernel, rfl, by decide +kernel, by decide +kernel⟩
theorem d_ratio_total (X : K.In h) (G : h.Ns mainGlobals mg) (c : Told h K) : DefOk (giOf K) base mg prT gl bi "ratio_total" 8 1 [] [] := by
  obtain ⟨fd, F⟩ := df_fun c (i := 8) (d := dd "ratio_total" 17 []) rfl
  exact def0 (G := giOf K) (ps := ["fractions"]) (N := N_ratio_total) (b := b_ratio_total) (m := 60) (n := 60) (lm := false) F (fun z => by cases z) (df_glo X G c (i := 8) rfl) rfl s_ratio_total_ s_ratio_total_.nd (fun _ _ _ _ _ _ us hl => match us, hl with | [_], _ => rfl) (fun p hp => absurd hp List.not_mem_nil) c_ratio_total
theorem s_is_wire_ : FnScope N_is_wire ["nodes", "value"] (defScope (top 22)) := ⟨rfl, rfl, rfl, by decide +kernel, rfl, by decide +kernel, by decide +kernel⟩
theorem d_is_wire (X : K.In h) (G : h.Ns mainGlobals mg) (c : Told h K) : DefOk (giOf K) base mg prT gl bi "is_wire" 9 2 [] [] := by
  obtain ⟨fd, F⟩ := df_fun c (i := 9) (d := dd "is_wire" 22 []) rfl
  exact def0 (G := giOf K) (ps := ["nodes", "value"]) (N := N_is_wire) (b := b_is_wire) (m := 60) (n := 60) (lm := false) F (fun z => by cases z) (df_glo X G c (i := 9) rfl) rfl s_is_wire_ s_is_wire_.nd (fun _ _ _ _ _ _ us hl => match us, hl with | [_, _], _ => rfl) (fun p hp => absurd hp List.not_mem_nil) c_is_wire
theorem s_net_fault_ : FnScope N_net_fault ["value"] (defScope (top 23)) := ⟨rfl, rfl, rfl, by decide +kernel, rfl, by decide +kernel, by decide +kernel⟩
theorem d_net_fault (X : K.In h) (G : h.Ns mainGlobals mg) (c : Told h K) : DefOk (giOf K) base mg prT gl bi "net_fault" 10 1 [] [] := by
  obtain ⟨fd, F⟩ := df_fun c (i := 10) (d := dd "net_fault" 23 []) rfl
  exact def0 (G := giOf K) (ps := ["value"]) (N := N_net_fault) (b := b_net_fault) (m := 60) (n := 60) (lm := false) F (fun z => by cases z) (df_glo X G c (i := 10) rfl) rfl s_net_fault_ s_net_fault_.nd (fun _ _ _ _ _ _ us hl => match us, hl with | [_], _ => rfl) (fun p hp => absurd hp List.not_mem_nil) c_net_fault
theorem s_need_net_ : FnScope N_need_net ["net"] (defScope (top 24)) := ⟨rfl, rfl, rfl, by decide +kernel, rfl, by decide +kernel, by decide +kernel⟩
theorem d_need_net (X : K.In h) (G : h.Ns mainGlobals mg) (c : Told h K) : DefOk (giOf K) base mg prT gl bi "need_net" 11 1 [] [] := by
  obtain ⟨fd, F⟩ := df_fun c (i := 11) (d := dd "need_net" 24 []) rfl
  exact def0 (G := giOf K) (ps := ["net"]) (N := N_need_net) (b := b_need_net) (m := 60) (n := 60) (lm := false) F (fun z => by cases z) (df_glo X G c (i := 11) rfl) rfl s_need_net_ s_need_net_.nd (fun _ _ _ _ _ _ us hl => match us, hl with | [_], _ => rfl) (fun p hp => absurd hp List.not_mem_nil) c_need_net
theorem s_wires_at_ : FnScope N_wires_at ["net"] (defScope (top 25)) := ⟨rfl, rfl, rfl, by decide +kernel, rfl, by decide +kernel, by decide +kernel⟩
theorem d_wires_at (X : K.In h) (G : h.Ns mainGlobals mg) (c : Told h K) : DefOk (giOf K) base mg prT gl bi "wires_at" 12 1 [] [] := by
  obtain ⟨fd, F⟩ := df_fun c (i := 12) (d := dd "wires_at" 25 []) rfl
  exact def0 (G := giOf K) (ps := ["net"]) (N := N_wires_at) (b := b_wires_at) (m := 60) (n := 60) (lm := false) F (fun z => by cases z) (df_glo X G c (i := 12) rfl) rfl s_wires_at_ s_wires_at_.nd (fun _ _ _ _ _ _ us hl => match us, hl with | [_], _ => rfl) (fun p hp => absurd hp List.not_mem_nil) c_wires_at
theorem s_weights_of_ : FnScope N_weights_of ["net"] (defScope (top 28)) := ⟨rfl, rfl, rfl, by decide +kernel, rfl, by decide +kernel, by decide +kernel⟩
theorem d_weights_of (X : K.In h) (G : h.Ns mainGlobals mg) (c : Told h K) : DefOk (giOf K) base mg prT gl bi "weights_of" 13 1 [] [] := by
  obtain ⟨fd, F⟩ := df_fun c (i := 13) (d := dd "weights_of" 28 []) rfl
  exact def0 (G := giOf K) (ps := ["net"]) (N := N_weights_of) (b := b_weights_of) (m := 60) (n := 60) (lm := false) F (fun z => by cases z) (df_glo X G c (i := 13) rfl) rfl s_weights_of_ s_weights_of_.nd (fun _ _ _ _ _ _ us hl => match us, hl with | [_], _ => rfl) (fun p hp => absurd hp List.not_mem_nil) c_weights_of
theorem s_node_weights_ : FnScope N_node_weights ["net"] (defScope (top 29)) := ⟨rfl, rfl, rfl, by decide +kernel, rfl, by decide +kernel, by decide +kernel⟩
theorem d_node_weights (X : K.In h) (G : h.Ns mainGlobals mg) (c : Told h K) : DefOk (giOf K) base mg prT gl bi "node_weights" 14 1 [] [(["net"], [0])] := by
  obtain ⟨fd, F⟩ := df_fun c (i := 14) (d := dd "node_weights" 29 []) rfl
  exact def0 (G := giOf K) (ps := ["net"]) (N := N_node_weights) (b := b_node_weights) (m := 60) (n := 60) (lm := false) F (fun z => by cases z) (df_glo X G c (i := 14) rfl) rfl s_node_weights_ s_node_weights_.nd (fun _ _ _ _ _ _ us hl => match us, hl with | [_], _ => rfl) (fun p hp => by
    simp only [List.mem_singleton] at hp
    subst hp
    exact kb0 F ["net"] [0] fun _ _ _ _ _ _ ws hl => match ws, hl with | [_], _ => rfl) c_node_weights
theorem s_need_node_ : FnScope N_need_node ["net", "node"] (defScope (top 30)) := ⟨rfl, rfl, rfl, by decide +kernel, rfl, by decide +kernel, by decide +kernel⟩
theorem d_need_node (X : K.In h) (G : h.Ns mainGlobals mg) (c : Told h K) : DefOk (giOf K) base mg prT gl bi "need_node" 15 2 [] [] := by
  obtain ⟨fd, F⟩ := df_fun c (i := 15) (d := dd "need_node" 30 []) rfl
  exact def0 (G := giOf K) (ps := ["net", "node"]) (N := N_need_node) (b := b_need_node) (m := 60) (n := 60) (lm := false) F (fun z => by cases z) (df_glo X G c (i := 15) rfl) rfl s_need_node_ s_need_node_.nd (fun _ _ _ _ _ _ us hl => match us, hl with | [_, _], _ => rfl) (fun p hp => absurd hp List.not_mem_nil) c_need_node
theorem s_stepped_chances_ : FnScope N_stepped_chances ["net", "weights", "chances"] (defScope (top 31)) := ⟨rfl, rfl, rfl, by decide +kernel, rfl, by decide +kernel, by decide +kernel⟩
theorem d_stepped_chances (X : K.In h) (G : h.Ns mainGlobals mg) (c : Told h K) : DefOk (giOf K) base mg prT gl bi "stepped_chances" 16 3 [] [] := by
  obtain ⟨fd, F⟩ := df_fun c (i := 16) (d := dd "stepped_chances" 31 []) rfl
  exact def0 (G := giOf K) (ps := ["net", "weights", "chances"]) (N := N_stepped_chances) (b := b_stepped_chances) (m := 60) (n := 60) (lm := false) F (fun z => by cases z) (df_glo X G c (i := 16) rfl) rfl s_stepped_chances_ s_stepped_chances_.nd (fun _ _ _ _ _ _ us hl => match us, hl with | [_, _, _], _ => rfl) (fun p hp => absurd hp List.not_mem_nil) c_stepped_chances
theorem s_chances_after_ : FnScope N_chances_after ["net", "node", "steps"] (defScope (top 32)) := ⟨rfl, rfl, rfl, by decide +kernel, rfl, by decide +kernel, by decide +kernel⟩
theorem d_chances_after (X : K.In h) (G : h.Ns mainGlobals mg) (c : Told h K) : DefOk (giOf K) base mg prT gl bi "chances_after" 17 3 [] [(["steps", "node", "net"], [2, 1, 0])] := by
  obtain ⟨fd, F⟩ := df_fun c (i := 17) (d := dd "chances_after" 32 []) rfl
  exact def0 (G := giOf K) (ps := ["net", "node", "steps"]) (N := N_chances_after) (b := b_chances_after) (m := 60) (n := 60) (lm := false) F (fun z => by cases z) (df_glo X G c (i := 17) rfl) rfl s_chances_after_ s_chances_after_.nd (fun _ _ _ _ _ _ us hl => match us, hl with | [_, _, _], _ => rfl) (fun p hp => by
    simp only [List.mem_singleton] at hp
    subst hp
    exact kb0 F ["steps", "node", "net"] [2, 1, 0] fun _ _ _ _ _ _ ws hl => match ws, hl with | [_, _, _], _ => rfl) c_chances_after
theorem s_step_chances_ : FnScope N_step_chances ["net", "node"] (defScope (top 33)) := ⟨rfl, rfl, rfl, by decide +kernel, rfl, by decide +kernel, by decide +kernel⟩
theorem d_step_chances (X : K.In h) (G : h.Ns mainGlobals mg) (c : Told h K) : DefOk (giOf K) base mg prT gl bi "step_chances" 18 2 [] [(["node", "net"], [1, 0])] := by
  obtain ⟨fd, F⟩ := df_fun c (i := 18) (d := dd "step_chances" 33 []) rfl
  exact def0 (G := giOf K) (ps := ["net", "node"]) (N := N_step_chances) (b := b_step_chances) (m := 60) (n := 60) (lm := false) F (fun z => by cases z) (df_glo X G c (i := 18) rfl) rfl s_step_chances_ s_step_chances_.nd (fun _ _ _ _ _ _ us hl => match us, hl with | [_, _], _ => rfl) (fun p hp => by
    simp only [List.mem_singleton] at hp
    subst hp
    exact kb0 F ["node", "net"] [1, 0] fun _ _ _ _ _ _ ws hl => match ws, hl with | [_, _], _ => rfl) c_step_chances
theorem s__law_mixed_ : FnScope N__law_mixed ["cell", "n"] (defScope (top 35)) := ⟨rfl, rfl, rfl, by decide +kernel, rfl, by decide +kernel, by decide +kernel⟩
theorem d__law_mixed (X : K.In h) (G : h.Ns mainGlobals mg) (c : Told h K) : DefOk (giOf K) base mg prT gl bi "_law_mixed" 19 2 [] [] := by
  obtain ⟨fd, F⟩ := df_fun c (i := 19) (d := dd "_law_mixed" 35 []) rfl
  exact def0 (G := giOf K) (ps := ["cell", "n"]) (N := N__law_mixed) (b := b__law_mixed) (m := 60) (n := 60) (lm := false) F (fun z => by cases z) (df_glo X G c (i := 19) rfl) rfl s__law_mixed_ s__law_mixed_.nd (fun _ _ _ _ _ _ us hl => match us, hl with | [_, _], _ => rfl) (fun p hp => absurd hp List.not_mem_nil) c__law_mixed
theorem s__law_folded_ : FnScope N__law_folded ["script"] (defScope (top 36)) := ⟨rfl, rfl, rfl, by decide +kernel, rfl, by decide +kernel, by decide +kernel⟩
theorem d__law_folded (X : K.In h) (G : h.Ns mainGlobals mg) (c : Told h K) : DefOk (giOf K) base mg prT gl bi "_law_folded" 20 1 [] [] := by
  obtain ⟨fd, F⟩ := df_fun c (i := 20) (d := dd "_law_folded" 36 []) rfl
  exact def0 (G := giOf K) (ps := ["script"]) (N := N__law_folded) (b := b__law_folded) (m := 60) (n := 60) (lm := false) F (fun z => by cases z) (df_glo X G c (i := 20) rfl) rfl s__law_folded_ s__law_folded_.nd (fun _ _ _ _ _ _ us hl => match us, hl with | [_], _ => rfl) (fun p hp => absurd hp List.not_mem_nil) c__law_folded
theorem s__law_draw_ : FnScope N__law_draw ["m", "limit"] (defScope (top 37)) := ⟨rfl, rfl, rfl, by decide +kernel, rfl, by decide +kernel, by decide +kernel⟩
theorem d__law_draw (X : K.In h) (G : h.Ns mainGlobals mg) (c : Told h K) : DefOk (giOf K) base mg prT gl bi "_law_draw" 21 2 [] [] := by
  obtain ⟨fd, F⟩ := df_fun c (i := 21) (d := dd "_law_draw" 37 []) rfl
  exact def0 (G := giOf K) (ps := ["m", "limit"]) (N := N__law_draw) (b := b__law_draw) (m := 60) (n := 60) (lm := false) F (fun z => by cases z) (df_glo X G c (i := 21) rfl) rfl s__law_draw_ s__law_draw_.nd (fun _ _ _ _ _ _ us hl => match us, hl with | [_, _], _ => rfl) (fun p hp => absurd hp List.not_mem_nil) c__law_draw
theorem s__law_begun_ : FnScope N__law_begun ["script"] (defScope (top 38)) := ⟨rfl, rfl, rfl, by decide +kernel, rfl, by decide +kernel, by decide +kernel⟩
theorem d__law_begun (X : K.In h) (G : h.Ns mainGlobals mg) (c : Told h K) : DefOk (giOf K) base mg prT gl bi "_law_begun" 22 1 [] [] := by
  obtain ⟨fd, F⟩ := df_fun c (i := 22) (d := dd "_law_begun" 38 []) rfl
  exact def0 (G := giOf K) (ps := ["script"]) (N := N__law_begun) (b := b__law_begun) (m := 60) (n := 60) (lm := false) F (fun z => by cases z) (df_glo X G c (i := 22) rfl) rfl s__law_begun_ s__law_begun_.nd (fun _ _ _ _ _ _ us hl => match us, hl with | [_], _ => rfl) (fun p hp => absurd hp List.not_mem_nil) c__law_begun
theorem s__law_of_ : FnScope N__law_of ["m", "some"] (defScope (top 39)) := ⟨rfl, rfl, rfl, by decide +kernel, rfl, by decide +kernel, by decide +kernel⟩
theorem d__law_of (X : K.In h) (G : h.Ns mainGlobals mg) (c : Told h K) : DefOk (giOf K) base mg prT gl bi "_law_of" 23 2 [] [] := by
  obtain ⟨fd, F⟩ := df_fun c (i := 23) (d := dd "_law_of" 39 []) rfl
  exact def0 (G := giOf K) (ps := ["m", "some"]) (N := N__law_of) (b := b__law_of) (m := 60) (n := 60) (lm := false) F (fun z => by cases z) (df_glo X G c (i := 23) rfl) rfl s__law_of_ s__law_of_.nd (fun _ _ _ _ _ _ us hl => match us, hl with | [_, _], _ => rfl) (fun p hp => absurd hp List.not_mem_nil) c__law_of
theorem s__law_like_ : FnScope N__law_like ["got", "due"] (defScope (top 40)) := ⟨rfl, rfl, rfl, by decide +kernel, rfl, by decide +kernel, by decide +kernel⟩
theorem d__law_like (X : K.In h) (G : h.Ns mainGlobals mg) (c : Told h K) : DefOk (giOf K) base mg prT gl bi "_law_like" 24 2 [] [] := by
  obtain ⟨fd, F⟩ := df_fun c (i := 24) (d := dd "_law_like" 40 []) rfl
  exact def0 (G := giOf K) (ps := ["got", "due"]) (N := N__law_like) (b := b__law_like) (m := 60) (n := 60) (lm := false) F (fun z => by cases z) (df_glo X G c (i := 24) rfl) rfl s__law_like_ s__law_like_.nd (fun _ _ _ _ _ _ us hl => match us, hl with | [_, _], _ => rfl) (fun p hp => absurd hp List.not_mem_nil) c__law_like
theorem s__law_order_ : FnScope N__law_order ["m", "many"] (defScope (top 41)) := ⟨rfl, rfl, rfl, by decide +kernel, rfl, by decide +kernel, by decide +kernel⟩
theorem d__law_order (X : K.In h) (G : h.Ns mainGlobals mg) (c : Told h K) : DefOk (giOf K) base mg prT gl bi "_law_order" 25 2 [] [] := by
  obtain ⟨fd, F⟩ := df_fun c (i := 25) (d := dd "_law_order" 41 []) rfl
  exact def0 (G := giOf K) (ps := ["m", "many"]) (N := N__law_order) (b := b__law_order) (m := 60) (n := 60) (lm := false) F (fun z => by cases z) (df_glo X G c (i := 25) rfl) rfl s__law_order_ s__law_order_.nd (fun _ _ _ _ _ _ us hl => match us, hl with | [_, _], _ => rfl) (fun p hp => absurd hp List.not_mem_nil) c__law_order
theorem s__law_common_ : FnScope N__law_common ["one", "other"] (defScope (top 42)) := ⟨rfl, rfl, rfl, by decide +kernel, rfl, by decide +kernel, by decide +kernel⟩
theorem d__law_common (X : K.In h) (G : h.Ns mainGlobals mg) (c : Told h K) : DefOk (giOf K) base mg prT gl bi "_law_common" 26 2 [] [] := by
  obtain ⟨fd, F⟩ := df_fun c (i := 26) (d := dd "_law_common" 42 []) rfl
  exact def0 (G := giOf K) (ps := ["one", "other"]) (N := N__law_common) (b := b__law_common) (m := 60) (n := 60) (lm := false) F (fun z => by cases z) (df_glo X G c (i := 26) rfl) rfl s__law_common_ s__law_common_.nd (fun _ _ _ _ _ _ us hl => match us, hl with | [_, _], _ => rfl) (fun p hp => absurd hp List.not_mem_nil) c__law_common
theorem s__law_ratio_ : FnScope N__law_ratio ["upper", "under"] (defScope (top 43)) := ⟨rfl, rfl, rfl, by decide +kernel, rfl, by decide +kernel, by decide +kernel⟩
theorem d__law_ratio (X : K.In h) (G : h.Ns mainGlobals mg) (c : Told h K) : DefOk (giOf K) base mg prT gl bi "_law_ratio" 27 2 [] [] := by
  obtain ⟨fd, F⟩ := df_fun c (i := 27) (d := dd "_law_ratio" 43 []) rfl
  exact def0 (G := giOf K) (ps := ["upper", "under"]) (N := N__law_ratio) (b := b__law_ratio) (m := 60) (n := 60) (lm := false) F (fun z => by cases z) (df_glo X G c (i := 27) rfl) rfl s__law_ratio_ s__law_ratio_.nd (fun _ _ _ _ _ _ us hl => match us, hl with | [_, _], _ => rfl) (fun p hp => absurd hp List.not_mem_nil) c__law_ratio
theorem s__law_sum_ : FnScope N__law_sum ["fractions"] (defScope (top 44)) := ⟨rfl, rfl, rfl, by decide +kernel, rfl, by decide +kernel, by decide +kernel⟩
theorem d__law_sum (X : K.In h) (G : h.Ns mainGlobals mg) (c : Told h K) : DefOk (giOf K) base mg prT gl bi "_law_sum" 28 1 [] [] := by
  obtain ⟨fd, F⟩ := df_fun c (i := 28) (d := dd "_law_sum" 44 []) rfl
  exact def0 (G := giOf K) (ps := ["fractions"]) (N := N__law_sum) (b := b__law_sum) (m := 60) (n := 60) (lm := false) F (fun z => by cases z) (df_glo X G c (i := 28) rfl) rfl s__law_sum_ s__law_sum_.nd (fun _ _ _ _ _ _ us hl => match us, hl with | [_], _ => rfl) (fun p hp => absurd hp List.not_mem_nil) c__law_sum
theorem s__law_times_ : FnScope N__law_times ["fractions"] (defScope (top 45)) := ⟨rfl, rfl, rfl, by decide +kernel, rfl, by decide +kernel, by decide +kernel⟩
theorem d__law_times (X : K.In h) (G : h.Ns mainGlobals mg) (c : Told h K) : DefOk (giOf K) base mg prT gl bi "_law_times" 29 1 [] [] := by
  obtain ⟨fd, F⟩ := df_fun c (i := 29) (d := dd "_law_times" 45 []) rfl
  exact def0 (G := giOf K) (ps := ["fractions"]) (N := N__law_times) (b := b__law_times) (m := 60) (n := 60) (lm := false) F (fun z => by cases z) (df_glo X G c (i := 29) rfl) rfl s__law_times_ s__law_times_.nd (fun _ _ _ _ _ _ us hl => match us, hl with | [_], _ => rfl) (fun p hp => absurd hp List.not_mem_nil) c__law_times
theorem s__law_over_ : FnScope N__law_over ["one", "other"] (defScope (top 46)) := ⟨rfl, rfl, rfl, by decide +kernel, rfl, by decide +kernel, by decide +kernel⟩
theorem d__law_over (X : K.In h) (G : h.Ns mainGlobals mg) (c : Told h K) : DefOk (giOf K) base mg prT gl bi "_law_over" 30 2 [] [] := by
  obtain ⟨fd, F⟩ := df_fun c (i := 30) (d := dd "_law_over" 46 []) rfl
  exact def0 (G := giOf K) (ps := ["one", "other"]) (N := N__law_over) (b := b__law_over) (m := 60) (n := 60) (lm := false) F (fun z => by cases z) (df_glo X G c (i := 30) rfl) rfl s__law_over_ s__law_over_.nd (fun _ _ _ _ _ _ us hl => match us, hl with | [_, _], _ => rfl) (fun p hp => absurd hp List.not_mem_nil) c__law_over
theorem s__law_strength_ : FnScope N__law_strength ["m"] (defScope (top 47)) := ⟨rfl, rfl, rfl, by decide +kernel, rfl, by decide +kernel, by decide +kernel⟩
theorem d__law_strength (X : K.In h) (G : h.Ns mainGlobals mg) (c : Told h K) : DefOk (giOf K) base mg prT gl bi "_law_strength" 31 1 [] [] := by
  obtain ⟨fd, F⟩ := df_fun c (i := 31) (d := dd "_law_strength" 47 []) rfl
  exact def0 (G := giOf K) (ps := ["m"]) (N := N__law_strength) (b := b__law_strength) (m := 60) (n := 60) (lm := false) F (fun z => by cases z) (df_glo X G c (i := 31) rfl) rfl s__law_strength_ s__law_strength_.nd (fun _ _ _ _ _ _ us hl => match us, hl with | [_], _ => rfl) (fun p hp => absurd hp List.not_mem_nil) c__law_strength
theorem s__law_net_ : FnScope N__law_net ["m", "nodes", "ports", "wires"] (defScope (top 48)) := ⟨rfl, rfl, rfl, by decide +kernel, rfl, by decide +kernel, by decide +kernel⟩
theorem d__law_net (X : K.In h) (G : h.Ns mainGlobals mg) (c : Told h K) : DefOk (giOf K) base mg prT gl bi "_law_net" 32 4 [] [] := by
  obtain ⟨fd, F⟩ := df_fun c (i := 32) (d := dd "_law_net" 48 []) rfl
  exact def0 (G := giOf K) (ps := ["m", "nodes", "ports", "wires"]) (N := N__law_net) (b := b__law_net) (m := 60) (n := 60) (lm := false) F (fun z => by cases z) (df_glo X G c (i := 32) rfl) rfl s__law_net_ s__law_net_.nd (fun _ _ _ _ _ _ us hl => match us, hl with | [_, _, _, _], _ => rfl) (fun p hp => absurd hp List.not_mem_nil) c__law_net
theorem s__law_held_ : FnScope N__law_held ["m", "nodes", "ports", "wires"] (defScope (top 49)) := ⟨rfl, rfl, rfl, by decide +kernel, rfl, by decide +kernel, by decide +kernel⟩
theorem d__law_held (X : K.In h) (G : h.Ns mainGlobals mg) (c : Told h K) : DefOk (giOf K) base mg prT gl bi "_law_held" 33 4 [] [] := by
  obtain ⟨fd, F⟩ := df_fun c (i := 33) (d := dd "_law_held" 49 []) rfl
  exact def0 (G := giOf K) (ps := ["m", "nodes", "ports", "wires"]) (N := N__law_held) (b := b__law_held) (m := 60) (n := 60) (lm := false) F (fun z => by cases z) (df_glo X G c (i := 33) rfl) rfl s__law_held_ s__law_held_.nd (fun _ _ _ _ _ _ us hl => match us, hl with | [_, _, _, _], _ => rfl) (fun p hp => absurd hp List.not_mem_nil) c__law_held
theorem s__law_weights_ : FnScope N__law_weights ["net"] (defScope (top 50)) := ⟨rfl, rfl, rfl, by decide +kernel, rfl, by decide +kernel, by decide +kernel⟩
theorem d__law_weights (X : K.In h) (G : h.Ns mainGlobals mg) (c : Told h K) : DefOk (giOf K) base mg prT gl bi "_law_weights" 34 1 [] [] := by
  obtain ⟨fd, F⟩ := df_fun c (i := 34) (d := dd "_law_weights" 50 []) rfl
  exact def0 (G := giOf K) (ps := ["net"]) (N := N__law_weights) (b := b__law_weights) (m := 60) (n := 60) (lm := false) F (fun z => by cases z) (df_glo X G c (i := 34) rfl) rfl s__law_weights_ s__law_weights_.nd (fun _ _ _ _ _ _ us hl => match us, hl with | [_], _ => rfl) (fun p hp => absurd hp List.not_mem_nil) c__law_weights
theorem s__law_any_net_ : FnScope N__law_any_net ["m"] (defScope (top 51)) := ⟨rfl, rfl, rfl, by decide +kernel, rfl, by decide +kernel, by decide +kernel⟩
theorem d__law_any_net (X : K.In h) (G : h.Ns mainGlobals mg) (c : Told h K) : DefOk (giOf K) base mg prT gl bi "_law_any_net" 35 1 [] [] := by
  obtain ⟨fd, F⟩ := df_fun c (i := 35) (d := dd "_law_any_net" 51 []) rfl
  exact def0 (G := giOf K) (ps := ["m"]) (N := N__law_any_net) (b := b__law_any_net) (m := 60) (n := 60) (lm := false) F (fun z => by cases z) (df_glo X G c (i := 35) rfl) rfl s__law_any_net_ s__law_any_net_.nd (fun _ _ _ _ _ _ us hl => match us, hl with | [_], _ => rfl) (fun p hp => absurd hp List.not_mem_nil) c__law_any_net
theorem s__law_great_net_ : FnScope N__law_great_net ["m"] (defScope (top 52)) := ⟨rfl, rfl, rfl, by decide +kernel, rfl, by decide +kernel, by decide +kernel⟩
theorem d__law_great_net (X : K.In h) (G : h.Ns mainGlobals mg) (c : Told h K) : DefOk (giOf K) base mg prT gl bi "_law_great_net" 36 1 [] [] := by
  obtain ⟨fd, F⟩ := df_fun c (i := 36) (d := dd "_law_great_net" 52 []) rfl
  exact def0 (G := giOf K) (ps := ["m"]) (N := N__law_great_net) (b := b__law_great_net) (m := 60) (n := 60) (lm := false) F (fun z => by cases z) (df_glo X G c (i := 36) rfl) rfl s__law_great_net_ s__law_great_net_.nd (fun _ _ _ _ _ _ us hl => match us, hl with | [_], _ => rfl) (fun p hp => absurd hp List.not_mem_nil) c__law_great_net
theorem s__law_shared_ : FnScope N__law_shared ["net", "chances"] (defScope (top 53)) := ⟨rfl, rfl, rfl, by decide +kernel, rfl, by decide +kernel, by decide +kernel⟩
theorem d__law_shared (X : K.In h) (G : h.Ns mainGlobals mg) (c : Told h K) : DefOk (giOf K) base mg prT gl bi "_law_shared" 37 2 [] [] := by
  obtain ⟨fd, F⟩ := df_fun c (i := 37) (d := dd "_law_shared" 53 []) rfl
  exact def0 (G := giOf K) (ps := ["net", "chances"]) (N := N__law_shared) (b := b__law_shared) (m := 60) (n := 60) (lm := false) F (fun z => by cases z) (df_glo X G c (i := 37) rfl) rfl s__law_shared_ s__law_shared_.nd (fun _ _ _ _ _ _ us hl => match us, hl with | [_, _], _ => rfl) (fun p hp => absurd hp List.not_mem_nil) c__law_shared
theorem s__law_after_ : FnScope N__law_after ["net", "node", "steps"] (defScope (top 54)) := ⟨rfl, rfl, rfl, by decide +kernel, rfl, by decide +kernel, by decide +kernel⟩
theorem d__law_after (X : K.In h) (G : h.Ns mainGlobals mg) (c : Told h K) : DefOk (giOf K) base mg prT gl bi "_law_after" 38 3 [] [] := by
  obtain ⟨fd, F⟩ := df_fun c (i := 38) (d := dd "_law_after" 54 []) rfl
  exact def0 (G := giOf K) (ps := ["net", "node", "steps"]) (N := N__law_after) (b := b__law_after) (m := 60) (n := 60) (lm := false) F (fun z => by cases z) (df_glo X G c (i := 38) rfl) rfl s__law_after_ s__law_after_.nd (fun _ _ _ _ _ _ us hl => match us, hl with | [_, _, _], _ => rfl) (fun p hp => absurd hp List.not_mem_nil) c__law_after
theorem s__law_right_ : FnScope N__law_right ["m", "net"] (defScope (top 56)) := ⟨rfl, rfl, rfl, by decide +kernel, rfl, by decide +kernel, by decide +kernel⟩
theorem d__law_right (X : K.In h) (G : h.Ns mainGlobals mg) (c : Told h K) : DefOk (giOf K) base mg prT gl bi "_law_right" 40 2 [] [] := by
  obtain ⟨fd, F⟩ := df_fun c (i := 40) (d := dd "_law_right" 56 []) rfl
  exact def0 (G := giOf K) (ps := ["m", "net"]) (N := N__law_right) (b := b__law_right) (m := 60) (n := 60) (lm := false) F (fun z => by cases z) (df_glo X G c (i := 40) rfl) rfl s__law_right_ s__law_right_.nd (fun _ _ _ _ _ _ us hl => match us, hl with | [_, _], _ => rfl) (fun p hp => absurd hp List.not_mem_nil) c__law_right
theorem s__law_refused_right_ : FnScope N__law_refused_right ["m", "net"] (defScope (top 57)) := ⟨rfl, rfl, rfl, by decide +kernel, rfl, by decide +kernel, by decide +kernel⟩
theorem d__law_refused_right (X : K.In h) (G : h.Ns mainGlobals mg) (c : Told h K) (TB : TabsB K base mg) : DefOk (giOf K) base mg prT gl bi "_law_refused_right" 41 2 [] [] := by
  obtain ⟨fd, F⟩ := df_fun c (i := 41) (d := dd "_law_refused_right" 57 []) rfl
  exact def0 (G := giOf K) (ps := ["m", "net"]) (N := N__law_refused_right) (b := b__law_refused_right) (m := 60) (n := 60) (lm := true) F (fun _ => lam_of (x := "_law_refused_right") (j := 57) c TB (by simp [lamQ]) F) (df_glo X G c (i := 41) rfl) rfl s__law_refused_right_ s__law_refused_right_.nd (fun _ _ _ _ _ _ us hl => match us, hl with | [_, _], _ => rfl) (fun p hp => absurd hp List.not_mem_nil) c__law_refused_right
end
end MI
end
section
set_option Elab.async false
set_option linter.all false
set_option maxRecDepth 100000
set_option maxHeartbeats 4000000
namespace MI
open PySem PySem.Spec PyProof.Rows L2
theorem ind_heard {fu : Option Nat} (d : Nat) (f0 : Nat) (h : Mem → R MV) (μ : Mem) : outc (execs (wdAt subT fldT fu prT d (some (f0, h))) b__law_heard (some (.thk f0) :: List.replicate (N__law_heard.length - 1) none) μ) = outc (execs (wdAt subT fldT fu prT d (some (0, h))) b__law_heard (some (.thk 0) :: List.replicate (N__law_heard.length - 1) none) μ) := by
  have e : List.replicate (N__law_heard.length - 1) (none : Option MV) = [none, none] := rfl
  rw [e]
  cases hh : h μ with
  | none => simp (implicitDefEqProofs := false) [b__law_heard, execs, exec, ev, evs, asg, asgs, hh, asgK, outc, most]
  | some r =>
    obtain ⟨o, μ'⟩ := r
    cases o with
    | ok v => simp (implicitDefEqProofs := false) [b__law_heard, execs, exec, ev, evs, asg, asgs, hh, asgK, outc, most, evCmp]
    | error x =>
      obtain ⟨c, y⟩ := x
      by_cases h2 : c = 2
      · subst h2
        simp (implicitDefEqProofs := false) [b__law_heard, execs, exec, ev, evs, asg, asgs, hh, asgK, outc, most, evCmp, hsel, subT, isCls, isCl, fldT]
      by_cases h3 : c = 3
      · subst h3
        simp (implicitDefEqProofs := false) [b__law_heard, execs, exec, ev, evs, asg, asgs, hh, asgK, outc, most, evCmp, hsel, subT, isCls, isCl, fldT]
      by_cases h4 : c = 4
      · subst h4
        simp (implicitDefEqProofs := false) [b__law_heard, execs, exec, ev, evs, asg, asgs, hh, asgK, outc, most, evCmp, hsel, subT, isCls, isCl, fldT]
      · have hs : ∀ d, subT c d = none := fun d => by
          unfold subT
          split <;> first | rfl | exact absurd rfl h2 | exact absurd rfl h3 | exact absurd rfl h4
        simp (implicitDefEqProofs := false) [b__law_heard, execs, exec, ev, evs, asg, asgs, hh, asgK, outc, most, evCmp, hsel, hs]
end MI
end
section
set_option Elab.async false
set_option linter.all false
set_option maxRecDepth 100000
set_option maxHeartbeats 4000000
namespace MI
open PySem PySem.Spec PyProof.Rows L2
open He (ga)
section
variable {K : PySem.W.Frag} {h base : Heap} {mg : Str → Option Value} {fu : Option Nat}
theorem mk_BadNet (c : Told h K) : MkT hdW.prog K (ga K "BadNet") "place" := by
  obtain ⟨e1, e2⟩ := SaysM.raises (prog := hdW.prog) c (i := 0) rfl
  exact rs_ok e1 e2 (by kernel_rfl) (by decide +kernel) (by decide +kernel) (fun _ _ _ _ _ _ _ _ _ _ _ _ _ _ a b => rfl) ⟨_, _, rfl⟩ ⟨_, _, [_, _, _, _, _, _, _, _, _, _], rfl, rfl⟩ ⟨rfl, rfl, rfl, by decide +kernel, by decide +kernel, by decide +kernel, by decide +kernel, by decide +kernel⟩
theorem mk_BadNumber (c : Told h K) : MkT hdW.prog K (ga K "BadNumber") "value" := by
  obtain ⟨e1, e2⟩ := SaysM.raises (prog := hdW.prog) c (i := 1) rfl
  exact rs_ok e1 e2 (by kernel_rfl) (by decide +kernel) (by decide +kernel) (fun _ _ _ _ _ _ _ _ _ _ _ _ _ _ a b => rfl) ⟨_, _, rfl⟩ ⟨_, _, [_, _, _, _, _, _, _, _, _, _], rfl, rfl⟩ ⟨rfl, rfl, rfl, by decide +kernel, by decide +kernel, by decide +kernel, by decide +kernel, by decide +kernel⟩
theorem mk_BadNodes (c : Told h K) : MkT hdW.prog K (ga K "BadNodes") "value" := by
  obtain ⟨e1, e2⟩ := SaysM.raises (prog := hdW.prog) c (i := 2) rfl
  exact rs_ok e1 e2 (by kernel_rfl) (by decide +kernel) (by decide +kernel) (fun _ _ _ _ _ _ _ _ _ _ _ _ _ _ a b => rfl) ⟨_, _, rfl⟩ ⟨_, _, [_, _, _, _, _, _, _, _, _, _], rfl, rfl⟩ ⟨rfl, rfl, rfl, by decide +kernel, by decide +kernel, by decide +kernel, by decide +kernel, by decide +kernel⟩
theorem con_NONE (X : K.In h) (G : h.Ns mainGlobals mg) (c : Told h K) : ∃ u, mg "NONE" = some u ∧ ConOk (giOf K) (.tup [(.int 0), (.int 1)]) u := by
  have z := c.more
  unfold hdX at z
  simp only [Bool.and_eq_true] at z
  exact ⟨_, df_glo X G c (i := 69) rfl, .ref (ga K "NONE"), rfl, fun B ι H => .tup (He.tupB_ok z.2.1 H) (.cons (.int 0) (.cons (.int 1) (.nil)))⟩
theorem con_ONE (X : K.In h) (G : h.Ns mainGlobals mg) (c : Told h K) : ∃ u, mg "ONE" = some u ∧ ConOk (giOf K) (.tup [(.int 1), (.int 1)]) u := by
  have z := c.more
  unfold hdX at z
  simp only [Bool.and_eq_true] at z
  exact ⟨_, df_glo X G c (i := 70) rfl, .ref (ga K "ONE"), rfl, fun B ι H => .tup (He.tupB_ok z.2.2.1 H) (.cons (.int 1) (.cons (.int 1) (.nil)))⟩
theorem s__law_heard_ : FnScope N__law_heard ["call"] (defScope (top 55)) := ⟨rfl, rfl, rfl, by decide +kernel, rfl, by decide +kernel, by decide +kernel⟩
theorem d__law_heard (X : K.In h) (G : h.Ns mainGlobals mg) (c : Told h K) : HrDef (giOf K) mg subT fldT fu prT glh bi "_law_heard" 39 := by
  obtain ⟨fd, F⟩ := df_fun c (i := 39) (d := dd "_law_heard" 55 []) rfl
  exact hdef (G := giOf K) (Ng := N__law_heard) (b := b__law_heard) (m := 60) (n := 60) F (df_glo X G c (i := 39) rfl) s__law_heard_ rfl (.inl (by decide +kernel)) (by decide +kernel) (by decide +kernel) rfl s__law_heard_.nd (fun _ _ _ _ _ _ us hl => match us, hl with | [_], _ => rfl) c__law_heard ind_heard
def Fits (G : GI) (base : Heap) (mg : Str → Option Value) (fu : Option Nat) (p : Str × GE) : Prop := match p.2 with
  | .con v => ∃ u, mg p.1 = some u ∧ ConOk G v u
  | .fn f np dvs sg => DefOk G base mg prT gl bi p.1 f np dvs sg
  | .cls c rs => mg p.1 = some (.ref (G.cls c)) ∧ (rs = true → MkT hdW.prog G.K (G.cls c) (G.fld c))
  | .hr f => HrDef G mg subT fldT fu prT glh bi p.1 f
theorem look_mem {α : Type} {x : Str} {g : α} : ∀ {l : List (Str × α)}, l.lookup x = some g → (x, g) ∈ l
  | (y, v) :: r, h => by
    rw [List.lookup_cons] at h
    split at h
    · rename_i z
      rw [eq_of_beq z]
      cases h
      exact List.mem_cons_self
    · exact List.mem_cons_of_mem _ (look_mem h)
theorem fits_cons {G : GI} {p : Str × GE} {l : List (Str × GE)} (h : Fits G base mg fu p) (r : ∀ q ∈ l, Fits G base mg fu q) : ∀ q ∈ p :: l, Fits G base mg fu q := List.forall_mem_cons.mpr ⟨h, r⟩
theorem fits_all (X : K.In h) (G : h.Ns mainGlobals mg) (c : Told h K) (TB : TabsB K base mg) : ∀ p ∈ gl, Fits (giOf K) base mg fu p :=
    (fits_cons (con_NONE X G c)
    (fits_cons (con_ONE X G c)
    (fits_cons (by obtain ⟨t, e⟩ := He.int_ok X G (c.d.fact 47 (f := .int "MOST_NODES" (48)) rfl); exact ⟨_, e, .int 48, ⟨t, rfl⟩, fun B ι H => .int 48⟩)
    (fits_cons (by obtain ⟨t, e⟩ := He.int_ok X G (c.d.fact 48 (f := .int "MOST_PORTS" (8)) rfl); exact ⟨_, e, .int 8, ⟨t, rfl⟩, fun B ι H => .int 8⟩)
    (fits_cons (by obtain ⟨t, e⟩ := He.int_ok X G (c.d.fact 49 (f := .int "MOST_WIRES" (40)) rfl); exact ⟨_, e, .int 40, ⟨t, rfl⟩, fun B ι H => .int 40⟩)
    (fits_cons (by obtain ⟨t, e⟩ := He.int_ok X G (c.d.fact 50 (f := .int "MOST_STEPS" (60)) rfl); exact ⟨_, e, .int 60, ⟨t, rfl⟩, fun B ι H => .int 60⟩)
    (fits_cons (d_is_whole X G c)
    (fits_cons (d_is_row X G c)
    (fits_cons (d_gcd X G c)
    (fits_cons (d_is_fraction X G c)
    (fits_cons (d_ratio X G c)
    (fits_cons (d_ratio_sum X G c)
    (fits_cons (d_ratio_times X G c)
    (fits_cons (d_ratio_over X G c)
    (fits_cons (d_ratio_total X G c)
    (fits_cons (d_is_wire X G c)
    (fits_cons (d_net_fault X G c)
    (fits_cons (d_need_net X G c)
    (fits_cons (d_wires_at X G c)
    (fits_cons (d_weights_of X G c)
    (fits_cons (d_node_weights X G c)
    (fits_cons (d_need_node X G c)
    (fits_cons (d_stepped_chances X G c)
    (fits_cons (d_chances_after X G c)
    (fits_cons (d_step_chances X G c)
    (fits_cons (d__law_mixed X G c)
    (fits_cons (d__law_folded X G c)
    (fits_cons (d__law_draw X G c)
    (fits_cons (d__law_begun X G c)
    (fits_cons (d__law_of X G c)
    (fits_cons (d__law_like X G c)
    (fits_cons (d__law_order X G c)
    (fits_cons (d__law_common X G c)
    (fits_cons (d__law_ratio X G c)
    (fits_cons (d__law_sum X G c)
    (fits_cons (d__law_times X G c)
    (fits_cons (d__law_over X G c)
    (fits_cons (d__law_strength X G c)
    (fits_cons (d__law_net X G c)
    (fits_cons (d__law_held X G c)
    (fits_cons (d__law_weights X G c)
    (fits_cons (d__law_any_net X G c)
    (fits_cons (d__law_great_net X G c)
    (fits_cons (d__law_shared X G c)
    (fits_cons (d__law_after X G c)
    (fits_cons (d__law_right X G c)
    (fits_cons (d__law_refused_right X G c TB)
    (fits_cons (d__law_heard X G c)
    (fits_cons ⟨df_glo X G c (i := 43) rfl, fun z => by cases z⟩
    (fits_cons ⟨df_glo X G c (i := 44) rfl, fun z => mk_BadNet c⟩
    (fits_cons ⟨df_glo X G c (i := 45) rfl, fun z => mk_BadNumber c⟩
    (fits_cons ⟨df_glo X G c (i := 46) rfl, fun z => mk_BadNodes c⟩
    (fun p hp => absurd hp List.not_mem_nil)))))))))))))))))))))))))))))))))))))))))))))))))))))
theorem fits_h (X : K.In h) (G : h.Ns mainGlobals mg) (c : Told h K) : ∀ p ∈ glh, Fits (giOf K) base mg fu p :=
    (fits_cons ⟨df_glo X G c (i := 43) rfl, fun z => by cases z⟩
    (fits_cons ⟨df_glo X G c (i := 44) rfl, fun z => by cases z⟩
    (fits_cons ⟨df_glo X G c (i := 45) rfl, fun z => by cases z⟩
    (fits_cons ⟨df_glo X G c (i := 46) rfl, fun z => by cases z⟩
    (fun p hp => absurd hp List.not_mem_nil)))))
end
end MI
end
section
set_option Elab.async false
set_option linter.all false
set_option maxRecDepth 100000
set_option maxHeartbeats 4000000
namespace MI
open PySem PySem.Spec PyProof.Rows L2
open He (ga)
section
variable {K : PySem.W.Frag} {h base : Heap} {mg : Str → Option Value} {fu : Option Nat}
theorem cls_ok (c : Told h K) : ClsOk (giOf K) (wdAt subT fldT fu prT 0 none) := by
  have z := c.more
  unfold hdX at z
  simp only [Bool.and_eq_true, decide_eq_true_eq] at z
  obtain ⟨_, _, _, y2, y3, y4, z1, z2, z3, z4, z5, z6, z7, z8, z9, z10, z11, z12⟩ := z
  refine ⟨rfl, fun c d b e => ?_, fun c e => ?_⟩
  · have e : subT c d = some b := e
    unfold subT at e
    split at e <;> first | (cases e; done) | skip
    all_goals cases e
    · exact ⟨exf_of y2, z1⟩
    · exact ⟨exf_of y2, z2⟩
    · exact ⟨exf_of y2, z3⟩
    · exact ⟨exf_of y2, z4⟩
    · exact ⟨exf_of y3, z5⟩
    · exact ⟨exf_of y3, z6⟩
    · exact ⟨exf_of y3, z7⟩
    · exact ⟨exf_of y3, z8⟩
    · exact ⟨exf_of y4, z9⟩
    · exact ⟨exf_of y4, z10⟩
    · exact ⟨exf_of y4, z11⟩
    · exact ⟨exf_of y4, z12⟩
  · have e : fldT c ≠ "" := e
    unfold fldT at e
    split at e
    · exact ⟨2, true, rfl⟩
    · exact ⟨3, true, rfl⟩
    · exact ⟨4, true, rfl⟩
    · exact absurd rfl e
theorem prog_ok (X : K.In h) (G : h.Ns mainGlobals mg) (c : Told h K) (TB : TabsB K base mg) : ProgOk hdW.prog (giOf K) base mg subT fldT fu prT gl glh bi where
  gl := fun x g e => by
    have q := fits_all (fu := fu) X G c TB _ (look_mem e)
    cases g <;> exact q
  glh := fun x g e => by
    have hm := look_mem e
    have q := fits_h (base := base) (fu := fu) X G c _ hm
    cases g with
    | con v => exact q
    | cls _ _ => exact q
    | fn _ _ _ _ => simp [glh] at hm
    | hr _ => simp [glh] at hm
  bi := fun x hx => by
    obtain ⟨i, hi, e⟩ := List.mem_iff_getElem.mp hx
    have ff : ∀ x ∈ bi, He.Fa.free x ∈ hdA := by
      intro x hx
      simp only [bi, List.mem_cons, List.not_mem_nil, or_false] at hx
      unfold hdA
      rcases hx with rfl | rfl | rfl | rfl | rfl | rfl | rfl | rfl | rfl | rfl | rfl | rfl | rfl | rfl | rfl | rfl | rfl | rfl <;> simp [hdA0, hdA1, hdA2]
    exact He.free_ok X G (c.d.facts (ff x hx))
  cl := cls_ok c
end
end MI
end
section
set_option Elab.async false
set_option linter.all false
set_option maxRecDepth 100000
set_option maxHeartbeats 4000000
namespace MI
open PySem PySem.Spec PyProof.Rows L2
open He (ga)
/-- the law's own def -/
def lawF : Fn := ⟨1, N_law.length, b_law⟩
/-- what is left: the law's reading -/
def Answers : Prop := ∀ (ns : List Int), ns.length ≤ 63 → (∀ z ∈ ns, Builtin.Int.intBits z ≤ 1048576) → ∀ x, x = MV.lv (ns.map .int) ∨ x = MV.fl (ns.map .int) → ∃ μ, topDen subT fldT none prT lawF 14 [x] [] = some (.ok (.bl true), μ)
theorem s_law_ : FnScope N_law ["script"] (defScope (top 58)) := ⟨rfl, rfl, rfl, by decide +kernel, rfl, by decide +kernel, by decide +kernel⟩
theorem rvs_ints {G : GI} {B ι : List Addr} {H : Hp} : ∀ ns : List Int, RVs G B ι H (ns.map MV.int) (ns.map V.int)
  | [] => .nil
  | n :: ns => .cons (.int n) (rvs_ints ns)
theorem law_at (A : Answers) {w : World} {K : PySem.W.Frag} {h : Heap} {mg : Str → Option Value} {fa : Addr} (X : K.In h) (G : h.Ns mainGlobals mg) (hfa : mg "law" = some (.ref fa)) (c : Told h K) :
    LamX.LawAtS PySem.Challenge.rw_portstell_k60_walks_step_by_step w K (L2.CX hdW.prog w) 45 63 "script" mg fa h := by
  obtain ⟨fd, F⟩ := df_fun c (i := 42) (d := dd "law" 58 []) rfl
  have e := hfa.symm.trans (df_glo X G c (i := 42) rfl)
  cases e
  have bA := FunD.bindsA (ps := ["script"]) F fun _ _ _ _ _ _ us hl => match us, hl with | [_], _ => rfl
  refine ⟨fd, lamD.map (He.cT K), spM (giOf K) (topDen subT fldT none prT lawF 14) 1, fun p q => ?_, fun p q => ?_, fun p q => ?_, fun s u => bA s [u] rfl, fun H a ns hl hb ht hS => ?_, fun base KB GB TB => ?_⟩
  · obtain ⟨d, hd, rfl⟩ := List.mem_map.mp q; exact c.emp _ hd
  · obtain ⟨d, hd, rfl⟩ := List.mem_map.mp q; exact c.out _ hd
  · obtain ⟨d, hd, rfl⟩ := List.mem_map.mp q; exact PySem.W.codeHd_of_K X (c.hd _ hd)
  · have htb : LamX.Tabs (giOf K).T H := fun p q => by
      obtain ⟨d, hd, rfl⟩ := List.mem_map.mp (show p ∈ lamQ.map (fun d => ((He.cT K (d.1, none)).2, (envOfC d.1 (defScope (top d.2)) 0 0 .none).qual ++ "<lambda>")) from q)
      exact LamX.TabS.nil (ht _ (List.mem_map.mpr ⟨(d.1, none), List.mem_map.mpr ⟨d, hd, rfl⟩, rfl⟩))
    have hr : HR (giOf K) [] [] H [] := ⟨rfl, .nil, fun a ha => absurd ha List.not_mem_nil, htb, ⟨rfl, fun i v e => (by cases e)⟩, fun p q => absurd q List.not_mem_nil, fun n a o h1 h2 => (by simp at h1)⟩
    rcases hS with (q | ⟨ob, q⟩) | ⟨o, its, n, lk, h1, h2, h3, h4, h5⟩
    · obtain ⟨μ, e⟩ := A ns hl hb _ (.inl rfl)
      refine ⟨rfl, [], [], [], [.lv (ns.map .int)], hr, .cons (.lv q (by simp) (by simp) (rvs_ints ns)) .nil, ?_⟩
      rw [e]
      intro w' H' ι' _ _ rv
      cases rv
      rfl
    · obtain ⟨μ, e⟩ := A ns hl hb _ (.inr rfl)
      refine ⟨rfl, [], [], [], [.fl (ns.map .int)], hr, .cons (.flH q (by simp) (rvs_ints ns)) .nil, ?_⟩
      rw [e]
      intro w' H' ι' _ _ rv
      cases rv
      rfl
    · obtain ⟨μ, e⟩ := A ns hl hb _ (.inr rfl)
      refine ⟨rfl, [], [], [], [.fl (ns.map .int)], hr, .cons (.flK ⟨lk, h1, h2, h3, h4, h5⟩ (rvs_ints ns)) .nil, ?_⟩
      rw [e]
      intro w' H' ι' _ _ rv
      cases rv
      rfl
  · exact top_ok (G := giOf K) (sub := subT) (fld := fldT) (fu := none) (T := prT) (gl := gl) (glh := glh) (bi := bi) (N := N_law) (F := lawF) (m := 60) (n := 60) (lm := false) (prog_ok X G c TB) 14 F s_law_ rfl rfl s_law_.nd c_law fun z => by cases z
end MI
end
section
set_option Elab.async false
set_option linter.all false
set_option maxRecDepth 100000
set_option maxHeartbeats 4000000
set_option exponentiation.threshold 20000
namespace MI
open PySem PySem.Spec PyProof.Rows L2
theorem den_at {f : Nat} {F : Fn} {d : Nat} {a : Option (Nat × (Mem → R MV))} {vs : List MV} {μ : Mem} (hT : prT[f]? = some F) (hl : vs.length = F.np) (hn : F.np ≤ F.ns) : den subT fldT none prT (d + 1) a f vs μ = outc (execs (wdAt subT fldT none prT d a) F.body (vs.map some ++ List.replicate (F.ns - vs.length) none) μ) := by
  unfold den
  rw [hT]
  dsimp only
  rw [if_pos ⟨hl, hn⟩]
theorem r_whole (d : Nat) (i : Int) (μ : Mem) : den subT fldT none prT (d + 1) none 0 [.int i, .non, .non] μ = some (.ok (.bl true), μ) := by
  rw [den_at (F := ⟨3, 3, b_is_whole⟩) rfl rfl (by decide)]
  simp [b_is_whole, execs, exec, ev, evs, isCls, isCl, evCmp, outc, blO, intO]
abbrev gcT : E := .cmp .ne (.var 1) (.con (.int 0))
abbrev gcB : SS := .cons (.asg (.tp (.cons (.nm 0) (.cons (.nm 1) .nil))) (.tup (.cons (.var 1) (.cons (.bin .mod (.blt .int1 (.cons (.var 0) .nil)) (.var 1)) .nil)))) .nil
theorem gc_t (W : Wd) (μ : Mem) (a b : Int) : ev W gcT [some (.int a), some (.int b)] μ = some (.ok (.bl (!(b == 0))), μ) := by
  simp [ev, evCmp, dat_int, eqv_int]
theorem gc_b (W : Wd) (μ : Mem) (a b : Int) (h : b ≠ 0) : execs W gcB [some (.int a), some (.int b)] μ = some (.nxt [some (.int b), some (.int (a.fmod b))], μ) := by
  simp [ev, evs, execs, exec, asg, asgs, asgK, evBi, evBin, bopI, h, most]
theorem whN_t {test : Env → Mem → R MV} {body : Env → Mem → RS} {n : Nat} {ρ ρ' : Env} {μ μ1 μ2 : Mem} (h : test ρ μ = some (.ok (.bl true), μ1)) (g : body ρ μ1 = some (.nxt ρ', μ2)) : whN test body (n + 1) ρ μ = whN test body n ρ' μ2 := by
  conv => lhs; unfold whN
  rw [h]
  dsimp only
  rw [g]
theorem whN_f {test : Env → Mem → R MV} {body : Env → Mem → RS} {n : Nat} {ρ : Env} {μ μ1 : Mem} (h : test ρ μ = some (.ok (.bl false), μ1)) : whN test body (n + 1) ρ μ = some (.nxt ρ, μ1) := by
  unfold whN
  rw [h]
theorem gc_whN (W : Wd) (μ : Mem) : ∀ b a : Nat, ∃ n, whN (fun ρ μ => ev W gcT ρ μ) (fun ρ μ => execs W gcB ρ μ) n [some (.int a), some (.int b)] μ = some (.nxt [some (.int (Nat.gcd a b)), some (.int 0)], μ) := by
  intro b
  induction b using Nat.strongRecOn with
  | ind b ih =>
    intro a
    by_cases h : b = 0
    · subst h
      exact ⟨1, by rw [whN_f (μ1 := μ) (by show ev W gcT [some (.int a), some (.int ((0 : Nat) : Int))] μ = _; rw [gc_t] <;> rfl)]; simp⟩
    · obtain ⟨n, e⟩ := ih (a % b) (Nat.mod_lt _ (by omega)) b
      refine ⟨n + 1, ?_⟩
      rw [whN_t (μ1 := μ) (by rw [gc_t]; simp [h]) (gc_b W μ a b (by omega))]
      have e2 : Int.fmod (a : Int) (b : Int) = ((a % b : Nat) : Int) := by
        rw [Int.fmod_eq_emod_of_nonneg _ (by omega)]
        rfl
      have e3 : Nat.gcd b (a % b) = Nat.gcd a b := by
        rw [Nat.gcd_comm b (a % b), ← Nat.gcd_rec, Nat.gcd_comm b a]
      rw [e2, e, e3]
theorem abs_nat (i : Int) : (if i < 0 then -i else i) = ((i.natAbs : Nat) : Int) := by split <;> omega
theorem gc_wh (W : Wd) (hW : W.fu = none) (μ : Mem) (a b : Nat) : exec W (.whl gcT gcB) [some (.int a), some (.int b)] μ = some (.nxt [some (.int (Nat.gcd a b)), some (.int 0)], μ) := by
  obtain ⟨n, e⟩ := gc_whN W μ b a
  simp only [exec, hW, wh]
  exact whD_of e
theorem r_gcd (d : Nat) (a b : Int) (μ : Mem) : den subT fldT none prT (d + 1) none 2 [.int a, .int b] μ = some (.ok (.int (Int.gcd a b)), μ) := by
  rw [den_at (F := ⟨2, 2, b_gcd⟩) rfl rfl (by decide)]
  have e : exec (wdAt subT fldT none prT d none) (.asg (.tp (.cons (.nm 0) (.cons (.nm 1) .nil))) (.tup (.cons (.blt .abs (.cons (.var 0) .nil)) (.cons (.blt .abs (.cons (.var 1) .nil)) .nil)))) [some (.int a), some (.int b)] μ = some (.nxt [some (.int (a.natAbs : Nat)), some (.int (b.natAbs : Nat))], μ) := by
    simp only [← abs_nat]
    simp [exec, ev, evs, asg, asgs, asgK, evBi, most]
  show outc (execs (wdAt subT fldT none prT d none) b_gcd [some (.int a), some (.int b)] μ) = _
  simp only [b_gcd, execs]
  rw [e, seqK_nxt, gc_wh _ rfl, seqK_nxt]
  simp [exec, ev, outc, Int.gcd]
theorem gcOk_self (n : Nat) : ∀ μ : Mem, gcOk n μ μ = true
  | [] => rfl
  | o :: μ => by simp [gcOk, gcOk_self n μ]
mutual
/-- nothing at a place -/
def MV.noL : MV → Bool
  | .loc _ => false
  | .tup xs => MV.noLs xs
  | .lv xs => MV.noLs xs
  | .fl xs => MV.noLs xs
  | .exo _ x => MV.noL x
  | _ => true
def MV.noLs : List MV → Bool
  | [] => true
  | x :: xs => MV.noL x && MV.noLs xs
end
mutual
theorem rd_noL {lk : Nat → Option MV} : ∀ {v : MV}, v.noL = true → MV.rd lk v = some v
  | .loc _, h => by simp [MV.noL] at h
  | .tup xs, h => by simp only [MV.noL] at h; simp [MV.rd, rds_noL h]
  | .lv xs, h => by simp only [MV.noL] at h; simp [MV.rd, rds_noL h]
  | .fl xs, h => by simp only [MV.noL] at h; simp [MV.rd, rds_noL h]
  | .exo _ x, h => by simp only [MV.noL] at h; simp [MV.rd, rd_noL h]
  | .non, _ => rfl
  | .bl _, _ => rfl
  | .int _, _ => rfl
  | .str _, _ => rfl
  | .thk _, _ => rfl
theorem rds_noL {lk : Nat → Option MV} : ∀ {vs : List MV}, MV.noLs vs = true → MV.rds lk vs = some vs
  | [], _ => rfl
  | x :: xs, h => by
    simp only [MV.noLs, Bool.and_eq_true] at h
    simp [MV.rds, rd_noL h.1, rds_noL h.2]
end
theorem gc_same {μ : Mem} {v : MV} (h : v.noL = true) : gc μ.length μ (some (.ok v, μ)) = some (.ok v, μ) := by
  simp [gc, gcOk_self, frz, rd_noL h]
/-- a fraction -/
def fr (q : Rat) : MV := .tup [.int q.num, .int q.den]
theorem div_small {x y : Int} (h : y.natAbs < 2 ^ 9000) : Builtin.divisionGoesByPylong x y = false := by
  unfold Builtin.divisionGoesByPylong
  have : ¬ ((if y = 0 then 0 else y.natAbs.log2 / 30 + 1) > 300) := by
    split
    · omega
    · rename_i hy
      have h0 : y.natAbs ≠ 0 := by omega
      have := (Nat.log2_lt h0).mpr h
      omega
  simp [this]
theorem rat_eq (u v : Int) (h : v ≠ 0) : (Rat.divInt u v).num = (if v < 0 then -u else u).fdiv (Int.gcd u v) ∧ ((Rat.divInt u v).den : Int) = (if v < 0 then -v else v).fdiv (Int.gcd u v) := by
  have hg : (0 : Int) ≤ (Int.gcd u v : Int) := by omega
  rw [Rat.num_divInt, Rat.den_divInt, if_neg h, Int.fdiv_eq_ediv_of_nonneg _ hg, Int.fdiv_eq_ediv_of_nonneg _ hg, Int.gcd_comm v u]
  constructor
  · congr 1
    split
    · rename_i hv
      rw [Int.sign_eq_neg_one_of_neg hv]; omega
    · rename_i hv
      rw [Int.sign_eq_one_of_pos (by omega)]; omega
  · rw [Int.natCast_ediv]
    congr 1
    split <;> omega
theorem gc_int (μ : Mem) (i : Int) : gc (List.length μ) μ (some (.ok (.int i), μ)) = some (.ok (.int i), μ) := gc_same rfl
theorem div_mid {x y : Int} (h : x.natAbs < 2 ^ 13500) : Builtin.divisionGoesByPylong x y = false := by
  unfold Builtin.divisionGoesByPylong
  have : ¬ ((if x = 0 then 0 else x.natAbs.log2 / 30 + 1) > 450) := by
    split
    · omega
    · rename_i hy
      have h0 : x.natAbs ≠ 0 := by omega
      have := (Nat.log2_lt h0).mpr h
      omega
  simp only [Bool.and_eq_false_iff, decide_eq_false_iff_not]
  simp only [beq_iff_eq] at *
  generalize (if x = 0 then 0 else x.natAbs.log2 / 30 + 1) = dx at *
  generalize (if y = 0 then 0 else y.natAbs.log2 / 30 + 1) = dy at *
  omega
/-- numbers that may be divided by their common divisor -/
def DOk (u v : Int) : Prop := v.natAbs < 2 ^ 9000 ∨ (u.natAbs < 2 ^ 13500 ∧ v.natAbs < 2 ^ 13500)
theorem dok_gcd {u v : Int} (hv : v ≠ 0) (h : DOk u v) (g : Int) (hg : g.natAbs = Int.gcd u v) (x : Int) (hx : x.natAbs = u.natAbs ∨ x.natAbs = v.natAbs) : Builtin.divisionGoesByPylong x g = false := by
  rcases h with h | ⟨h1, h2⟩
  · refine div_small ?_
    rw [hg]
    have h1 : Int.gcd u v ≤ v.natAbs := Nat.le_of_dvd (by omega) (Int.gcd_dvd_natAbs_right u v)
    omega
  · refine div_mid ?_
    rcases hx with hx | hx <;> omega
theorem r_ratio (d : Nat) (u v : Int) (μ : Mem) (h : v ≠ 0) (hb : DOk u v) : den subT fldT none prT (d + 2) none 4 [.int u, .int v] μ = some (.ok (fr (Rat.divInt u v)), μ) := by
  rw [den_at (F := ⟨2, 3, b_ratio⟩) rfl rfl (by decide)]
  obtain ⟨e1, e2⟩ := rat_eq u v h
  have hg : (Int.gcd u v : Int) ≠ 0 := by
    have := Int.gcd_pos_of_ne_zero_right u h
    omega
  have d1 := dok_gcd h hb (Int.gcd u v : Int) (by simp) u (.inl rfl)
  have d2 := dok_gcd h hb (Int.gcd u v : Int) (by simp) v (.inr rfl)
  have d3 := dok_gcd h hb (Int.gcd u v : Int) (by simp) (-u) (.inl (by omega))
  have d4 := dok_gcd h hb (Int.gcd u v : Int) (by simp) (-v) (.inr (by omega))
  by_cases hv : v < 0
  · rw [if_pos hv] at e1 e2
    simp [b_ratio, execs, exec, ev, evs, asg, asgs, asgK, evCmp, ltD, outc, most, r_gcd, gc_int, evBin, bopI, intO, hv, hg, d1, d2, d3, d4, h, fr, e1, e2]
  · rw [if_neg hv] at e1 e2
    simp [b_ratio, execs, exec, ev, evs, asg, asgs, asgK, evCmp, ltD, outc, most, r_gcd, gc_int, evBin, bopI, intO, hv, hg, d1, d2, d3, d4, h, fr, e1, e2]
theorem gc_bl (μ : Mem) (b : Bool) : gc (List.length μ) μ (some (.ok (.bl b), μ)) = some (.ok (.bl b), μ) := gc_same rfl
theorem r_row (d : Nat) (xs : List MV) (n : Int) (μ : Mem) : den subT fldT none prT (d + 1) none 1 [.tup xs, .int n] μ = some (.ok (.bl ((xs.length : Int) == n)), μ) := by
  rw [den_at (F := ⟨2, 2, b_is_row⟩) rfl rfl (by decide)]
  simp [b_is_row, execs, exec, ev, evs, isCls, isCl, evCmp, outc, evBi, dcOf, sqOf, dat_int, eqv_int]
theorem r_whole1 (d : Nat) (i l : Int) (μ : Mem) : den subT fldT none prT (d + 1) none 0 [.int i, .int l, .non] μ = some (.ok (.bl (decide (l ≤ i))), μ) := by
  rw [den_at (F := ⟨3, 3, b_is_whole⟩) rfl rfl (by decide)]
  by_cases h : l ≤ i
  · have h' : ¬ i < l := by omega
    simp [b_is_whole, execs, exec, ev, evs, isCls, isCl, evCmp, outc, blO, intO, ltD, h, h']
  · have h' : i < l := by omega
    simp [b_is_whole, execs, exec, ev, evs, isCls, isCl, evCmp, outc, blO, intO, ltD, h, h']
theorem idx_p0 (μ : Mem) (x y : MV) : evIdx μ (.tup [x, y]) (.int 0) = some x := by simp [evIdx, dcOf, sqOf, L2.atI, L2.ixN]
theorem idx_p1 (μ : Mem) (x y : MV) : evIdx μ (.tup [x, y]) (.int 1) = some y := by simp [evIdx, dcOf, sqOf, L2.atI, L2.ixN]
theorem r_isfr (d : Nat) (q : Rat) (μ : Mem) : den subT fldT none prT (d + 2) none 3 [fr q] μ = some (.ok (.bl true), μ) := by
  rw [den_at (F := ⟨1, 1, b_is_fraction⟩) rfl rfl (by decide)]
  have h1 : (1 : Int) ≤ q.den := by have := q.den_pos; omega
  have h2 : Int.gcd q.num q.den = 1 := q.reduced
  simp [b_is_fraction, execs, exec, ev, evs, fr, r_row, gc_bl, gc_int, r_whole, r_whole1, r_gcd, idx_p0, idx_p1, evCmp, outc, blO, dat_int, eqv_int, h1, h2]
/-- numerator and denominator of so many bits at most -/
def Bd (a b : Nat) (q : Rat) : Prop := q.num.natAbs ≤ 2 ^ a ∧ q.den ≤ 2 ^ b
theorem Bd.mono {a b c d : Nat} {q : Rat} (h : Bd a b q) (h1 : a ≤ c) (h2 : b ≤ d) : Bd c d q :=
  ⟨Nat.le_trans h.1 (Nat.pow_le_pow_right (by decide) h1), Nat.le_trans h.2 (Nat.pow_le_pow_right (by decide) h2)⟩
theorem log_le {k n : Nat} (h : k ≤ 2 ^ n) : k.log2 ≤ n := by
  by_cases h0 : k = 0
  · subst h0; simp
  · have h1 : k < 2 ^ (n + 1) := Nat.lt_of_le_of_lt h (Nat.pow_lt_pow_right (by decide) (by omega))
    have := (Nat.log2_lt h0).mpr h1
    omega
theorem mul_ok {i j : Int} {a b : Nat} (hi : i.natAbs ≤ 2 ^ a) (hj : j.natAbs ≤ 2 ^ b) (h : a + b < 134000000) : mulOk i j = true := by
  have := log_le hi
  have := log_le hj
  simp only [mulOk, Bool.or_eq_true, decide_eq_true_eq]
  right
  omega
theorem dvi_le {u v : Int} (hv : v ≠ 0) {a b : Nat} (h1 : u.natAbs ≤ 2 ^ a) (h2 : v.natAbs ≤ 2 ^ b) : Bd a b (Rat.divInt u v) := by
  have hp : 0 < Int.gcd u v := Int.gcd_pos_of_ne_zero_right u hv
  constructor
  · refine Nat.le_trans ?_ h1
    rw [Rat.num_divInt, Int.gcd_comm v u]
    have hs : v.sign.natAbs = 1 := Int.natAbs_sign_of_ne_zero hv
    have : (v.sign * u / (Int.gcd u v : Int)).natAbs ≤ (v.sign * u).natAbs := Int.natAbs_ediv_le_natAbs _ _
    rw [Int.natAbs_mul, hs, Nat.one_mul] at this
    exact this
  · refine Nat.le_trans ?_ h2
    rw [Rat.den_divInt, if_neg hv]
    exact Nat.div_le_self _ _
theorem add_dvi (p q : Rat) : p + q = Rat.divInt (p.num * q.den + q.num * p.den) (p.den * q.den) := by
  conv => lhs; rw [← Rat.num_divInt_den p, ← Rat.num_divInt_den q]
  rw [Rat.divInt_add_divInt _ _ (by have := p.den_pos; omega) (by have := q.den_pos; omega)]
theorem sub_dvi (p q : Rat) : p - q = Rat.divInt (p.num * q.den - q.num * p.den) (p.den * q.den) := by
  conv => lhs; rw [← Rat.num_divInt_den p, ← Rat.num_divInt_den q]
  rw [Rat.divInt_sub_divInt _ _ (by have := p.den_pos; omega) (by have := q.den_pos; omega)]
theorem mul_dvi (p q : Rat) : p * q = Rat.divInt (p.num * q.num) (p.den * q.den) := by
  conv => lhs; rw [← Rat.num_divInt_den p, ← Rat.num_divInt_den q]
  rw [Rat.divInt_mul_divInt]
theorem div_dvi (p q : Rat) : p / q = Rat.divInt (p.num * q.den) (p.den * q.num) := by
  conv => lhs; rw [← Rat.num_divInt_den p, ← Rat.num_divInt_den q]
  rw [Rat.div_def, Rat.inv_divInt, Rat.divInt_mul_divInt]
theorem den_mul {p q : Rat} {b b' : Nat} (h : p.den ≤ 2 ^ b) (h' : q.den ≤ 2 ^ b') : ((p.den : Int) * q.den).natAbs ≤ 2 ^ (b + b') := by
  rw [Int.natAbs_mul, Nat.pow_add]
  exact Nat.mul_le_mul (by simpa using h) (by simpa using h')
theorem mul_le {i j : Int} {a b : Nat} (hi : i.natAbs ≤ 2 ^ a) (hj : j.natAbs ≤ 2 ^ b) : (i * j).natAbs ≤ 2 ^ (a + b) := by
  rw [Int.natAbs_mul, Nat.pow_add]
  exact Nat.mul_le_mul hi hj
theorem add_le {i j : Int} {a b n : Nat} (hi : i.natAbs ≤ 2 ^ a) (hj : j.natAbs ≤ 2 ^ b) (ha : a ≤ n) (hb : b ≤ n) : (i + j).natAbs ≤ 2 ^ (n + 1) := by
  have h1 := Nat.le_trans hi (Nat.pow_le_pow_right (n := 2) (by decide) ha)
  have h2 := Nat.le_trans hj (Nat.pow_le_pow_right (n := 2) (by decide) hb)
  rw [Nat.pow_succ]
  omega
theorem sub_le {i j : Int} {a b n : Nat} (hi : i.natAbs ≤ 2 ^ a) (hj : j.natAbs ≤ 2 ^ b) (ha : a ≤ n) (hb : b ≤ n) : (i - j).natAbs ≤ 2 ^ (n + 1) := by
  have h1 := Nat.le_trans hi (Nat.pow_le_pow_right (n := 2) (by decide) ha)
  have h2 := Nat.le_trans hj (Nat.pow_le_pow_right (n := 2) (by decide) hb)
  rw [Nat.pow_succ]
  omega
section
variable {p q : Rat} {a b a' b' : Nat}
theorem den_nz (p q : Rat) : (p.den : Int) * q.den ≠ 0 := Int.mul_ne_zero (by have := p.den_pos; omega) (by have := q.den_pos; omega)
theorem num_nz (h : q ≠ 0) : (p.den : Int) * q.num ≠ 0 := Int.mul_ne_zero (by have := p.den_pos; omega) (by simpa using h)
theorem Bd.add (h : Bd a b p) (h' : Bd a' b' q) (n m : Nat) (h1 : a + b' ≤ n) (h2 : a' + b ≤ n) (h3 : b + b' ≤ m) : Bd (n + 1) m (p + q) := by
  rw [add_dvi]
  exact Bd.mono (dvi_le (den_nz p q) (add_le (mul_le h.1 (by simpa using h'.2)) (mul_le h'.1 (by simpa using h.2)) h1 h2) (den_mul h.2 h'.2)) (Nat.le_refl _) h3
theorem Bd.sub (h : Bd a b p) (h' : Bd a' b' q) (n m : Nat) (h1 : a + b' ≤ n) (h2 : a' + b ≤ n) (h3 : b + b' ≤ m) : Bd (n + 1) m (p - q) := by
  rw [sub_dvi]
  exact Bd.mono (dvi_le (den_nz p q) (sub_le (mul_le h.1 (by simpa using h'.2)) (mul_le h'.1 (by simpa using h.2)) h1 h2) (den_mul h.2 h'.2)) (Nat.le_refl _) h3
theorem Bd.mul (h : Bd a b p) (h' : Bd a' b' q) (n m : Nat) (h1 : a + a' ≤ n) (h3 : b + b' ≤ m) : Bd n m (p * q) := by
  rw [mul_dvi]
  exact Bd.mono (dvi_le (den_nz p q) (mul_le h.1 h'.1) (den_mul h.2 h'.2)) h1 h3
theorem Bd.div (h : Bd a b p) (h' : Bd a' b' q) (hq : q ≠ 0) (n m : Nat) (h1 : a + b' ≤ n) (h3 : b + a' ≤ m) : Bd n m (p / q) := by
  rw [div_dvi]
  exact Bd.mono (dvi_le (num_nz hq) (mul_le h.1 (by simpa using h'.2)) (mul_le (by simpa using h.2) h'.1)) h1 h3
theorem gcd_le_b {u v : Int} (hv : v ≠ 0) {n : Nat} (h : v.natAbs ≤ 2 ^ n) (hn : n < 9000) : Int.gcd u v < 2 ^ 9000 := by
  have h1 : Int.gcd u v ≤ v.natAbs := Nat.le_of_dvd (by omega) (Int.gcd_dvd_natAbs_right u v)
  have : (2 : Nat) ^ n < 2 ^ 9000 := Nat.pow_lt_pow_right (by decide) hn
  omega
end
end MI
end
section
set_option Elab.async false
set_option linter.all false
set_option maxRecDepth 100000
set_option maxHeartbeats 4000000
set_option exponentiation.threshold 20000
namespace MI
open PySem PySem.Spec PyProof.Rows L2
theorem num_pos' {q : Rat} (h : 0 < q) : 0 < q.num := by
  have h1 : 0 ≤ q.num := Rat.num_nonneg.mpr (by grind)
  have h2 : q.num ≠ 0 := fun e => by
    have := Rat.num_eq_zero.mp e
    grind
  omega
theorem noL_fr (q : Rat) : (fr q).noL = true := by simp [fr, MV.noL, MV.noLs]
theorem gc_fr (μ : Mem) (q : Rat) : gc (List.length μ) μ (some (.ok (fr q), μ)) = some (.ok (fr q), μ) := gc_same (noL_fr q)
theorem fx0 (μ : Mem) (q : Rat) : evIdx μ (fr q) (.int 0) = some (.int q.num) := idx_p0 _ _ _
theorem fx1 (μ : Mem) (q : Rat) : evIdx μ (fr q) (.int 1) = some (.int q.den) := idx_p1 _ _ _
theorem fr0 : MV.tup [.int 0, .int 1] = fr 0 := rfl
theorem fr1 : MV.tup [.int 1, .int 1] = fr 1 := rfl
section
variable {p q : Rat} {a b a' b' : Nat}
theorem lt_p2 {x n m : Nat} (h : x ≤ 2 ^ n) (hn : n < m) : x < 2 ^ m := Nat.lt_of_le_of_lt h (Nat.pow_lt_pow_right (by decide) hn)
theorem e_ratio (d : Nat) {u v : Int} (r : Rat) (μ : Mem) (he : r = Rat.divInt u v) (hv : v ≠ 0) {m n : Nat} (hu : u.natAbs ≤ 2 ^ m) (h : v.natAbs ≤ 2 ^ n) (hn : n < 9000 ∨ (n < 13500 ∧ m < 13500)) : den subT fldT none prT (d + 2) none 4 [.int u, .int v] μ = some (.ok (fr r), μ) := by
  rw [he]
  refine r_ratio d u v μ hv ?_
  rcases hn with hn | ⟨h1, h2⟩
  · exact .inl (lt_p2 h hn)
  · exact .inr ⟨lt_p2 hu h2, lt_p2 h h1⟩
theorem num_le {x y : Int} {n m k l : Nat} (hx : x.natAbs ≤ 2 ^ n) (hy : y.natAbs ≤ 2 ^ m) (h : n + m ≤ k) : (x * y).natAbs ≤ 2 ^ k := Nat.le_trans (mul_le hx hy) (Nat.pow_le_pow_right (by decide) h)
theorem dn (h : Bd a b p) : (p.den : Int).natAbs ≤ 2 ^ b := by simpa using h.2
theorem r_rsum (d : Nat) (μ : Mem) (h : Bd a b p) (h' : Bd a' b' q) (hb : b + b' < 9000 ∨ (b + b' < 13500 ∧ a + b' < 13499 ∧ a' + b < 13499)) (h1 : a + b' < 100000) (h2 : a' + b < 100000) : den subT fldT none prT (d + 3) none 5 [fr p, fr q] μ = some (.ok (fr (p + q)), μ) := by
  rw [den_at (F := ⟨2, 2, b_ratio_sum⟩) rfl rfl (by decide)]
  have m1 := mul_ok h.1 (dn h') (by omega)
  have m2 := mul_ok h'.1 (dn h) (by omega)
  have m3 := mul_ok (dn h) (dn h') (by omega)
  have e := e_ratio d (p + q) μ (add_dvi p q) (den_nz p q) (add_le (n := max (a + b') (a' + b)) (mul_le h.1 (dn h')) (mul_le h'.1 (dn h)) (by omega) (by omega)) (den_mul h.2 h'.2) (by omega)
  simp (implicitDefEqProofs := false) [execs, exec, ev, evs, evIt, asg, asgs, asgK, evCmp, ltD, outc, most, evBi, evBin, bopI, dcOf, sqOf, isCls, isCl, blO, intO, dat_int, eqv_int, gc_int, gc_bl, gc_fr, fx0, fx1, b_ratio_sum, m1, m2, m3, e]
theorem r_rtimes (d : Nat) (μ : Mem) (h : Bd a b p) (h' : Bd a' b' q) (hb : b + b' < 9000 ∨ (b + b' < 13500 ∧ a + a' < 13500)) (h1 : a + a' < 100000) : den subT fldT none prT (d + 3) none 6 [fr p, fr q] μ = some (.ok (fr (p * q)), μ) := by
  rw [den_at (F := ⟨2, 2, b_ratio_times⟩) rfl rfl (by decide)]
  have m1 := mul_ok h.1 h'.1 (by omega)
  have m3 := mul_ok (dn h) (dn h') (by omega)
  have e := e_ratio d (p * q) μ (mul_dvi p q) (den_nz p q) (mul_le h.1 h'.1) (den_mul h.2 h'.2) hb
  simp (implicitDefEqProofs := false) [execs, exec, ev, evs, evIt, asg, asgs, asgK, evCmp, ltD, outc, most, evBi, evBin, bopI, dcOf, sqOf, isCls, isCl, blO, intO, dat_int, eqv_int, gc_int, gc_bl, gc_fr, fx0, fx1, b_ratio_times, m1, m3, e]
theorem r_rover (d : Nat) (μ : Mem) (h : Bd a b p) (h' : Bd a' b' q) (hq : q ≠ 0) (hb : b + a' < 9000 ∨ (b + a' < 13500 ∧ a + b' < 13500)) (h1 : a + b' < 100000) : den subT fldT none prT (d + 3) none 7 [fr p, fr q] μ = some (.ok (fr (p / q)), μ) := by
  rw [den_at (F := ⟨2, 2, b_ratio_over⟩) rfl rfl (by decide)]
  have m1 := mul_ok h.1 (dn h') (by omega)
  have m3 := mul_ok (dn h) h'.1 (by omega)
  have e := e_ratio d (p / q) μ (div_dvi p q) (num_nz hq) (mul_le h.1 (dn h')) (mul_le (dn h) h'.1) hb
  simp (implicitDefEqProofs := false) [execs, exec, ev, evs, evIt, asg, asgs, asgK, evCmp, ltD, outc, most, evBi, evBin, bopI, dcOf, sqOf, isCls, isCl, blO, intO, dat_int, eqv_int, gc_int, gc_bl, gc_fr, fx0, fx1, b_ratio_over, m1, m3, e]
end
theorem den_same {f g : Nat} (h : prT[f]? = prT[g]?) (d : Nat) (vs : List MV) (μ : Mem) : den subT fldT none prT (d + 1) none f vs μ = den subT fldT none prT (d + 1) none g vs μ := by
  unfold den
  rw [h]
theorem r_lcommon (d : Nat) (a b : Int) (μ : Mem) : den subT fldT none prT (d + 1) none 26 [.int a, .int b] μ = some (.ok (.int (Int.gcd a b)), μ) :=
  (den_same (show prT[26]? = prT[2]? from rfl) d _ μ).trans (r_gcd d a b μ)
theorem r_lratio (d : Nat) {u v : Int} (r : Rat) (μ : Mem) (he : r = Rat.divInt u v) (hv : v ≠ 0) (hb : DOk u v) : den subT fldT none prT (d + 2) none 27 [.int u, .int v] μ = some (.ok (fr r), μ) := by
  rw [he, den_at (F := ⟨2, 3, b__law_ratio⟩) rfl rfl (by decide)]
  obtain ⟨e1, e2⟩ := rat_eq u v hv
  have hg : (Int.gcd u v : Int) ≠ 0 := by
    have := Int.gcd_pos_of_ne_zero_right u hv
    omega
  have d1 := dok_gcd hv hb (Int.gcd u v : Int) (by simp) u (.inl rfl)
  have d2 := dok_gcd hv hb (Int.gcd u v : Int) (by simp) v (.inr rfl)
  have d3 := dok_gcd hv hb (-(Int.gcd u v : Int)) (by simp) u (.inl rfl)
  have d4 := dok_gcd hv hb (-(Int.gcd u v : Int)) (by simp) v (.inr rfl)
  by_cases hv' : v < 0
  · rw [if_pos hv', ← Int.neg_fdiv_neg, Int.neg_neg] at e1 e2
    simp (implicitDefEqProofs := false) [execs, exec, ev, evs, evIt, asg, asgs, asgK, evCmp, ltD, outc, most, evBi, evBin, bopI, dcOf, sqOf, isCls, isCl, blO, intO, dat_int, eqv_int, gc_int, gc_bl, gc_fr, fx0, fx1, b__law_ratio, r_lcommon, hv', hg, d1, d2, d3, d4, hv, fr, e1, e2]
  · rw [if_neg hv'] at e1 e2
    simp (implicitDefEqProofs := false) [execs, exec, ev, evs, evIt, asg, asgs, asgK, evCmp, ltD, outc, most, evBi, evBin, bopI, dcOf, sqOf, isCls, isCl, blO, intO, dat_int, eqv_int, gc_int, gc_bl, gc_fr, fx0, fx1, b__law_ratio, r_lcommon, hv', hg, d1, d2, d3, d4, hv, fr, e1, e2]
section
variable {p q : Rat} {a b a' b' : Nat}
theorem e_lratio (d : Nat) {u v : Int} (r : Rat) (μ : Mem) (he : r = Rat.divInt u v) (hv : v ≠ 0) {m n : Nat} (hu : u.natAbs ≤ 2 ^ m) (h : v.natAbs ≤ 2 ^ n) (hn : n < 9000 ∨ (n < 13500 ∧ m < 13500)) : den subT fldT none prT (d + 2) none 27 [.int u, .int v] μ = some (.ok (fr r), μ) := by
  refine r_lratio d r μ he hv ?_
  rcases hn with hn | ⟨h1, h2⟩
  · exact .inl (lt_p2 h hn)
  · exact .inr ⟨lt_p2 hu h2, lt_p2 h h1⟩
theorem r_lover (d : Nat) (μ : Mem) (h : Bd a b p) (h' : Bd a' b' q) (hq : q ≠ 0) (hb : b + a' < 9000 ∨ (b + a' < 13500 ∧ a + b' < 13500)) (h1 : a + b' < 100000) : den subT fldT none prT (d + 3) none 30 [fr p, fr q] μ = some (.ok (fr (p / q)), μ) := by
  rw [den_at (F := ⟨2, 2, b__law_over⟩) rfl rfl (by decide)]
  have m1 := mul_ok h.1 (dn h') (by omega)
  have m3 := mul_ok (dn h) h'.1 (by omega)
  have m4 : mulOk q.num p.den = true := mul_ok h'.1 (dn h) (by omega)
  have e := e_lratio d (p / q) μ (div_dvi p q) (num_nz hq) (mul_le h.1 (dn h')) (mul_le (dn h) h'.1) hb
  simp (implicitDefEqProofs := false) [execs, exec, ev, evs, evIt, asg, asgs, asgK, evCmp, ltD, outc, most, evBi, evBin, bopI, dcOf, sqOf, isCls, isCl, blO, intO, dat_int, eqv_int, gc_int, gc_bl, gc_fr, fx0, fx1, b__law_over, m1, m3, m4, e]
end
theorem forL_nxt {gd : List (Nat × List MV)} {step : MV → Env → Mem → RS} {x : MV} {xs : List MV} {ρ ρ' : Env} {μ μ' : Mem} (hg : gdOk μ gd = true) (h : step x ρ μ = some (.nxt ρ', μ')) : forL gd step (x :: xs) ρ μ = forL gd step xs ρ' μ' := by
  conv => lhs; unfold forL
  rw [if_pos hg, h]
theorem forL_nil {gd : List (Nat × List MV)} {step : MV → Env → Mem → RS} {ρ : Env} {μ : Mem} (hg : gdOk μ gd = true) : forL gd step [] ρ μ = some (.nxt ρ, μ) := by
  unfold forL
  rw [if_pos hg]
theorem asg_fr (W : Wd) (gs : GS) (q : Rat) (ρ : Env) (μ : Mem) : asg W (.tp gs) (fr q) ρ μ = asgs W gs [.int q.num, .int q.den] ρ μ := by simp only [fr, asg]
theorem Bd0 : Bd 0 0 0 := by constructor <;> decide
theorem Bd1 : Bd 0 0 1 := by constructor <;> decide
abbrev pr23 : G := .tp (.cons (.nm 2) (.cons (.nm 3) .nil))
noncomputable abbrev stp (W : Wd) (g : G) (b : SS) : MV → Env → Mem → RS := fun x ρ μ => match asg W g x ρ μ with
  | some (ρ', μ') => execs W b ρ' μ'
  | none => none
/-- partial sums of a size -/
def Ch : Rat → List Rat → Prop
  | _, [] => True
  | acc, q :: qs => (∃ a b a' b', Bd a b acc ∧ Bd a' b' q ∧ (b + b' < 9000 ∨ (b + b' < 13500 ∧ a + b' < 13499 ∧ a' + b < 13499)) ∧ a + b' < 100000 ∧ a' + b < 100000) ∧ Ch (acc + q) qs
abbrev sumB : SS := .cons (.asg (.nm 1) (.app false 27 (.cons (.bin .add (.bin .mul (.idx (.var 1) (.con (.int 0))) (.var 3)) (.bin .mul (.var 2) (.idx (.var 1) (.con (.int 1))))) (.cons (.bin .mul (.idx (.var 1) (.con (.int 1))) (.var 3)) .nil)) [])) .nil
theorem lsum_step {a b a' b' : Nat} (d : Nat) (x : MV) (acc q : Rat) (o2 o3 : Option MV) (μ : Mem) (h : Bd a b acc) (h' : Bd a' b' q) (hb : b + b' < 9000 ∨ (b + b' < 13500 ∧ a + b' < 13499 ∧ a' + b < 13499)) (h1 : a + b' < 100000) (h2 : a' + b < 100000) :
    stp (wdAt subT fldT none prT (d + 2) none) pr23 sumB (fr q) [some x, some (fr acc), o2, o3] μ = some (.nxt [some x, some (fr (acc + q)), some (.int q.num), some (.int q.den)], μ) := by
  have m1 := mul_ok h.1 (dn h') (by omega)
  have m2 := mul_ok h'.1 (dn h) (by omega)
  have m3 := mul_ok (dn h) (dn h') (by omega)
  have e := e_lratio d (acc + q) μ (add_dvi acc q) (den_nz acc q) (add_le (n := max (a + b') (a' + b)) (mul_le h.1 (dn h')) (mul_le h'.1 (dn h)) (by omega) (by omega)) (den_mul h.2 h'.2) (by omega)
  simp only [stp, asg_fr]
  simp (implicitDefEqProofs := false) [execs, exec, ev, evs, evIt, asg, asgs, asgK, evCmp, ltD, outc, most, evBi, evBin, bopI, dcOf, sqOf, isCls, isCl, blO, intO, dat_int, eqv_int, gc_int, gc_bl, gc_fr, fx0, fx1,  m1, m2, m3, e]
theorem lsum_for (d : Nat) (x : MV) {gd : List (Nat × List MV)} (μ : Mem) (hg : gdOk μ gd = true) : ∀ (qs : List Rat) (acc : Rat) (o2 o3 : Option MV), Ch acc qs → ∃ o2' o3', forL gd (stp (wdAt subT fldT none prT (d + 2) none) pr23 sumB) (qs.map fr) [some x, some (fr acc), o2, o3] μ = some (.nxt [some x, some (fr (qs.foldl (· + ·) acc)), o2', o3'], μ)
  | [], acc, o2, o3, _ => ⟨o2, o3, forL_nil hg⟩
  | q :: qs, acc, o2, o3, ⟨⟨a, b, a', b', h, h', hb, h1, h2⟩, hc⟩ => by
    obtain ⟨u, v, e⟩ := lsum_for d x μ hg qs (acc + q) (some (.int q.num)) (some (.int q.den)) hc
    exact ⟨u, v, (forL_nxt hg (lsum_step d x acc q o2 o3 μ h h' hb h1 h2)).trans e⟩
theorem r_lsum (d : Nat) (x : MV) (qs : List Rat) (μ : Mem) (hs : sqOf μ x = some (qs.map fr)) (hg : gdOk μ (gdOf x (qs.map fr)) = true) (hc : Ch 0 qs) : den subT fldT none prT (d + 3) none 28 [x] μ = some (.ok (fr (qs.foldl (· + ·) 0)), μ) := by
  rw [den_at (F := ⟨1, 4, b__law_sum⟩) rfl rfl (by decide)]
  obtain ⟨u, v, e⟩ := lsum_for d x μ hg qs 0 none none hc
  have e1 : exec (wdAt subT fldT none prT (d + 2) none) (.asg (.nm 1) (.tup (.cons (.con (.int 0)) (.cons (.con (.int 1)) .nil)))) [some x, none, none, none] μ = some (.nxt [some x, some (fr 0), none, none], μ) := by simp (implicitDefEqProofs := false) [execs, exec, ev, evs, evIt, asg, asgs, asgK, evCmp, ltD, outc, most, evBi, evBin, bopI, dcOf, sqOf, isCls, isCl, blO, intO, dat_int, eqv_int, gc_int, gc_bl, gc_fr, fx0, fx1, fr0]
  have e2 : exec (wdAt subT fldT none prT (d + 2) none) (.fr pr23 (.seq (.var 0)) sumB) [some x, some (fr 0), none, none] μ = _ := (show _ = forL (gdOf x (qs.map fr)) (stp (wdAt subT fldT none prT (d + 2) none) pr23 sumB) (qs.map fr) [some x, some (fr 0), none, none] μ by simp (implicitDefEqProofs := false) [exec, evIt, ev, hs] <;> rfl).trans e
  show outc (execs (wdAt subT fldT none prT (d + 2) none) b__law_sum [some x, none, none, none] μ) = _
  simp only [b__law_sum, execs]
  rw [e1, seqK_nxt, e2, seqK_nxt]
  simp (implicitDefEqProofs := false) [exec, ev, outc]
abbrev totB : SS := .cons (.asg (.nm 1) (.app false 5 (.cons (.var 1) (.cons (.var 2) .nil)) [])) .nil
theorem tot_step {a b a' b' : Nat} (d : Nat) (x : MV) (acc q : Rat) (o2 : Option MV) (μ : Mem) (h : Bd a b acc) (h' : Bd a' b' q) (hb : b + b' < 9000 ∨ (b + b' < 13500 ∧ a + b' < 13499 ∧ a' + b < 13499)) (h1 : a + b' < 100000) (h2 : a' + b < 100000) :
    stp (wdAt subT fldT none prT (d + 3) none) (.nm 2) totB (fr q) [some x, some (fr acc), o2] μ = some (.nxt [some x, some (fr (acc + q)), some (fr q)], μ) := by
  have e := r_rsum d μ h h' hb h1 h2
  simp (implicitDefEqProofs := false) [execs, exec, ev, evs, evIt, asg, asgs, asgK, evCmp, ltD, outc, most, evBi, evBin, bopI, dcOf, sqOf, isCls, isCl, blO, intO, dat_int, eqv_int, gc_int, gc_bl, gc_fr, fx0, fx1, stp, e]
theorem tot_for (d : Nat) (x : MV) {gd : List (Nat × List MV)} (μ : Mem) (hg : gdOk μ gd = true) : ∀ (qs : List Rat) (acc : Rat) (o2 : Option MV), Ch acc qs → ∃ o2', forL gd (stp (wdAt subT fldT none prT (d + 3) none) (.nm 2) totB) (qs.map fr) [some x, some (fr acc), o2] μ = some (.nxt [some x, some (fr (qs.foldl (· + ·) acc)), o2'], μ)
  | [], acc, o2, _ => ⟨o2, forL_nil hg⟩
  | q :: qs, acc, o2, ⟨⟨a, b, a', b', h, h', hb, h1, h2⟩, hc⟩ => by
    obtain ⟨u, e⟩ := tot_for d x μ hg qs (acc + q) (some (fr q)) hc
    exact ⟨u, (forL_nxt hg (tot_step d x acc q o2 μ h h' hb h1 h2)).trans e⟩
theorem r_rtotal (d : Nat) (x : MV) (qs : List Rat) (μ : Mem) (hs : sqOf μ x = some (qs.map fr)) (hg : gdOk μ (gdOf x (qs.map fr)) = true) (hc : Ch 0 qs) : den subT fldT none prT (d + 4) none 8 [x] μ = some (.ok (fr (qs.foldl (· + ·) 0)), μ) := by
  rw [den_at (F := ⟨1, 3, b_ratio_total⟩) rfl rfl (by decide)]
  obtain ⟨u, e⟩ := tot_for d x μ hg qs 0 none hc
  have e1 : exec (wdAt subT fldT none prT (d + 3) none) (.asg (.nm 1) (.con (.tup [(.int 0), (.int 1)]))) [some x, none, none] μ = some (.nxt [some x, some (fr 0), none], μ) := by simp (implicitDefEqProofs := false) [execs, exec, ev, evs, evIt, asg, asgs, asgK, evCmp, ltD, outc, most, evBi, evBin, bopI, dcOf, sqOf, isCls, isCl, blO, intO, dat_int, eqv_int, gc_int, gc_bl, gc_fr, fx0, fx1, fr0]
  have e2 : exec (wdAt subT fldT none prT (d + 3) none) (.fr (.nm 2) (.seq (.var 0)) totB) [some x, some (fr 0), none] μ = _ := (show _ = forL (gdOf x (qs.map fr)) (stp (wdAt subT fldT none prT (d + 3) none) (.nm 2) totB) (qs.map fr) [some x, some (fr 0), none] μ by simp (implicitDefEqProofs := false) [exec, evIt, ev, hs] <;> rfl).trans e
  show outc (execs (wdAt subT fldT none prT (d + 3) none) b_ratio_total [some x, none, none] μ) = _
  simp only [b_ratio_total, execs]
  rw [e1, seqK_nxt, e2, seqK_nxt]
  simp (implicitDefEqProofs := false) [exec, ev, outc]
/-- products of a size -/
def Cm : Rat → List Rat → Prop
  | _, [] => True
  | acc, q :: qs => (∃ a b a' b', Bd a b acc ∧ Bd a' b' q ∧ (b + b' < 9000 ∨ (b + b' < 13500 ∧ a + a' < 13500)) ∧ a + a' < 100000) ∧ Cm (acc * q) qs
abbrev timB : SS := .cons (.asg (.nm 1) (.app false 27 (.cons (.bin .mul (.idx (.var 1) (.con (.int 0))) (.var 2)) (.cons (.bin .mul (.idx (.var 1) (.con (.int 1))) (.var 3)) .nil)) [])) .nil
theorem timesB_step {a b a' b' : Nat} (d : Nat) (x : MV) (acc q : Rat) (o2 o3 : Option MV) (μ : Mem) (h : Bd a b acc) (h' : Bd a' b' q) (hb : b + b' < 9000 ∨ (b + b' < 13500 ∧ a + a' < 13500)) (h1 : a + a' < 100000) :
    stp (wdAt subT fldT none prT (d + 2) none) pr23 timB (fr q) [some x, some (fr acc), o2, o3] μ = some (.nxt [some x, some (fr (acc * q)), some (.int q.num), some (.int q.den)], μ) := by
  have m1 := mul_ok h.1 h'.1 (by omega)
  have m3 := mul_ok (dn h) (dn h') (by omega)
  have e := e_lratio d (acc * q) μ (mul_dvi acc q) (den_nz acc q) (mul_le h.1 h'.1) (den_mul h.2 h'.2) hb
  simp only [stp, asg_fr]
  simp (implicitDefEqProofs := false) [execs, exec, ev, evs, evIt, asg, asgs, asgK, evCmp, ltD, outc, most, evBi, evBin, bopI, dcOf, sqOf, isCls, isCl, blO, intO, dat_int, eqv_int, gc_int, gc_bl, gc_fr, fx0, fx1,  m1, m3, e]
theorem ltim_for (d : Nat) (x : MV) {gd : List (Nat × List MV)} (μ : Mem) (hg : gdOk μ gd = true) : ∀ (qs : List Rat) (acc : Rat) (o2 o3 : Option MV), Cm acc qs → ∃ o2' o3', forL gd (stp (wdAt subT fldT none prT (d + 2) none) pr23 timB) (qs.map fr) [some x, some (fr acc), o2, o3] μ = some (.nxt [some x, some (fr (qs.foldl (· * ·) acc)), o2', o3'], μ)
  | [], acc, o2, o3, _ => ⟨o2, o3, forL_nil hg⟩
  | q :: qs, acc, o2, o3, ⟨⟨a, b, a', b', h, h', hb, h1⟩, hc⟩ => by
    obtain ⟨u, v, e⟩ := ltim_for d x μ hg qs (acc * q) (some (.int q.num)) (some (.int q.den)) hc
    exact ⟨u, v, (forL_nxt hg (timesB_step d x acc q o2 o3 μ h h' hb h1)).trans e⟩
theorem r_ltimes (d : Nat) (x : MV) (qs : List Rat) (μ : Mem) (hs : sqOf μ x = some (qs.map fr)) (hg : gdOk μ (gdOf x (qs.map fr)) = true) (hc : Cm 1 qs) : den subT fldT none prT (d + 3) none 29 [x] μ = some (.ok (fr (qs.foldl (· * ·) 1)), μ) := by
  rw [den_at (F := ⟨1, 4, b__law_times⟩) rfl rfl (by decide)]
  obtain ⟨u, v, e⟩ := ltim_for d x μ hg qs 1 none none hc
  have e1 : exec (wdAt subT fldT none prT (d + 2) none) (.asg (.nm 1) (.tup (.cons (.con (.int 1)) (.cons (.con (.int 1)) .nil)))) [some x, none, none, none] μ = some (.nxt [some x, some (fr 1), none, none], μ) := by simp (implicitDefEqProofs := false) [execs, exec, ev, evs, evIt, asg, asgs, asgK, evCmp, ltD, outc, most, evBi, evBin, bopI, dcOf, sqOf, isCls, isCl, blO, intO, dat_int, eqv_int, gc_int, gc_bl, gc_fr, fx0, fx1, fr1]
  have e2 : exec (wdAt subT fldT none prT (d + 2) none) (.fr pr23 (.seq (.var 0)) timB) [some x, some (fr 1), none, none] μ = _ := (show _ = forL (gdOf x (qs.map fr)) (stp (wdAt subT fldT none prT (d + 2) none) pr23 timB) (qs.map fr) [some x, some (fr 1), none, none] μ by simp (implicitDefEqProofs := false) [exec, evIt, ev, hs] <;> rfl).trans e
  show outc (execs (wdAt subT fldT none prT (d + 2) none) b__law_times [some x, none, none, none] μ) = _
  simp only [b__law_times, execs]
  rw [e1, seqK_nxt, e2, seqK_nxt]
  simp (implicitDefEqProofs := false) [exec, ev, outc]
theorem r_ltimes2 {p q : Rat} {a b a' b' : Nat} (d : Nat) (μ : Mem) (h : Bd a b p) (h' : Bd a' b' q) (hb : b + b' < 9000 ∨ (b + b' < 13500 ∧ a + a' < 13500)) (h1 : a + a' < 100000) (hb0 : b < 9000) (ha0 : a < 100000) : den subT fldT none prT (d + 3) none 29 [.lv [fr p, fr q]] μ = some (.ok (fr (p * q)), μ) := by
  have e := r_ltimes d (.lv [fr p, fr q]) [p, q] μ rfl rfl ⟨⟨0, 0, a, b, Bd1, h, by omega, by omega⟩, ⟨a, b, a', b', by rw [Rat.one_mul]; exact h, h', hb, h1⟩, trivial⟩
  rw [e]
  simp [Rat.one_mul]
end MI
end
section
set_option Elab.async false
set_option linter.all false
set_option maxRecDepth 100000
set_option maxHeartbeats 4000000
set_option exponentiation.threshold 20000
namespace MI
open PySem PySem.Spec PyProof.Rows L2
theorem ix30 (μ : Mem) (x y z : MV) : evIdx μ (.tup [x, y, z]) (.int 0) = some x := by simp [evIdx, dcOf, sqOf, L2.atI, L2.ixN]
theorem ix31 (μ : Mem) (x y z : MV) : evIdx μ (.tup [x, y, z]) (.int 1) = some y := by simp [evIdx, dcOf, sqOf, L2.atI, L2.ixN]
theorem ix32 (μ : Mem) (x y z : MV) : evIdx μ (.tup [x, y, z]) (.int 2) = some z := by simp [evIdx, dcOf, sqOf, L2.atI, L2.ixN]
/-- plain values, so deep at most -/
def Pl : Nat → MV → Prop
  | _, .non => True
  | _, .bl _ => True
  | _, .int _ => True
  | _, .str s => (PyData.str s).canLay0 = true
  | n + 1, .tup xs => xs.length ≤ 1000 ∧ ∀ x ∈ xs, Pl n x
  | n + 1, .lv xs => xs.length ≤ 1000 ∧ ∀ x ∈ xs, Pl n x
  | _, _ => False
theorem Pl_up : ∀ {n : Nat} {v : MV}, Pl n v → Pl (n + 1) v
  | n, .non, h => by unfold Pl at h ⊢; trivial
  | n, .bl _, h => by unfold Pl at h ⊢; trivial
  | n, .int _, h => by unfold Pl at h ⊢; trivial
  | n, .str _, h => by unfold Pl at h ⊢; exact h
  | 0, .tup xs, h => by unfold Pl at h; exact h.elim
  | 0, .lv xs, h => by unfold Pl at h; exact h.elim
  | n + 1, .tup xs, h => by unfold Pl at h ⊢; exact ⟨h.1, fun x hx => Pl_up (h.2 x hx)⟩
  | n + 1, .lv xs, h => by unfold Pl at h ⊢; exact ⟨h.1, fun x hx => Pl_up (h.2 x hx)⟩
  | n, .loc _, h => by cases n <;> (unfold Pl at h; exact h.elim)
  | n, .exo _ _, h => by cases n <;> (unfold Pl at h; exact h.elim)
  | n, .thk _, h => by cases n <;> (unfold Pl at h; exact h.elim)
  | n, .fl _, h => by cases n <;> (unfold Pl at h; exact h.elim)
theorem forL_all {step : MV → Env → Mem → RS} {μ : Mem} {P : Env → Prop} : ∀ {xs : List MV}, (∀ x ∈ xs, ∀ ρ, P ρ → ∃ ρ', step x ρ μ = some (.nxt ρ', μ) ∧ P ρ') → ∀ {ρ}, P ρ → ∃ ρ', forL [] step xs ρ μ = some (.nxt ρ', μ) ∧ P ρ'
  | [], _, ρ, h => ⟨ρ, forL_nil rfl, h⟩
  | x :: xs, hs, ρ, h => by
    obtain ⟨ρ1, e, h1⟩ := hs x List.mem_cons_self ρ h
    obtain ⟨ρ2, e2, h2⟩ := forL_all (fun y hy => hs y (List.mem_cons_of_mem _ hy)) h1
    exact ⟨ρ2, (forL_nxt rfl e).trans e2, h2⟩
theorem atI_nat {α : Type} {xs : List α} {k : Nat} (h : k < xs.length) : L2.atI xs (k : Int) = some xs[k] := by
  have : (k : Int) < xs.length := by omega
  simp [L2.atI, L2.ixN, this, h]
theorem ixt_nat (μ : Mem) {xs : List MV} {k : Nat} (h : k < xs.length) : evIdx μ (.tup xs) (.int k) = some xs[k] := by simp [evIdx, dcOf, sqOf, atI_nat h]
theorem ixl_nat (μ : Mem) {xs : List MV} {k : Nat} (h : k < xs.length) : evIdx μ (.lv xs) (.int k) = some xs[k] := by simp [evIdx, dcOf, sqOf, atI_nat h]
abbrev likB : SS := .cons (.ite (.nt (.app false 24 (.cons (.idx (.var 0) (.var 2)) (.cons (.idx (.var 1) (.var 2)) .nil)) [])) (.cons (.ret (.con (.bl false))) .nil) .nil) .nil
theorem lik_for (d : Nat) (v : MV) (xs : List MV) (μ : Mem) (hx : ∀ k, (h : k < xs.length) → evIdx μ v (.int k) = some xs[k]) (hd : ∀ x ∈ xs, den subT fldT none prT d none 24 [x, x] μ = some (.ok (.bl true), μ)) :
    ∃ o, forL [] (stp (wdAt subT fldT none prT d none) (.nm 2) likB) ((List.range xs.length).map fun (k : Nat) => MV.int k) [some v, some v, none] μ = some (.nxt [some v, some v, o], μ) := by
  have := forL_all (step := stp (wdAt subT fldT none prT d none) (.nm 2) likB) (μ := μ) (P := fun ρ => ∃ o, ρ = [some v, some v, o]) (xs := (List.range xs.length).map fun (k : Nat) => MV.int k) (fun x hx' ρ hρ => by
    obtain ⟨k, hk, rfl⟩ := List.mem_map.mp hx'
    obtain ⟨o, rfl⟩ := hρ
    have hk := List.mem_range.mp hk
    have e1 := hx k hk
    have e2 := hd xs[k] (List.getElem_mem hk)
    refine ⟨_, ?_, ⟨some (.int k), rfl⟩⟩
    simp (implicitDefEqProofs := false) [execs, exec, ev, evs, evIt, asg, asgs, asgK, evCmp, ltD, outc, most, evBi, evBin, bopI, dcOf, sqOf, isCls, isCl, blO, intO, dat_int, eqv_int, gc_int, gc_bl, gc_fr, fx0, fx1, stp, e1, e2]) (ρ := [some v, some v, none]) ⟨none, rfl⟩
  obtain ⟨ρ', e, o, rfl⟩ := this
  exact ⟨o, e⟩
theorem small_len {xs : List MV} (h : xs.length ≤ 1000) : small (xs.length : Int) = true := by
  unfold small
  simp only [Bool.and_eq_true, decide_eq_true_eq]
  omega
def likT : SS := .cons (.fr (.nm 2) (.rng (.cons (.blt .len (.cons (.var 1) .nil)) .nil)) likB) (.cons (.ret (.con (.bl true))) .nil)
theorem lik_tail (W : Wd) (v : MV) (xs : List MV) (μ : Mem) {o : Option MV} (h : evBi μ .len [v] = some (.int xs.length)) (hl : xs.length ≤ 1000) (e : forL [] (stp W (.nm 2) likB) ((List.range xs.length).map fun (k : Nat) => MV.int k) [some v, some v, none] μ = some (.nxt [some v, some v, o], μ)) : execs W likT [some v, some v, none] μ = some (.ret (.bl true), μ) := by
  have e2 : exec W (.fr (.nm 2) (.rng (.cons (.blt .len (.cons (.var 1) .nil)) .nil)) likB) [some v, some v, none] μ = _ := (show _ = forL [] (stp W (.nm 2) likB) ((List.range xs.length).map fun (k : Nat) => MV.int k) [some v, some v, none] μ by simp (implicitDefEqProofs := false) [exec, evIt, ev, evs, h, rngOf, small_len hl] <;> rfl).trans e
  unfold likT
  simp only [execs]
  rw [e2, seqK_nxt]
  simp (implicitDefEqProofs := false) [exec, ev]
theorem lik_body : b__law_like = (.cons (.ite (.cmp .isn (.var 1) (.con .non)) (.cons (.ret (.cmp .isn (.var 0) (.con .non))) .nil) .nil) (.cons (.ite (.isi (.var 1) [.bool]) (.cons (.ret (.an (.isi (.var 0) [.bool]) (.cmp .eq (.var 0) (.var 1)))) .nil) .nil) (.cons (.ite (.isi (.var 1) [.int]) (.cons (.ret (.an (.isi (.var 0) [.int]) (.an (.nt (.isi (.var 0) [.bool])) (.cmp .eq (.var 0) (.var 1))))) .nil) .nil) (.cons (.ite (.isi (.var 1) [.str]) (.cons (.ret (.an (.isi (.var 0) [.str]) (.cmp .eq (.var 0) (.var 1)))) .nil) .nil) (.cons (.ite (.orr (.an (.isi (.var 1) [.tuple]) (.nt (.isi (.var 0) [.tuple]))) (.an (.isi (.var 1) [.list]) (.nt (.isi (.var 0) [.list])))) (.cons (.ret (.con (.bl false))) .nil) .nil) (.cons (.ite (.cmp .ne (.blt .len (.cons (.var 0) .nil)) (.blt .len (.cons (.var 1) .nil))) (.cons (.ret (.con (.bl false))) .nil) .nil) likT)))))) := rfl
theorem like_in (n : Nat) (v : MV) (hv : Pl n v) (d : Nat) (μ : Mem) (ih : ∀ m x, m + 1 = n → Pl m x → den subT fldT none prT d none 24 [x, x] μ = some (.ok (.bl true), μ)) : den subT fldT none prT (d + 1) none 24 [v, v] μ = some (.ok (.bl true), μ) := by
  rw [den_at (F := ⟨2, 3, b__law_like⟩) rfl rfl (by decide)]
  show outc (execs (wdAt subT fldT none prT d none) b__law_like [some v, some v, none] μ) = _
  rw [lik_body]
  cases v with
  | non => simp (implicitDefEqProofs := false) [execs, exec, ev, evs, evIt, asg, asgs, asgK, evCmp, ltD, outc, most, evBi, evBin, bopI, dcOf, sqOf, isCls, isCl, blO, intO, dat_int, eqv_int, gc_int, gc_bl, gc_fr, fx0, fx1, ]
  | bl b => simp (implicitDefEqProofs := false) [execs, exec, ev, evs, evIt, asg, asgs, asgK, evCmp, ltD, outc, most, evBi, evBin, bopI, dcOf, sqOf, isCls, isCl, blO, intO, dat_int, eqv_int, gc_int, gc_bl, gc_fr, fx0, fx1, dat, frz, MV.rd, MV.toD, SeqAt.shaped, PyData.canLay0, PyData.depth, PyData.eqv]
  | int i => simp (implicitDefEqProofs := false) [execs, exec, ev, evs, evIt, asg, asgs, asgK, evCmp, ltD, outc, most, evBi, evBin, bopI, dcOf, sqOf, isCls, isCl, blO, intO, dat_int, eqv_int, gc_int, gc_bl, gc_fr, fx0, fx1, ]
  | str s =>
    have hs : (PyData.str s).canLay0 = true := by cases n <;> exact hv
    simp (implicitDefEqProofs := false) [execs, exec, ev, evs, evIt, asg, asgs, asgK, evCmp, ltD, outc, most, evBi, evBin, bopI, dcOf, sqOf, isCls, isCl, blO, intO, dat_int, eqv_int, gc_int, gc_bl, gc_fr, fx0, fx1, dat_str _ _ hs, eqv_str]
  | tup xs =>
    match n, hv with
    | n + 1, hv =>
      obtain ⟨hl, ha⟩ := hv
      obtain ⟨o, e⟩ := lik_for d (.tup xs) xs μ (fun k h => ixt_nat μ h) (fun x hx => ih n x rfl (ha x hx))
      have e2 := lik_tail (wdAt subT fldT none prT d none) (.tup xs) xs μ (by simp [evBi, dcOf, sqOf]) hl e
      simp (implicitDefEqProofs := false) [execs, exec, ev, evs, evIt, asg, asgs, asgK, evCmp, ltD, outc, most, evBi, evBin, bopI, dcOf, sqOf, isCls, isCl, blO, intO, dat_int, eqv_int, gc_int, gc_bl, gc_fr, fx0, fx1, e2]
  | lv xs =>
    match n, hv with
    | n + 1, hv =>
      obtain ⟨hl, ha⟩ := hv
      obtain ⟨o, e⟩ := lik_for d (.lv xs) xs μ (fun k h => ixl_nat μ h) (fun x hx => ih n x rfl (ha x hx))
      have e2 := lik_tail (wdAt subT fldT none prT d none) (.lv xs) xs μ (by simp [evBi, dcOf, sqOf]) hl e
      simp (implicitDefEqProofs := false) [execs, exec, ev, evs, evIt, asg, asgs, asgK, evCmp, ltD, outc, most, evBi, evBin, bopI, dcOf, sqOf, isCls, isCl, blO, intO, dat_int, eqv_int, gc_int, gc_bl, gc_fr, fx0, fx1, e2]
  | loc _ => cases n <;> exact hv.elim
  | exo _ _ => cases n <;> exact hv.elim
  | thk _ => cases n <;> exact hv.elim
  | fl _ => cases n <;> exact hv.elim
theorem r_like : ∀ (n : Nat) (v : MV), Pl n v → ∀ (d : Nat) (μ : Mem), n ≤ d → den subT fldT none prT (d + 1) none 24 [v, v] μ = some (.ok (.bl true), μ)
  | 0, v, hv, d, μ, _ => like_in 0 v hv d μ fun m x h => by omega
  | n + 1, v, hv, 0, μ, h => by omega
  | n + 1, v, hv, d + 1, μ, h => like_in (n + 1) v hv (d + 1) μ fun m x e hx => r_like n x (by cases e; exact hx) d μ (by omega)
theorem Pl_fr (q : Rat) : Pl 1 (fr q) := ⟨by simp, fun x hx => by simp at hx; rcases hx with rfl | rfl <;> exact trivial⟩
end MI
end
section
set_option Elab.async false
set_option linter.all false
set_option maxRecDepth 100000
set_option maxHeartbeats 4000000
set_option exponentiation.threshold 20000
namespace MI
open PySem PySem.Spec PyProof.Rows L2
theorem r_mixed (d : Nat) (c n : Int) (μ : Mem) (h0 : 0 ≤ n) (h1 : n < 2 ^ 50) : ∃ v, den subT fldT none prT (d + 1) none 19 [.int c, .int n] μ = some (.ok (.int v), μ) := by
  rw [den_at (F := ⟨2, 3, b__law_mixed⟩) rfl rfl (by decide)]
  have m1 : n.natAbs < 2 ^ 64 := by omega
  have m2 : (1 + 2 * n).natAbs < 2 ^ 64 := by omega
  have k1 : ∀ i, mulOk i n = true := fun i => by simp only [mulOk, m1, decide_true, Bool.or_true, Bool.true_or]
  have k2 : ∀ i, mulOk i (1 + 2 * n) = true := fun i => by simp only [mulOk, m2, decide_true, Bool.or_true, Bool.true_or]
  have k3 : ∀ i, mulOk i 48271 = true := fun i => by simp [mulOk]
  have k4 : ∀ i, mulOk i 69621 = true := fun i => by simp [mulOk]
  have k5 : ∀ x, Builtin.divisionGoesByPylong x 7 = false := fun x => div_small (by decide)
  simp (implicitDefEqProofs := false) [execs, exec, ev, evs, evIt, asg, asgs, asgK, evCmp, ltD, outc, most, evBi, evBin, bopI, dcOf, sqOf, isCls, isCl, blO, intO, dat_int, eqv_int, gc_int, gc_bl, gc_fr, fx0, fx1, b__law_mixed, k1, k2, k3, k4, k5]
/-- the memory that draws go over -/
def M (cs : List Int) (s : Nat) (gs : List Int) (rest : Mem) : Mem := .dic [(.inr "cells", .lv (cs.map .int)), (.inr "great", .loc 1), (.inr "spot", .int s)] :: .lst (gs.map .int) :: rest
theorem q_cs : (("cells" : Str) = "spot") = False := by simp; decide +kernel
theorem q_cg : (("cells" : Str) = "great") = False := by simp; decide +kernel
theorem q_gs : (("great" : Str) = "spot") = False := by simp; decide +kernel
theorem q_sg : (("spot" : Str) = "great") = False := by simp; decide +kernel
theorem q_gc : (("great" : Str) = "cells") = False := by simp; decide +kernel
theorem q_sc : (("spot" : Str) = "cells") = False := by simp; decide +kernel
section
variable (cs : List Int) (s : Nat) (gs : List Int) (rest : Mem)
theorem M_spot : evIdx (M cs s gs rest) (.loc 0) (.str "spot") = some (.int s) := by simp [M, evIdx, dcOf, keyOf, getK, q_cs, q_gs]
theorem M_great : evIdx (M cs s gs rest) (.loc 0) (.str "great") = some (.loc 1) := by simp [M, evIdx, dcOf, keyOf, getK, q_cg, q_sg]
theorem M_cells : evIdx (M cs s gs rest) (.loc 0) (.str "cells") = some (.lv (cs.map .int)) := by simp [M, evIdx, dcOf, keyOf, getK]
theorem M_set (t : Nat) : asgIx (M cs s gs rest) (.loc 0) (.str "spot") (.int t) = some (M cs t gs rest) := by simp [M, asgIx, keyOf, setK, q_cs, q_gs, most]
theorem M_len : evBi (M cs s gs rest) .len [.loc 1] = some (.int gs.length) := by simp [M, evBi, dcOf, sqOf]
theorem M_at {k : Nat} (h : k < gs.length) : evIdx (M cs s gs rest) (.loc 1) (.int k) = some (.int gs[k]) := by
  have : k < (gs.map MV.int).length := by simpa using h
  simp [M, evIdx, dcOf, sqOf, atI_nat this]
theorem M_asg {k : Nat} (h : k < gs.length) (v : Int) : asgIx (M cs s gs rest) (.loc 1) (.int k) (.int v) = some (M cs s (gs.set k v) rest) := by
  have h' : (k : Int) < gs.length := by omega
  simp [M, asgIx, L2.ixN, h', List.map_set]
theorem rds_ints (lk : Nat → Option MV) : ∀ gs : List Int, MV.rds lk (gs.map .int) = some (gs.map .int)
  | [] => rfl
  | g :: gs => by simp [MV.rds, MV.rd, rds_ints lk gs]
theorem toDs_ints : ∀ gs : List Int, MV.toDs (gs.map .int) = some (gs.map .int)
  | [] => rfl
  | g :: gs => by simp [MV.toDs, MV.toD, toDs_ints gs]
theorem canLay_ints : ∀ gs : List Int, PyData.canLayAll0 (gs.map .int) = true
  | [] => rfl
  | g :: gs => by simp [PyData.canLayAll0, PyData.canLay0, canLay_ints gs]
theorem depth_ints : ∀ gs : List Int, PyData.depthAll (gs.map .int) ≤ 1
  | [] => by simp [PyData.depthAll]
  | g :: gs => by have := depth_ints gs; simp [PyData.depthAll, PyData.depth]; omega
theorem M_dat : dat (M cs s gs rest) (.loc 1) = some (.list (gs.map .int)) := by
  have h := canLay_ints gs
  have h2 := depth_ints gs
  have h3 : PyData.depth (.list (gs.map .int)) ≤ 64 := by simp only [PyData.depth]; omega
  simp [dat, frz, MV.rd, look, M, rds_ints, MV.toD, toDs_ints, SeqAt.shaped, PyData.canLay0, h, h3]
theorem lts_ints (n : Nat) : ∀ gs : List Int, MV.lts n (gs.map .int) = true
  | [] => rfl
  | g :: gs => by simp [MV.lts, MV.lt, lts_ints n gs]
theorem gc_M (v : MV) (hv : v.noL = true) (s' : Nat) (gs' : List Int) : gc (List.length (M cs s gs rest)) (M cs s gs rest) (some (.ok v, M cs s' gs' rest)) = some (.ok v, M cs s' gs' rest) := by
  have h : gcOk (M cs s gs rest).length (M cs s gs rest) (M cs s' gs' rest) = true := by
    simp [M, gcOk, gcOk_self, MO.lt, MV.lts, MV.lt, lts_ints]
  have e : (M cs s' gs' rest).take (M cs s gs rest).length = M cs s' gs' rest := List.take_of_length_le (by simp [M])
  simp [gc, e, h, frz, rd_noL hv]
end
theorem dat_nil (μ : Mem) : dat μ (.lv []) = some (.list []) := by simp [dat, frz, MV.rd, MV.rds, MV.toD, MV.toDs, SeqAt.shaped, PyData.canLay0, PyData.canLayAll0, PyData.depth, PyData.depthAll]
theorem eqv_nil (gs : List Int) : PyData.eqv (.list (gs.map .int)) (.list []) = decide (gs = []) := by
  cases gs with
  | nil => simp [PyData.eqv, PyData.eqvAll]
  | cons g gs => simp [PyData.eqv, PyData.eqvAll]
theorem eqv_ll : PyData.eqv (.list []) (.list []) = true := by simp [PyData.eqv, PyData.eqvAll]
theorem M_1 (cs : List Int) (s : Nat) (gs : List Int) (rest : Mem) : (M cs s gs rest)[1]? = some (.lst (gs.map .int)) := rfl
theorem keyS (s : Str) : keyOf (.str s) = some (.inr s) := rfl
theorem r_draw (d : Nat) {l : Int} (hl : 0 < l) (hl2 : l.natAbs < 2 ^ 9000) {cs : List Int} {s : Nat} (hc : cs.length = 64) (hs : s < 2 ^ 40) (gs : List Int) (rest : Mem) :
    ∃ v gs', 0 ≤ v ∧ v < l ∧ den subT fldT none prT (d + 2) none 21 [.loc 0, .int l] (M cs s gs rest) = some (.ok (.int v), M cs (s + 1) gs' rest) := by
  rw [den_at (F := ⟨2, 6, b__law_draw⟩) rfl rfl (by decide)]
  have hm : ∀ x : Int, 0 ≤ x.fmod l ∧ x.fmod l < l := fun x => ⟨Int.fmod_nonneg_of_pos _ hl, Int.fmod_lt_of_pos _ hl⟩
  have l0 : l ≠ 0 := by omega
  have hd : ∀ x, Builtin.divisionGoesByPylong x l = false := fun x => div_small hl2
  have hd64 : ∀ x, Builtin.divisionGoesByPylong x 64 = false := fun x => div_small (by decide)
  have k31 : ∀ x, mulOk 31 x = true := fun x => by simp [mulOk]
  have es : ∀ gs, asgIx (M cs s gs rest) (.loc 0) (.str "spot") (.int ((s : Int) + 1)) = some (M cs (s + 1) gs rest) := fun gs => M_set cs s gs rest (s + 1)
  have e64 : ((s : Int).fmod 64) = ((s % 64 : Nat) : Int) := by
    rw [Int.fmod_eq_emod_of_nonneg _ (by omega)]; omega
  have e64' : ((s : Int).fmod 64) = (s : Int) % 64 := by rw [e64]; simp
  have ic : ∀ μ, evIdx μ (.lv (cs.map .int)) (.int ((s % 64 : Nat) : Int)) = some (.int (cs[s % 64]'(by omega))) := fun μ => by
    rw [ixl_nat μ (show s % 64 < (cs.map MV.int).length by simp; omega)]
    simp
  rw [← e64, e64'] at ic
  obtain ⟨v1, f1⟩ := r_mixed d (cs[s % 64]'(by omega) + 31 * (s : Int).fdiv 64) s (M cs (s + 1) gs rest) (by omega) (by omega)
  obtain ⟨v2, f2⟩ := r_mixed d v1 (s + 7) (M cs (s + 1) gs rest) (by omega) (by omega)
  by_cases hg : gs = []
  · refine ⟨v2.fmod l, gs, (hm _).1, (hm _).2, ?_⟩
    subst hg
    simp (implicitDefEqProofs := false) [execs, exec, ev, evs, evIt, asg, asgs, asgK, evCmp, ltD, outc, most, evBi, evBin, bopI, dcOf, sqOf, isCls, isCl, blO, intO, dat_int, eqv_int, gc_int, gc_bl, gc_fr, fx0, fx1, b__law_draw, M_spot, es, M_great, M_cells, M_dat, dat_nil, eqv_ll, e64', ic, k31, hd64, l0, f1, f2]
  · have hn : gs.length ≠ 0 := by simpa using hg
    have hl : s % gs.length < gs.length := Nat.mod_lt _ (by omega)
    have eh : ((s : Int).fmod gs.length) = ((s % gs.length : Nat) : Int) := by
      rw [Int.fmod_eq_emod_of_nonneg _ (by omega)]; omega
    have ia := M_at cs (s + 1) gs rest hl
    have eh' : ((s : Int).fmod gs.length) = (s : Int) % gs.length := by rw [eh]; simp
    rw [← eh, eh'] at ia
    by_cases h0 : 0 < gs[s % gs.length]
    · have isa := M_asg cs (s + 1) gs rest hl (gs[s % gs.length].fdiv l)
      rw [← eh, eh'] at isa
      refine ⟨gs[s % gs.length].fmod l, gs.set (s % gs.length) (gs[s % gs.length].fdiv l), (hm _).1, (hm _).2, ?_⟩
      simp (implicitDefEqProofs := false) [execs, exec, ev, evs, evIt, asg, asgs, asgK, evCmp, ltD, outc, most, evBi, evBin, bopI, dcOf, sqOf, isCls, isCl, blO, intO, dat_int, eqv_int, gc_int, gc_bl, gc_fr, fx0, fx1, b__law_draw, M_spot, es, M_great, M_cells, M_dat, dat_nil, eqv_nil, hg, M_1, hn, eh', ia, h0, isa, l0, hd]
    · refine ⟨v2.fmod l, gs, (hm _).1, (hm _).2, ?_⟩
      simp (implicitDefEqProofs := false) [execs, exec, ev, evs, evIt, asg, asgs, asgK, evCmp, ltD, outc, most, evBi, evBin, bopI, dcOf, sqOf, isCls, isCl, blO, intO, dat_int, eqv_int, gc_int, gc_bl, gc_fr, fx0, fx1, b__law_draw, M_spot, es, M_great, M_cells, M_dat, dat_nil, eqv_nil, hg, M_1, hn, eh', ia, h0, e64', ic, k31, hd64, l0, f1, f2]
theorem g_draw (d : Nat) (l : Int) (hl : 0 < l) (hl2 : l.natAbs < 2 ^ 9000) {cs : List Int} {s : Nat} (hc : cs.length = 64) (hs : s < 2 ^ 40) (gs : List Int) (rest : Mem) :
    ∃ v gs', 0 ≤ v ∧ v < l ∧ gc (List.length (M cs s gs rest)) (M cs s gs rest) (den subT fldT none prT (d + 2) none 21 [.loc 0, .int l] (M cs s gs rest)) = some (.ok (.int v), M cs (s + 1) gs' rest) := by
  obtain ⟨v, gs', h1, h2, e⟩ := r_draw d hl hl2 hc hs gs rest
  refine ⟨v, gs', h1, h2, ?_⟩
  rw [e]
  exact gc_M cs s gs rest (.int v) rfl (s + 1) gs'
theorem pos_dvi {u v : Int} (hu : 0 < u) (hv : 0 < v) : 0 < Rat.divInt u v := by
  have h : (0 : Rat) < (u : Rat) / (v : Rat) := by
    rw [Rat.div_def]
    exact Rat.mul_pos (by exact_mod_cast hu) (Rat.inv_pos.mpr (by exact_mod_cast hv))
  have e : Rat.divInt u v = (u : Rat) / (v : Rat) := by rw [Rat.divInt_eq_div]
  rw [e]; exact h
theorem dvi_draw {u v l : Int} {a : Nat} (hu : 0 ≤ u) (hv : 0 ≤ v) (h1 : u < l) (h2 : v < l) (ha : l ≤ (2 ^ a : Nat)) : 0 < Rat.divInt (1 + u) (1 + v) ∧ Bd a a (Rat.divInt (1 + u) (1 + v)) :=
  ⟨pos_dvi (by omega) (by omega), dvi_le (by omega) (by omega) (by omega)⟩
section
variable (d : Nat) {cs : List Int} {s : Nat} (hc : cs.length = 64) (hs : s < 2 ^ 39) (gs : List Int) (rest : Mem)
include hc hs
theorem r_strength : ∃ q s' gs', 0 < q ∧ Bd 20 20 q ∧ s' ≤ s + 3 ∧ den subT fldT none prT (d + 3) none 31 [.loc 0] (M cs s gs rest) = some (.ok (fr q), M cs s' gs' rest) := by
  rw [den_at (F := ⟨1, 2, b__law_strength⟩) rfl rfl (by decide)]
  obtain ⟨v1, g1, p1, q1, e1⟩ := g_draw d 8 (by decide) (by decide) hc (show s < 2 ^ 40 by omega) gs rest
  by_cases h3 : v1 < 3
  · refine ⟨1, s + 1, g1, by decide, ⟨by decide, by decide⟩, by omega, ?_⟩
    simp (implicitDefEqProofs := false) [execs, exec, ev, evs, evIt, asg, asgs, asgK, evCmp, ltD, outc, most, evBi, evBin, bopI, dcOf, sqOf, isCls, isCl, blO, intO, dat_int, eqv_int, gc_int, gc_bl, gc_fr, fx0, fx1, b__law_strength, e1, h3, fr1]
  by_cases h7 : v1 < 7
  · obtain ⟨v2, g2, p2, q2, e2⟩ := g_draw d 6 (by decide) (by decide) hc (show s + 1 < 2 ^ 40 by omega) g1 rest
    obtain ⟨v3, g3, p3, q3, e3⟩ := g_draw d 5 (by decide) (by decide) hc (show s + 1 + 1 < 2 ^ 40 by omega) g2 rest
    obtain ⟨z1, z2⟩ := dvi_draw (a := 20) p2 p3 q2 (show v3 < 6 by omega) (by decide)
    refine ⟨_, _, g3, z1, z2, (show s + 1 + 1 + 1 ≤ s + 3 by omega), ?_⟩
    have f := e_lratio d (Rat.divInt (1 + v2) (1 + v3)) (M cs (s + 1 + 1 + 1) g3 rest) rfl (by omega) (m := 20) (n := 20) (by omega) (by omega) (by omega)
    simp (implicitDefEqProofs := false) [execs, exec, ev, evs, evIt, asg, asgs, asgK, evCmp, ltD, outc, most, evBi, evBin, bopI, dcOf, sqOf, isCls, isCl, blO, intO, dat_int, eqv_int, gc_int, gc_bl, gc_fr, fx0, fx1, b__law_strength, e1, h3, h7, e2, e3, f]
  · obtain ⟨v2, g2, p2, q2, e2⟩ := g_draw d 1000000 (by decide) (by decide) hc (show s + 1 < 2 ^ 40 by omega) g1 rest
    obtain ⟨v3, g3, p3, q3, e3⟩ := g_draw d 1000000 (by decide) (by decide) hc (show s + 1 + 1 < 2 ^ 40 by omega) g2 rest
    obtain ⟨z1, z2⟩ := dvi_draw (a := 20) p2 p3 q2 q3 (by decide)
    refine ⟨_, _, g3, z1, z2, (show s + 1 + 1 + 1 ≤ s + 3 by omega), ?_⟩
    have f := e_lratio d (Rat.divInt (1 + v2) (1 + v3)) (M cs (s + 1 + 1 + 1) g3 rest) rfl (by omega) (m := 20) (n := 20) (by omega) (by omega) (by omega)
    simp (implicitDefEqProofs := false) [execs, exec, ev, evs, evIt, asg, asgs, asgK, evCmp, ltD, outc, most, evBi, evBin, bopI, dcOf, sqOf, isCls, isCl, blO, intO, dat_int, eqv_int, gc_int, gc_bl, gc_fr, fx0, fx1, b__law_strength, e1, h3, h7, e2, e3, f]
end
end MI
end
section
set_option Elab.async false
set_option linter.all false
set_option maxRecDepth 100000
set_option maxHeartbeats 4000000
set_option exponentiation.threshold 20000
namespace MI
open PySem PySem.Spec PyProof.Rows L2
theorem ltD_int (μ : Mem) (i j : Int) : ltD μ (.int i) (.int j) = some (decide (i < j)) := rfl
/-- a wire -/
def wr (a b : Int) (q : Rat) : MV := .tup [.int a, .int b, fr q]
theorem r_whole2 (d : Nat) (i l m : Int) (μ : Mem) : den subT fldT none prT (d + 1) none 0 [.int i, .int l, .int m] μ = some (.ok (.bl (decide (l ≤ i) && decide (i ≤ m))), μ) := by
  rw [den_at (F := ⟨3, 3, b_is_whole⟩) rfl rfl (by decide)]
  by_cases h : l ≤ i
  · have h' : ¬ i < l := by omega
    simp (implicitDefEqProofs := false) [execs, exec, ev, evs, evIt, asg, asgs, asgK, evCmp, ltD, outc, most, evBi, evBin, bopI, dcOf, sqOf, isCls, isCl, blO, intO, dat_int, eqv_int, gc_int, gc_bl, gc_fr, fx0, fx1, b_is_whole, h, h']
    by_cases h2 : i ≤ m
    · have : ¬ m < i := by omega
      simp [h2, this]
    · have : m < i := by omega
      simp [h2, this]
  · have h' : i < l := by omega
    simp (implicitDefEqProofs := false) [execs, exec, ev, evs, evIt, asg, asgs, asgK, evCmp, ltD, outc, most, evBi, evBin, bopI, dcOf, sqOf, isCls, isCl, blO, intO, dat_int, eqv_int, gc_int, gc_bl, gc_fr, fx0, fx1, b_is_whole, h, h']
theorem wx0 (μ : Mem) (a b : Int) (q : Rat) : evIdx μ (wr a b q) (.int 0) = some (.int a) := ix30 _ _ _ _
theorem wx1 (μ : Mem) (a b : Int) (q : Rat) : evIdx μ (wr a b q) (.int 1) = some (.int b) := ix31 _ _ _ _
theorem wx2 (μ : Mem) (a b : Int) (q : Rat) : evIdx μ (wr a b q) (.int 2) = some (fr q) := ix32 _ _ _ _
theorem noL_wr (a b : Int) (q : Rat) : (wr a b q).noL = true := by simp [wr, MV.noL, MV.noLs, noL_fr]
theorem row_wr (d : Nat) (a b : Int) (q : Rat) (μ : Mem) : den subT fldT none prT (d + 1) none 1 [wr a b q, .int 3] μ = some (.ok (.bl true), μ) := r_row d _ 3 μ
theorem r_wire (d : Nat) (n a b : Int) (q : Rat) (μ : Mem) (h0 : 0 ≤ a) (h1 : a < b) (h2 : b ≤ n - 1) (hq : 0 < q) : den subT fldT none prT (d + 3) none 9 [.int n, wr a b q] μ = some (.ok (.bl true), μ) := by
  rw [den_at (F := ⟨2, 2, b_is_wire⟩) rfl rfl (by decide)]
  have hq := num_pos' hq
  have e1 : a ≤ n - 1 := by omega
  have e2 : 0 ≤ b := by omega
  simp (implicitDefEqProofs := false) [execs, exec, ev, evs, evIt, asg, asgs, asgK, evCmp, ltD, outc, most, evBi, evBin, bopI, dcOf, sqOf, isCls, isCl, blO, intO, dat_int, eqv_int, gc_int, gc_bl, gc_fr, fx0, fx1, b_is_wire, row_wr, r_whole2, wx0, wx1, wx2, r_isfr, h0, h1, h2, hq, e1, e2]
theorem dat_wr (μ : Mem) (a b : Int) (q : Rat) : dat μ (wr a b q) = some (.tuple [.int a, .int b, .tuple [.int q.num, .int q.den]]) := by
  simp [wr, fr, dat, frz, MV.rd, MV.rds, MV.toD, MV.toDs, SeqAt.shaped, PyData.canLay0, PyData.canLayAll0, PyData.depth, PyData.depthAll]
theorem lexI (x y : Int) (r t : List (Int ⊕ List Nat)) : PyProof.Rows.lexLt itemOrd (.inl x :: r) (.inl y :: t) = (decide (x < y) || (!decide (y < x) && PyProof.Rows.lexLt itemOrd r t)) := rfl
theorem lt_wr (μ : Mem) {a b a' b' : Int} {q q' : Rat} (h : a < a' ∨ (a = a' ∧ b < b')) : ltD μ (wr a' b' q') (wr a b q) = some false := by
  have e : ltD μ (wr a' b' q') (wr a b q) = (dat μ (wr a' b' q')).bind fun d => (dat μ (wr a b q)).bind fun e => if W.alike d e = true ∧ d.depth ≤ 60 ∧ noNone d = true then some (W.dataLt d e) else none := by
    unfold wr; rfl
  rw [e, dat_wr, dat_wr]
  have k : W.dataLt (.tuple [.int a', .int b', .tuple [.int q'.num, .int q'.den]]) (.tuple [.int a, .int b, .tuple [.int q.num, .int q.den]]) = false := by
    rcases h with h | ⟨rfl, h⟩
    · have h' : ¬ a' < a := by omega
      simp only [W.dataLt, W.keyToks, W.keyToksAll, List.cons_append, List.nil_append]
      erw [lexI, lexI, lexI, lexI]
      simp [h, h']
    · have h' : ¬ b' < b := by omega
      simp only [W.dataLt, W.keyToks, W.keyToksAll, List.cons_append, List.nil_append]
      erw [lexI, lexI, lexI, lexI]
      simp [h, h']
  simp [W.alike, W.alikeAll, PyData.depth, PyData.depthAll, noNone, k]
theorem dat_tn (μ : Mem) : dat μ (.tup []) = some (.tuple []) := by simp [dat, frz, MV.rd, MV.rds, MV.toD, MV.toDs, SeqAt.shaped, PyData.canLay0, PyData.canLayAll0, PyData.depth, PyData.depthAll]
theorem eqv_tn : PyData.eqv (.tuple []) (.tuple []) = true := by simp [PyData.eqv, PyData.eqvAll]
theorem r_row0 (d : Nat) (xs : List MV) (μ : Mem) : den subT fldT none prT (d + 1) none 1 [.tup xs, .non] μ = some (.ok (.bl true), μ) := by
  rw [den_at (F := ⟨2, 2, b_is_row⟩) rfl rfl (by decide)]
  simp (implicitDefEqProofs := false) [execs, exec, ev, evs, evIt, asg, asgs, asgK, evCmp, ltD, outc, most, evBi, evBin, bopI, dcOf, sqOf, isCls, isCl, blO, intO, dat_int, eqv_int, gc_int, gc_bl, gc_fr, fx0, fx1, b_is_row]
end MI
end
section
set_option Elab.async false
set_option linter.all false
set_option maxRecDepth 100000
set_option maxHeartbeats 4000000
set_option exponentiation.threshold 20000
namespace MI
open PySem PySem.Spec PyProof.Rows L2
theorem look_lst {n k d : Nat} {μ : Mem} {xs ys : List MV} (h : ¬ k < n) (e : μ[k]? = some (.lst xs)) (r : MV.rds (look n μ d) xs = some ys) : look n μ (d + 1) k = some (.lv ys) := by
  rw [look, if_neg h, e]
  show (MV.rds (look n μ d) xs).map MV.lv = _
  rw [r]
  rfl
theorem forL_inv {step : MV → Env → Mem → RS} {P : Env → Mem → Prop} : ∀ {xs : List MV}, (∀ x ∈ xs, ∀ ρ μ, P ρ μ → ∃ ρ' μ', step x ρ μ = some (.nxt ρ', μ') ∧ P ρ' μ') → ∀ {ρ μ}, P ρ μ → ∃ ρ' μ', forL [] step xs ρ μ = some (.nxt ρ', μ') ∧ P ρ' μ'
  | [], _, ρ, μ, h => ⟨ρ, μ, forL_nil rfl, h⟩
  | x :: xs, hs, ρ, μ, h => by
    obtain ⟨ρ1, μ1, e, h1⟩ := hs x List.mem_cons_self ρ μ h
    obtain ⟨ρ2, μ2, e2, h2⟩ := forL_inv (fun y hy => hs y (List.mem_cons_of_mem _ hy)) h1
    exact ⟨ρ2, μ2, (forL_nxt rfl e).trans e2, h2⟩
theorem mem_enumF : ∀ {ns : List Int} {n : Nat} {v : MV}, v ∈ enumF n (ns.map .int) → ∃ (k : Nat) (c : Int), v = .tup [.int k, .int c]
  | [], n, v, h => by simp [enumF] at h
  | c :: ns, n, v, h => by
    simp only [List.map_cons, enumF, List.mem_cons] at h
    rcases h with rfl | h
    · exact ⟨n, c, rfl⟩
    · exact mem_enumF h
theorem lcmL_map {step : MV → Mem → R (Option MV)} {μ : Mem} (f : Int → Int) (h : ∀ n : Int, step (.int n) μ = some (.ok (some (.int (f n))), μ)) : ∀ (ns : List Int) (acc : List MV), acc.length + ns.length < most → lcmL [] step (ns.map .int) acc μ = some (.ok (acc ++ ns.map fun n => .int (f n)), μ)
  | [], acc, _ => by simp [lcmL, gdOk]
  | n :: ns, acc, hl => by
    simp only [List.length_cons] at hl
    have e : gdOk μ [] = true ∧ acc.length < most := ⟨rfl, by omega⟩
    rw [List.map_cons, lcmL, if_pos e, h]
    show lcmL [] step (ns.map .int) (acc ++ [.int (f n)]) μ = _
    rw [lcmL_map f h ns _ (by simp; omega)]
    simp
theorem L_at (cs : List Int) {k : Nat} (h : k < cs.length) : evIdx [.lst (cs.map .int)] (.loc 0) (.int k) = some (.int cs[k]) := by
  have : k < (cs.map MV.int).length := by simpa using h
  simp [evIdx, dcOf, sqOf, atI_nat this]
theorem L_set (cs : List Int) {k : Nat} (h : k < cs.length) (v : Int) : asgIx [.lst (cs.map .int)] (.loc 0) (.int k) (.int v) = some [.lst ((cs.set k v).map .int)] := by
  have h' : (k : Int) < cs.length := by omega
  simp [asgIx, L2.ixN, h', List.map_set]
abbrev fo1 : SS := .cons (.asg (.ix (.var 1) (.bin .mod (.blt .int1 (.cons (.var 2) .nil)) (.con (.int 64)))) (.bin .mod (.blt .int1 (.cons (.bin .add (.bin .mul (.idx (.var 1) (.bin .mod (.blt .int1 (.cons (.var 2) .nil)) (.con (.int 64)))) (.con (.int 48271))) (.var 3)) .nil)) (.con (.int 2147483647)))) .nil
abbrev fo2 : SS := .cons (.asg (.ix (.var 1) (.var 2)) (.bin .mod (.blt .int1 (.cons (.bin .add (.idx (.var 1) (.var 2)) (.bin .mul (.idx (.var 1) (.bin .sub (.var 2) (.con (.int 1)))) (.con (.int 16807)))) .nil)) (.con (.int 2147483647)))) .nil
def FoP (x : MV) (ρ : Env) (μ : Mem) : Prop := ∃ cs o2 o3, cs.length = 64 ∧ ρ = [some x, some (.loc 0), o2, o3] ∧ μ = [.lst ((cs : List Int).map .int)]
theorem fo1_step (W : Wd) (x : MV) (k : Nat) (c : Int) {ρ : Env} {μ : Mem} (h : FoP x ρ μ) : ∃ ρ' μ', stp W pr23 fo1 (.tup [.int k, .int c]) ρ μ = some (.nxt ρ', μ') ∧ FoP x ρ' μ' := by
  obtain ⟨cs, o2, o3, hc, rfl, rfl⟩ := h
  have hk : k % 64 < cs.length := by omega
  have e64 : ((k : Int).fmod 64) = ((k % 64 : Nat) : Int) := by
    rw [Int.fmod_eq_emod_of_nonneg _ (by omega)]; omega
  have e64' : ((k : Int).fmod 64) = (k : Int) % 64 := by rw [e64]; simp
  have ia := L_at cs hk
  have is := fun v => L_set cs hk v
  rw [← e64, e64'] at ia
  rw [← e64, e64'] at is
  have k1 : ∀ i, mulOk i 48271 = true := fun i => by simp [mulOk]
  refine ⟨_, _, ?_, cs.set (k % 64) ((cs[k % 64] * 48271 + c).fmod 2147483647), some (.int k), some (.int c), by simpa using hc, rfl, rfl⟩
  simp only [stp]
  simp (implicitDefEqProofs := false) [execs, exec, ev, evs, evIt, asg, asgs, asgK, evCmp, ltD_int, outc, most, evBi, evBin, bopI, dcOf, sqOf, isCls, isCl, blO, intO, dat_int, eqv_int, gc_int, gc_bl, gc_fr, fx0, fx1, e64', ia, is, k1]
theorem fo2_step (W : Wd) (x : MV) (k : Nat) (hk : k < 63) {ρ : Env} {μ : Mem} (h : FoP x ρ μ) : ∃ ρ' μ', stp W (.nm 2) fo2 (.int (1 + k)) ρ μ = some (.nxt ρ', μ') ∧ FoP x ρ' μ' := by
  obtain ⟨cs, o2, o3, hc, rfl, rfl⟩ := h
  have hk : k < cs.length := by omega
  have hk' : 1 + k < cs.length := by omega
  have ia := L_at cs hk
  have ib := L_at cs hk'
  have is := fun v => L_set cs hk' v
  have en : ((1 + k : Nat) : Int) = 1 + (k : Int) := by omega
  have ek : 1 + (k : Int) - 1 = k := by omega
  rw [en] at ib
  rw [en] at is
  have k1 : ∀ i, mulOk i 16807 = true := fun i => by simp [mulOk]
  refine ⟨_, _, ?_, cs.set (1 + k) ((cs[1 + k] + cs[k] * 16807).fmod 2147483647), some (.int (1 + k)), o3, by simpa using hc, rfl, rfl⟩
  simp only [stp]
  simp (implicitDefEqProofs := false) [execs, exec, ev, evs, evIt, asg, asgs, asgK, evCmp, ltD_int, outc, most, evBi, evBin, bopI, dcOf, sqOf, isCls, isCl, blO, intO, dat_int, eqv_int, gc_int, gc_bl, gc_fr, fx0, fx1, ia, ib, is, ek, k1]
theorem fo_ini (d : Nat) (x : MV) : ∃ cs : List Int, cs.length = 64 ∧ exec (wdAt subT fldT none prT d none) (.asg (.nm 1) (.chg (.lcm [2] (.rng (.cons (.con (.int 64)) .nil)) (.nm 2) (.con (.bl true)) (.bin .add (.con (.int 17)) (.var 2))))) [some x, none, none, none] [] = some (.nxt [some x, some (.loc 0), none, none], [.lst (cs.map .int)]) := by
  refine ⟨((List.range 64).map fun (k : Nat) => (k : Int)).map fun n => 17 + n, by simp, ?_⟩
  have hr : rngOf [.int 64] = some (((List.range 64).map fun (k : Nat) => (k : Int)).map .int) := by simp [rngOf, small]
  have hl := fun (step : MV → Mem → R (Option MV)) (h : ∀ n : Int, step (.int n) [] = some (.ok (some (.int (17 + n))), [])) => lcmL_map (μ := []) (fun n => 17 + n) h ((List.range 64).map fun (k : Nat) => (k : Int)) [] (by simp [most])
  simp (implicitDefEqProofs := false) only [exec, ev, evs, evIt, bnd_ok, hr, ok_some, Option.map_some]
  rw [hl _ (fun n => by simp (implicitDefEqProofs := false) [execs, exec, ev, evs, evIt, asg, asgs, asgK, evCmp, ltD_int, outc, most, evBi, evBin, bopI, dcOf, sqOf, isCls, isCl, blO, intO, dat_int, eqv_int, gc_int, gc_bl, gc_fr, fx0, fx1, wipe])]
  simp (implicitDefEqProofs := false) [execs, exec, ev, evs, evIt, asg, asgs, asgK, evCmp, ltD_int, outc, most, evBi, evBin, bopI, dcOf, sqOf, isCls, isCl, blO, intO, dat_int, eqv_int, gc_int, gc_bl, gc_fr, fx0, fx1, ]
theorem r_folded (d : Nat) (x : MV) (ns : List Int) (hx : sqOf [] x = some (ns.map .int)) (hx' : ∀ μ, sqOf μ x = some (ns.map .int)) (hg : ∀ xs, gdOf x xs = []) : ∃ cs : List Int, cs.length = 64 ∧ gc 0 [] (den subT fldT none prT (d + 1) none 20 [x] []) = some (.ok (.lv (cs.map .int)), []) := by
  rw [den_at (F := ⟨1, 4, b__law_folded⟩) rfl rfl (by decide)]
  obtain ⟨cs, hc, e0⟩ := fo_ini d x
  obtain ⟨ρ1, μ1, e1, h1⟩ := forL_inv (step := stp (wdAt subT fldT none prT d none) pr23 fo1) (P := FoP x) (xs := enumF 0 (ns.map .int)) (fun v hv ρ μ h => by
    obtain ⟨k, c, rfl⟩ := mem_enumF hv
    exact fo1_step _ x k c h) (ρ := [some x, some (.loc 0), none, none]) (μ := [.lst (cs.map .int)]) ⟨cs, none, none, hc, rfl, rfl⟩
  obtain ⟨ρ2, μ2, e2, h2⟩ := forL_inv (step := stp (wdAt subT fldT none prT d none) (.nm 2) fo2) (P := FoP x) (xs := (List.range 63).map fun (k : Nat) => MV.int (1 + k)) (fun v hv ρ μ h => by
    obtain ⟨k, hk, rfl⟩ := List.mem_map.mp hv
    exact fo2_step _ x k (List.mem_range.mp hk) h) h1
  obtain ⟨cs2, o2, o3, hc2, rfl, rfl⟩ := h2
  refine ⟨cs2, hc2, ?_⟩
  have f1 : exec (wdAt subT fldT none prT d none) (.fr pr23 (.enu (.var 0)) fo1) [some x, some (.loc 0), none, none] [.lst (cs.map .int)] = some (.nxt ρ1, μ1) := (show _ = forL [] (stp (wdAt subT fldT none prT d none) pr23 fo1) (enumF 0 (ns.map .int)) [some x, some (.loc 0), none, none] [.lst (cs.map .int)] by
    simp (implicitDefEqProofs := false) [exec, evIt, ev, hx', hg] <;> rfl).trans e1
  obtain ⟨cs1, p2, p3, hc1, rfl, rfl⟩ := h1
  have f2 : exec (wdAt subT fldT none prT d none) (.fr (.nm 2) (.rng (.cons (.con (.int 1)) (.cons (.con (.int 64)) .nil))) fo2) [some x, some (.loc 0), p2, p3] [.lst (cs1.map .int)] = _ := (show _ = forL [] (stp (wdAt subT fldT none prT d none) (.nm 2) fo2) ((List.range 63).map fun (k : Nat) => MV.int (1 + k)) [some x, some (.loc 0), p2, p3] [.lst (cs1.map .int)] by
    simp (implicitDefEqProofs := false) [exec, evIt, ev, evs, rngOf, small] <;> rfl).trans e2
  show gc 0 [] (outc (execs (wdAt subT fldT none prT d none) b__law_folded [some x, none, none, none] [])) = _
  simp only [b__law_folded, execs]
  rw [e0, seqK_nxt, f1, seqK_nxt, f2, seqK_nxt]
  have r : MV.rds (look 0 [.lst (cs2.map .int)] 5) (cs2.map .int) = some (cs2.map .int) := rds_ints _ cs2
  have g : frz 0 [.lst (cs2.map .int)] (.loc 0) = some (.lv (cs2.map .int)) := by
    unfold frz
    rw [MV.rd]
    exact look_lst (by omega) rfl r
  simp (implicitDefEqProofs := false) [exec, ev, outc, gc, gcOk, g]
theorem nd_keys : ([.inr "cells", .inr "great", .inr "spot"] : List L2.Key).Nodup := by
  simp [q_cs, q_cg, q_gs]
theorem r_begun (d : Nat) (x : MV) (ns : List Int) (hx' : ∀ μ, sqOf μ x = some (ns.map .int)) (hg : ∀ xs, gdOf x xs = []) (hl : ns.length ≤ 63) : ∃ cs gs : List Int, cs.length = 64 ∧ den subT fldT none prT (d + 2) none 22 [x] [] = some (.ok (.loc 0), M cs 0 gs []) := by
  rw [den_at (F := ⟨1, 3, b__law_begun⟩) rfl rfl (by decide)]
  obtain ⟨cs, hc, e⟩ := r_folded d x ns (hx' []) hx' hg
  refine ⟨cs, ns.map (fun n => if 1000000000000000000 ≤ n then n else 0), hc, ?_⟩
  have e1 : exec (wdAt subT fldT none prT (d + 1) none) (.asg (.nm 1) (.dsp [.inr "cells", .inr "great", .inr "spot"] (.cons (.app false 20 (.cons (.var 0) .nil) []) (.cons (.lst .nil) (.cons (.con (.int 0)) .nil))))) [some x, none, none] [] = some (.nxt [some x, some (.loc 0), none], [.dic [(.inr "cells", .lv (cs.map .int)), (.inr "great", .lv []), (.inr "spot", .int 0)]]) := by
    simp (implicitDefEqProofs := false) [execs, exec, ev, evs, evIt, asg, asgs, asgK, evCmp, ltD_int, outc, most, evBi, evBin, bopI, dcOf, sqOf, isCls, isCl, blO, intO, dat_int, eqv_int, gc_int, gc_bl, gc_fr, fx0, fx1, e, q_cs, q_cg, q_gs]
  have hl2 := fun (μ : Mem) (step : MV → Mem → R (Option MV)) (h : ∀ n : Int, step (.int n) μ = some (.ok (some (.int (if 1000000000000000000 ≤ n then n else 0))), μ)) => lcmL_map (μ := μ) (fun n => if 1000000000000000000 ≤ n then n else 0) h ns [] (by simp [most]; omega)
  have e2 : exec (wdAt subT fldT none prT (d + 1) none) (.asg (.ix (.var 1) (.con (.str "great"))) (.chg (.lcm [2] (.seq (.var 0)) (.nm 2) (.con (.bl true)) (.ife (.cmp .ge (.var 2) (.bin .pow (.con (.int 10)) (.con (.int 18)))) (.var 2) (.con (.int 0)))))) [some x, some (.loc 0), none] [.dic [(.inr "cells", .lv (cs.map .int)), (.inr "great", .lv []), (.inr "spot", .int 0)]] = some (.nxt [some x, some (.loc 0), none], M cs 0 (ns.map (fun n => if 1000000000000000000 ≤ n then n else 0)) []) := by
    simp (implicitDefEqProofs := false) [exec, ev, evIt, hx', hg]
    rw [hl2 _ _ (fun n => by
      by_cases h : 1000000000000000000 ≤ n
      · have h' : ¬ n < 1000000000000000000 := by omega
        simp (implicitDefEqProofs := false) [execs, exec, ev, evs, evIt, asg, asgs, asgK, evCmp, ltD_int, outc, most, evBi, evBin, bopI, dcOf, sqOf, isCls, isCl, blO, intO, dat_int, eqv_int, gc_int, gc_bl, gc_fr, fx0, fx1, wipe, h, h']
      · have h' : n < 1000000000000000000 := by omega
        simp (implicitDefEqProofs := false) [execs, exec, ev, evs, evIt, asg, asgs, asgK, evCmp, ltD_int, outc, most, evBi, evBin, bopI, dcOf, sqOf, isCls, isCl, blO, intO, dat_int, eqv_int, gc_int, gc_bl, gc_fr, fx0, fx1, wipe, h, h'])]
    simp (implicitDefEqProofs := false) [execs, exec, ev, evs, evIt, asg, asgs, asgK, evCmp, ltD_int, outc, most, evBi, evBin, bopI, dcOf, sqOf, isCls, isCl, blO, intO, dat_int, eqv_int, gc_int, gc_bl, gc_fr, fx0, fx1, asgIx, keyS, setK, q_cg, q_sg, M]
  show outc (execs (wdAt subT fldT none prT (d + 1) none) b__law_begun [some x, none, none] []) = _
  simp only [b__law_begun, execs]
  rw [e1, seqK_nxt, e2, seqK_nxt]
  simp (implicitDefEqProofs := false) [exec, ev, outc]
end MI
end
section
set_option Elab.async false
set_option linter.all false
set_option maxRecDepth 100000
set_option maxHeartbeats 4000000
set_option exponentiation.threshold 20000
namespace MI
open PySem PySem.Spec PyProof.Rows L2
/-- a comprehension that changes nothing -/
theorem lcmL_gen {α : Type} {f : α → MV} {g : α → Option MV} {step : MV → Mem → R (Option MV)} {μ : Mem} {gd : List (Nat × List MV)} (hg : gdOk μ gd = true) : ∀ (as : List α) (acc : List MV), (∀ a ∈ as, step (f a) μ = some (.ok (g a), μ)) → acc.length + as.length < most → lcmL gd step (as.map f) acc μ = some (.ok (acc ++ as.filterMap g), μ)
  | [], acc, _, _ => by simp [lcmL, hg]
  | a :: as, acc, h, hl => by
    simp only [List.length_cons] at hl
    have e := h a List.mem_cons_self
    rw [List.map_cons, lcmL, if_pos ⟨hg, by omega⟩, e]
    cases hga : g a with
    | none =>
      show lcmL gd step (as.map f) acc μ = _
      rw [lcmL_gen hg as acc (fun b hb => h b (List.mem_cons_of_mem _ hb)) (by omega), List.filterMap_cons_none hga]
    | some y =>
      show lcmL gd step (as.map f) (acc ++ [y]) μ = _
      rw [lcmL_gen hg as _ (fun b hb => h b (List.mem_cons_of_mem _ hb)) (by simp; omega), List.filterMap_cons_some hga]
      simp
/-- a walk over things, told by what was walked -/
theorem forL_pre {α : Type} {f : α → MV} {step : MV → Env → Mem → RS} {gd : List (Nat × List MV)} {P : List α → Env → Mem → Prop} (hgd : ∀ pre ρ μ, P pre ρ μ → gdOk μ gd = true) : ∀ (as pre : List α) {ρ : Env} {μ : Mem}, (∀ pre' a post, pre ++ as = pre' ++ a :: post → ∀ ρ μ, P pre' ρ μ → ∃ ρ' μ', step (f a) ρ μ = some (.nxt ρ', μ') ∧ P (pre' ++ [a]) ρ' μ') → P pre ρ μ → ∃ ρ' μ', forL gd step (as.map f) ρ μ = some (.nxt ρ', μ') ∧ P (pre ++ as) ρ' μ'
  | [], pre, ρ, μ, _, h => ⟨ρ, μ, forL_nil (hgd _ _ _ h), by simpa using h⟩
  | a :: as, pre, ρ, μ, hs, h => by
    obtain ⟨ρ1, μ1, e, h1⟩ := hs pre a as rfl ρ μ h
    obtain ⟨ρ2, μ2, e2, h2⟩ := forL_pre hgd as (pre ++ [a]) (fun pre' b post q => hs pre' b post (by simpa using q)) h1
    exact ⟨ρ2, μ2, (forL_nxt (hgd _ _ _ h) e).trans e2, by simpa using h2⟩
/-- a wire -/
structure Wr where
  a : Nat
  b : Nat
  q : Rat
def wv (w : Wr) : MV := wr w.a w.b w.q
def wD (w : Wr) : PyData := .tuple [.int w.a, .int w.b, .tuple [.int w.q.num, .int w.q.den]]
def nv (n p : Nat) (ws : List Wr) : MV := .tup [.int n, .int p, .tup (ws.map wv)]
theorem toD_wv (w : Wr) : MV.toD (wv w) = some (wD w) := by simp [wv, wr, fr, MV.toD, MV.toDs, wD]
theorem noL_wvs : ∀ ws : List Wr, MV.noLs (ws.map wv) = true
  | [] => rfl
  | w :: ws => by
    have := noL_wvs ws
    simp only [List.map_cons, MV.noLs, this, Bool.and_true]
    exact noL_wr _ _ _
theorem noL_nv (n p : Nat) (ws : List Wr) : (nv n p ws).noL = true := by simp [nv, MV.noL, MV.noLs, noL_wvs]
def wlt (u w : Wr) : Bool := W.dataLt (wD u) (wD w)
theorem ltD_wv (μ : Mem) (u w : Wr) : ltD μ (wv u) (wv w) = some (wlt u w) := by
  have e : ltD μ (wv u) (wv w) = (dat μ (wv u)).bind fun d => (dat μ (wv w)).bind fun e => if W.alike d e = true ∧ d.depth ≤ 60 ∧ noNone d = true then some (W.dataLt d e) else none := by
    unfold wv wr; rfl
  rw [e, wv, wv, dat_wr, dat_wr]
  simp [W.alike, W.alikeAll, PyData.depth, PyData.depthAll, noNone, wlt, wD]
/-- a net as it is drawn -/
structure Good (n p : Nat) (ws : List Wr) : Prop where
  hn : n ≤ 48
  hp : p ≤ n
  hp8 : p ≤ 8
  hw : ws.length ≤ 40
  ok : ∀ w ∈ ws, w.a < w.b ∧ w.b < n ∧ 0 < w.q ∧ Bd 20 20 w.q
  so : ws.Pairwise fun u w => wlt w u = false
theorem r_wv (d : Nat) (n : Nat) (w : Wr) (μ : Mem) (h : w.a < w.b ∧ w.b < n ∧ 0 < w.q) : den subT fldT none prT (d + 3) none 9 [.int n, wv w] μ = some (.ok (.bl true), μ) := r_wire d n w.a w.b w.q μ (by omega) (by omega) (by omega) h.2.2
abbrev nfB : SS := .cons (.ite (.orr (.nt (.app false 9 (.cons (.idx (.var 0) (.con (.int 0))) (.cons (.var 2) .nil)) [])) (.an (.cmp .gt (.var 1) (.con (.int 0))) (.cmp .lt (.var 2) (.idx (.idx (.var 0) (.con (.int 2))) (.bin .sub (.var 1) (.con (.int 1))))))) (.cons (.ret (.tup (.cons (.var 1) .nil))) .nil) .nil) .nil
abbrev pr12 : G := .tp (.cons (.nm 1) (.cons (.nm 2) .nil))
theorem enumF_map : ∀ (ws : List Wr) (k : Nat), enumF k (ws.map wv) = (ws.zipIdx k).map fun p => .tup [.int (p.2 : Nat), wv p.1]
  | [], _ => rfl
  | w :: ws, k => by simp [enumF, enumF_map ws (k + 1)]
theorem nf_for (d : Nat) {n p : Nat} {ws : List Wr} (g : Good n p ws) (μ : Mem) : ∃ o1 o2, forL [] (stp (wdAt subT fldT none prT (d + 3) none) pr12 nfB) (enumF 0 (ws.map wv)) [some (nv n p ws), none, none] μ = some (.nxt [some (nv n p ws), o1, o2], μ) := by
  rw [enumF_map]
  obtain ⟨ρ', μ', e, ⟨o1, o2, rfl⟩, rfl⟩ := forL_pre (f := fun p : Wr × Nat => MV.tup [.int (p.2 : Nat), wv p.1]) (gd := []) (step := stp (wdAt subT fldT none prT (d + 3) none) pr12 nfB) (P := fun _ ρ μ' => (∃ o1 o2, ρ = [some (nv n p ws), o1, o2]) ∧ μ' = μ) (fun _ _ _ _ => rfl) (ws.zipIdx 0) [] (ρ := [some (nv n p ws), none, none]) (μ := μ)
    (fun pre' q post hq ρ μ' ⟨⟨o1, o2, e1⟩, e2⟩ => by
      subst e1 e2
      obtain ⟨w, k⟩ := q
      have hm : (w, k) ∈ ws.zipIdx 0 := by
        have : (w, k) ∈ ([] ++ ws.zipIdx 0) := by rw [hq]; simp
        simpa using this
      have hkl : k < ws.length := (List.mem_zipIdx' hm).1
      have hwk : w = ws[k] := (List.mem_zipIdx' hm).2
      clear hm hq
      subst hwk
      have hw := g.ok ws[k] (List.getElem_mem hkl)
      refine ⟨_, _, ?_, ⟨some (.int k), some (wv ws[k]), rfl⟩, rfl⟩
      have e1 := r_wv d n ws[k] μ' ⟨hw.1, hw.2.1, hw.2.2.1⟩
      have i0 : evIdx μ' (nv n p ws) (.int 0) = some (.int n) := ix30 _ _ _ _
      have i2 : evIdx μ' (nv n p ws) (.int 2) = some (.tup (ws.map wv)) := ix32 _ _ _ _
      by_cases h0 : k = 0
      · subst h0
        simp (implicitDefEqProofs := false) [execs, exec, ev, evs, evIt, asg, asgs, asgK, evCmp, ltD_int, outc, most, evBi, evBin, bopI, dcOf, sqOf, isCls, isCl, blO, intO, dat_int, eqv_int, gc_int, gc_bl, gc_fr, fx0, fx1, stp, e1, i0]
      · have h0' : 0 < k := by omega
        have hk1 : k - 1 < (ws.map wv).length := by simp; omega
        have i3 := ixt_nat μ' hk1
        have ek : ((k - 1 : Nat) : Int) = (k : Int) - 1 := by omega
        rw [ek] at i3
        have hso : wlt ws[k] (ws[k - 1]'(by omega)) = false := List.pairwise_iff_getElem.mp g.so (k - 1) k (by omega) hkl (by omega)
        have i4 := ltD_wv μ' ws[k] (ws[k - 1]'(by omega))
        rw [hso] at i4
        simp only [List.getElem_map] at i3
        simp (implicitDefEqProofs := false) [execs, exec, ev, evs, evIt, asg, asgs, asgK, evCmp, ltD_int, outc, most, evBi, evBin, bopI, dcOf, sqOf, isCls, isCl, blO, intO, dat_int, eqv_int, gc_int, gc_bl, gc_fr, fx0, fx1, stp, e1, i0, h0', i2, i3, i4]) ⟨⟨none, none, rfl⟩, rfl⟩
  exact ⟨o1, o2, e⟩
theorem r_net_fault (d : Nat) {n p : Nat} {ws : List Wr} (g : Good n p ws) (μ : Mem) : den subT fldT none prT (d + 4) none 10 [nv n p ws] μ = some (.ok (.tup []), μ) := by
  rw [den_at (F := ⟨1, 3, b_net_fault⟩) rfl rfl (by decide)]
  obtain ⟨o1, o2, e⟩ := nf_for d g μ
  have f : exec (wdAt subT fldT none prT (d + 3) none) (.fr pr12 (.enu (.idx (.var 0) (.con (.int 2)))) nfB) [some (nv n p ws), none, none] μ = _ := (show _ = forL [] (stp (wdAt subT fldT none prT (d + 3) none) pr12 nfB) (enumF 0 (ws.map wv)) [some (nv n p ws), none, none] μ by
    simp (implicitDefEqProofs := false) [exec, evIt, ev, nv, ix32, sqOf, gdOf] <;> rfl).trans e
  have i0 : evIdx μ (nv n p ws) (.int 0) = some (.int n) := ix30 _ _ _ _
  have i1 : evIdx μ (nv n p ws) (.int 1) = some (.int p) := ix31 _ _ _ _
  have i2 : evIdx μ (nv n p ws) (.int 2) = some (.tup (ws.map wv)) := ix32 _ _ _ _
  have r0 := r_row (d + 2) [.int n, .int p, .tup (ws.map wv)] 3 μ
  have r1 := r_row0 (d + 2) (ws.map wv) μ
  change den subT fldT none prT (d + 3) none 1 [nv n p ws, .int 3] μ = _ at r0
  have h1 := g.hn
  have h2 := g.hp
  have h3 := g.hp8
  have h4 := g.hw
  have w1 : ((n : Int) ≤ 48) := by omega
  have w2 : ((p : Int) ≤ if 8 < (n : Int) then 8 else (n : Int)) := by split <;> omega
  have w3 : ¬ (40 : Int) < ((ws.length : Nat) : Int) := by omega
  have w2' : ((p : Int) ≤ if (8 : Int) < (n : Int) then 8 else (n : Int)) := w2
  show outc (execs (wdAt subT fldT none prT (d + 3) none) b_net_fault [some (nv n p ws), none, none] μ) = _
  unfold b_net_fault
  generalize hX : (S.fr pr12 (.enu (.idx (.var 0) (.con (.int 2)))) nfB) = X at f
  simp (implicitDefEqProofs := false) [execs, exec, ev, evs, evIt, asg, asgs, asgK, evCmp, ltD_int, outc, most, evBi, evBin, bopI, dcOf, sqOf, isCls, isCl, blO, intO, dat_int, eqv_int, gc_int, gc_bl, gc_fr, fx0, fx1, r0, r1, r_whole2, i0, i1, i2, w1, w2, w3, f]
theorem r_need_net (d : Nat) {n p : Nat} {ws : List Wr} (g : Good n p ws) (μ : Mem) : den subT fldT none prT (d + 5) none 11 [nv n p ws] μ = some (.ok (nv n p ws), μ) := by
  rw [den_at (F := ⟨1, 2, b_need_net⟩) rfl rfl (by decide)]
  have e := r_net_fault d g μ
  have g := gc_same (μ := μ) (v := .tup []) rfl
  simp (implicitDefEqProofs := false) [execs, exec, ev, evs, evIt, asg, asgs, asgK, evCmp, ltD_int, outc, most, evBi, evBin, bopI, dcOf, sqOf, isCls, isCl, blO, intO, dat_int, eqv_int, gc_int, gc_bl, gc_fr, fx0, fx1, b_need_net, e, g, dat_tn, eqv_tn]
end MI
end
section
set_option Elab.async false
set_option linter.all false
set_option maxRecDepth 100000
set_option maxHeartbeats 4000000
set_option exponentiation.threshold 20000
namespace MI
open PySem PySem.Spec PyProof.Rows L2
abbrev iv (l : List Nat) : List MV := l.map fun (k : Nat) => MV.int k
theorem all_bl (μ : Mem) (bs : List Bool) : evBi μ .all1 [.lv (bs.map .bl)] = some (.bl (bs.all id)) := by
  have e : ∀ bs : List Bool, (bs.map MV.bl).mapM blO = some bs := by
    intro bs
    induction bs with
    | nil => rfl
    | cons b bs ih => rw [List.map_cons, List.mapM_cons, ih]; rfl
  simp only [evBi, lsOf, Option.bind_some, e, Option.map_some]
theorem len_tv (μ : Mem) (xs : List MV) : evBi μ .len [.tup xs] = some (.int xs.length) := by simp [evBi, dcOf, sqOf]
theorem len_lv (μ : Mem) (xs : List MV) : evBi μ .len [.lv xs] = some (.int xs.length) := by simp [evBi, dcOf, sqOf]
theorem lcm_iv {gd : List (Nat × List MV)} {step : MV → Mem → R (Option MV)} {μ : Mem} (hg : gdOk μ gd = true) (l : List Nat) (g : Nat → MV) (hl : l.length ≤ 1000) (h : ∀ k ∈ l, step (.int (k : Nat)) μ = some (.ok (some (g k)), μ)) : lcmL gd step (iv l) [] μ = some (.ok (l.map g), μ) := by
  have e := lcmL_gen (f := fun k : Nat => MV.int k) (g := fun k => some (g k)) hg l [] h (by simp [most]; omega)
  rw [e, List.nil_append, List.filterMap_eq_map']
theorem slc_tl (μ : Mem) (xs : List MV) : evSlc μ (.tup xs) (some 1) none = some (.tup xs.tail) := by
  simp only [evSlc, cut, HT.sIx]
  cases xs with
  | nil => simp
  | cons x xs => simp
theorem min_two (μ : Mem) (x y : Nat) : evBi μ .min2 [.int x, .int y] = some (.int (min x y : Nat)) := by
  simp only [evBi]
  congr 2
  split <;> omega
theorem max_two (μ : Mem) (x y : Nat) : evBi μ .max2 [.int x, .int y] = some (.int (max x y : Nat)) := by
  simp only [evBi]
  congr 2
  split <;> omega
theorem ix_iv (μ : Mem) {l : List Nat} {k : Nat} (h : k < l.length) : evIdx μ (.lv (iv l)) (.int k) = some (.int (l.getD k 0 : Nat)) := by
  rw [ixl_nat μ (show k < (iv l).length by simpa using h)]
  simp [h]
theorem rng_iv {n : Nat} (h : n ≤ 1000) : rngOf [.int n] = some (iv (List.range n)) := by
  have : small (n : Int) = true := by unfold small; simp only [Bool.and_eq_true, decide_eq_true_eq]; omega
  simp [rngOf, this]
theorem noL_ivs : ∀ l : List Nat, MV.noLs (iv l) = true
  | [] => rfl
  | k :: l => by
    have := noL_ivs l
    simp only [iv, List.map_cons, MV.noLs, MV.noL, Bool.true_and]
    exact this
theorem fr_ev {W : Wd} {g : G} {it : It} {b : SS} {ρ : Env} {μ μ1 : Mem} {xs : List MV} {gd : List (Nat × List MV)} (h : evIt W it ρ μ = some (.ok (xs, gd), μ1)) : exec W (.fr g it b) ρ μ = forL gd (stp W g b) xs ρ μ1 := by
  simp only [exec, h, thenE_ok] <;> rfl
theorem bi_tup (μ : Mem) (xs : List MV) : evBi μ .tup1 [.lv xs] = some (.tup xs) := rfl
noncomputable abbrev lcS (W : Wd) (own : List Nat) (g : G) (c e : E) (ρ : Env) : MV → Mem → R (Option MV) := fun x μ => match asg W g x (wipe ρ own) μ with
  | some (ρ', μ') => match ev W c ρ' μ' with
    | some (.ok (.bl true), μ1) => bnd (ev W e ρ' μ1) fun y μ2 => some (.ok (some y), μ2)
    | some (.ok (.bl false), μ1) => some (.ok none, μ1)
    | _ => none
  | none => none
theorem lcm_ev {W : Wd} {own : List Nat} {it : It} {g : G} {c e : E} {ρ : Env} {μ μ1 μ2 : Mem} {xs ys : List MV} {gd : List (Nat × List MV)} (hit : evIt W it ρ μ = some (.ok (xs, gd), μ1)) (hl : lcmL gd (lcS W own g c e ρ) xs [] μ1 = some (.ok ys, μ2)) : ev W (.lcm own it g c e) ρ μ = some (.ok (.lv ys), μ2) := by
  rw [ev, hit, bnd_ok]
  show bnd (lcmL gd (lcS W own g c e ρ) xs [] μ1) _ = _
  rw [hl, bnd_ok]
theorem rng_iv2 {p n : Nat} (hp : p ≤ 1000) (hn : n ≤ 1000) : rngOf [.int p, .int n] = some (iv ((List.range (n - p)).map (p + ·))) := by
  have h1 : small (n : Int) = true := by unfold small; simp only [Bool.and_eq_true, decide_eq_true_eq]; omega
  have h2 : small (p : Int) = true := by unfold small; simp only [Bool.and_eq_true, decide_eq_true_eq]; omega
  have h3 : ((n : Int) - (p : Int)).toNat = n - p := by omega
  simp only [rngOf, h1, h2, and_self, if_true, h3, List.map_map]
  rfl
theorem add_lv (μ : Mem) (xs ys : List MV) (h : xs.length + ys.length ≤ 2000) : evBin μ .add (.lv xs) (.lv ys) = some (.lv (xs ++ ys)) := by
  have : xs.length + ys.length ≤ most := by simp [most]; omega
  simp [evBin, lsOf, this]
def F' (μ : Mem) (xs : List MV) : Mem := μ ++ [.lst xs]
theorem F_take (μ : Mem) (xs : List MV) : (F' μ xs).take μ.length = μ := by simp [F']
theorem gc_its {μ : Mem} {xs : List MV} (h : MV.noLs xs = true) : gc (List.length μ) μ (some (.ok (.loc μ.length), F' μ xs)) = some (.ok (.lv xs), μ) := by
  have r : frz μ.length (F' μ xs) (.loc μ.length) = some (.lv xs) := by
    unfold frz
    rw [MV.rd]
    exact look_lst (by omega) (by simp [F']) (rds_noL h)
  simp only [gc, F_take, gcOk_self, if_true, r, Option.map_some]
theorem gc_er {c : Nat} {μ : Mem} {v : MV} (h : v.noL = true) : gc μ.length μ (some (.error (c, v), μ)) = some (.error (c, v), μ) := by
  simp [gc, gcOk_self, frz, rd_noL h]
theorem app_err (W : Wd) (f : Nat) (es : ES) (ρ : Env) (μ : Mem) (xs : List MV) {c : Nat} {v : MV} (hv : v.noL = true) (h : evs W es ρ μ = some (.ok xs, μ)) (e : W.call f xs μ = some (.error (c, v), μ)) : ev W (.app false f es []) ρ μ = some (.error (c, v), μ) := by
  simp only [ev, h, bnd_ok, List.append_nil, e, Bool.false_eq_true, if_false]
  exact gc_er hv
theorem app_ok (W : Wd) (f : Nat) (es : ES) (ρ : Env) (μ : Mem) (xs : List MV) {v : MV} (hv : v.noL = true) (h : evs W es ρ μ = some (.ok xs, μ)) (e : W.call f xs μ = some (.ok v, μ)) : ev W (.app false f es []) ρ μ = some (.ok v, μ) := by
  simp only [ev, h, bnd_ok, List.append_nil, e, Bool.false_eq_true, if_false]
  exact gc_same hv
theorem apk_ok (W : Wd) (f : Nat) (es : ES) (sel : List (Nat ⊕ MV)) (ρ : Env) (μ : Mem) (xs ys : List MV) {v : MV} (hv : v.noL = true) (h : evs W es ρ μ = some (.ok xs, μ)) (hs : selA sel xs = some ys) (e : W.call f ys μ = some (.ok v, μ)) : ev W (.apk f es sel) ρ μ = some (.ok v, μ) := by
  simp only [ev, h, bnd_ok, hs, e]
  exact gc_same hv
theorem apk_err (W : Wd) (f : Nat) (es : ES) (sel : List (Nat ⊕ MV)) (ρ : Env) (μ : Mem) (xs ys : List MV) {c : Nat} {v : MV} (hv : v.noL = true) (h : evs W es ρ μ = some (.ok xs, μ)) (hs : selA sel xs = some ys) (e : W.call f ys μ = some (.error (c, v), μ)) : ev W (.apk f es sel) ρ μ = some (.error (c, v), μ) := by
  simp only [ev, h, bnd_ok, hs, e]
  exact gc_er hv
theorem lcm_draw {step : MV → Mem → R (Option MV)} {cs : List Int} {rest : Mem} {gd : List (Nat × List MV)} (hg : gd = []) {B : Nat} (h : ∀ (k : Nat) (s : Nat) (gs : List Int), s < B → ∃ (b : Bool) (gs' : List Int), step (.int k) (M cs s gs rest) = some (.ok (if b = true then some (.int (k : Nat)) else none), M cs (s + 1) gs' rest)) :
    ∀ (ks : List Nat) (acc : List MV) (s : Nat) (gs : List Int), s + ks.length ≤ B → acc.length + ks.length < most → ∃ (row : List Nat) (gs' : List Int), row.Sublist ks ∧ lcmL gd step (iv ks) acc (M cs s gs rest) = some (.ok (acc ++ iv row), M cs (s + ks.length) gs' rest)
  | [], acc, s, gs, _, _ => ⟨[], gs, .slnil, by subst hg; simp [lcmL, gdOk]⟩
  | k :: ks, acc, s, gs, hB, hl => by
    subst hg
    simp only [List.length_cons] at hB hl
    obtain ⟨b, g1, e⟩ := h k s gs (by omega)
    have hs : s + (ks.length + 1) = s + 1 + ks.length := by omega
    cases b with
    | true =>
      obtain ⟨row, g2, sub, e2⟩ := lcm_draw rfl h ks (acc ++ [.int k]) (s + 1) g1 (by omega) (by simp; omega)
      refine ⟨k :: row, g2, sub.cons_cons k, ?_⟩
      rw [iv, List.map_cons, lcmL, if_pos ⟨rfl, by omega⟩, e]
      simp only [if_true, List.length_cons]
      rw [hs]
      rw [show lcmL [] step (List.map (fun (k : Nat) => MV.int k) ks) (acc ++ [MV.int k]) (M cs (s + 1) g1 rest) = _ from e2]
      simp
    | false =>
      obtain ⟨row, g2, sub, e2⟩ := lcm_draw rfl h ks acc (s + 1) g1 (by omega) (by omega)
      refine ⟨row, g2, sub.cons k, ?_⟩
      rw [iv, List.map_cons, lcmL, if_pos ⟨rfl, by omega⟩, e]
      simp only [Bool.false_eq_true, if_false, List.length_cons]
      rw [hs]
      exact e2
end MI
end
section
set_option Elab.async false
set_option linter.all false
set_option maxRecDepth 100000
set_option maxHeartbeats 4000000
set_option exponentiation.threshold 20000
namespace MI
open PySem PySem.Spec PyProof.Rows L2
theorem wlt_trans {a b c : Wr} (h : wlt a b = true) (g : wlt b c = true) : wlt a c = true := PyProof.Rows.lex_trans (O := itemOrd) _ _ _ h g
theorem wlt_neg {a b c : Wr} (h : wlt a c = true) : wlt a b = true ∨ wlt b c = true := PyProof.Rows.lex_negTrans (O := itemOrd) _ _ _ h
theorem wlt_irr (a : Wr) : wlt a a = false := PyProof.Rows.lex_irrefl (O := itemOrd) _
def sortW (ws : List Wr) : List Wr := ws.mergeSort fun a b => !wlt b a
theorem sortW_perm (ws : List Wr) : (sortW ws).Perm ws := List.mergeSort_perm _ _
theorem sortW_so (ws : List Wr) : (sortW ws).Pairwise fun u w => wlt w u = false := by
  have q := List.pairwise_mergeSort (le := fun (a b : Wr) => !wlt b a) (fun a b c h g => by
    simp only [Bool.not_eq_true'] at *
    cases z : wlt c a with
    | false => rfl
    | true =>
      rcases wlt_neg (b := b) z with z | z
      · rw [g] at z; cases z
      · rw [h] at z; cases z) (fun a b => by
    cases z : wlt a b with
    | false => simp [z]
    | true =>
      cases y : wlt b a with
      | false => simp [y]
      | true => have := wlt_trans z y; rw [wlt_irr] at this; cases this) ws
  exact q.imp fun h => by simpa using h
theorem toDs_wvs : ∀ ws : List Wr, MV.toDs (ws.map wv) = some (ws.map wD)
  | [] => rfl
  | w :: ws => by simp [MV.toDs, toD_wv, toDs_wvs ws]
theorem srt_wvs (ws : List Wr) (h : ws.length ≤ 1000) : srtOk (ws.map wv) = true ∧ srt (ws.map wv) = (sortW ws).map wv := by
  constructor
  · unfold srtOk
    rw [toDs_wvs]
    have h1 : (ws.map wv).length ≤ most := by simp [most]; omega
    simp only [h1, decide_true, Bool.true_and, Bool.and_eq_true]
    constructor
    · simp only [List.all_eq_true, List.mem_map]
      rintro d ⟨w, _, rfl⟩
      simp [wD, PyData.depth, PyData.depthAll, noNone]
      intro a _
      simp [W.alike, W.alikeAll]
    · unfold srtK
      simp only [Bool.or_eq_true]
      left; left
      simp only [List.all_eq_true, List.mem_map]
      rintro d ⟨w, _, rfl⟩
      rfl
  · unfold srt sortW
    exact (List.map_mergeSort (f := wv) fun a _ b _ => by simp only [ltM, toD_wv, Option.getD_some, wlt]).symm
theorem M_ls (cs : List Int) (s : Nat) (gs : List Int) (xs : List MV) : lsOf (M cs s gs [.lst xs]) (.loc 2) = some xs := by simp [M, lsOf]
theorem M_app (cs : List Int) (s : Nat) (gs : List Int) (xs : List MV) (v : MV) (h : xs.length < 1000) : evMe (M cs s gs [.lst xs]) .append (.loc 2) [v] = some (.non, M cs s gs [.lst (xs ++ [v])]) := by
  have : xs.length < most := by simp [most]; omega
  simp [M, evMe, this]
theorem M_srt (cs : List Int) (s : Nat) (gs : List Int) (ws : List Wr) (h : ws.length ≤ 1000) : evBi (M cs s gs [.lst (ws.map wv)]) .srt1 [.loc 2] = some (.lv ((sortW ws).map wv)) := by
  obtain ⟨h1, h2⟩ := srt_wvs ws h
  have hd : dcOf (M cs s gs [.lst (ws.map wv)]) (.loc 2) = none := rfl
  have hs : sqOf (M cs s gs [.lst (ws.map wv)]) (.loc 2) = some (ws.map wv) := rfl
  simp only [evBi, hd, hs, Option.bind_some, h1, if_true, h2]
def WOk (n : Nat) (ws : List Wr) : Prop := ∀ w ∈ ws, w.a < w.b ∧ w.b < n ∧ 0 < w.q ∧ Bd 20 20 w.q
theorem WOk.snoc {n : Nat} {ws : List Wr} {w : Wr} (h : WOk n ws) (g : w.a < w.b ∧ w.b < n ∧ 0 < w.q ∧ Bd 20 20 w.q) : WOk n (ws ++ [w]) := by
  intro u hu
  rcases List.mem_append.mp hu with hu | hu
  · exact h u hu
  · simp only [List.mem_singleton] at hu; subst hu; exact g
theorem good_sort {n p : Nat} {ws : List Wr} (h : WOk n ws) (hn : n ≤ 48) (hp : p ≤ n) (hp8 : p ≤ 8) (hw : ws.length ≤ 40) : Good n p (sortW ws) :=
  ⟨hn, hp, hp8, by rw [(sortW_perm ws).length_eq]; exact hw, fun w hw => h w ((sortW_perm ws).mem_iff.mp hw), sortW_so ws⟩
theorem gc_Mr (cs : List Int) (s : Nat) (gs : List Int) (xs : List MV) (v : MV) (hv : v.noL = true) (s' : Nat) (gs' : List Int) : gc (List.length (M cs s gs [])) (M cs s gs []) (some (.ok v, M cs s' gs' [.lst xs])) = some (.ok v, M cs s' gs' []) := by
  have h : gcOk (M cs s gs []).length (M cs s gs []) (M cs s' gs' []) = true := by
    simp [M, gcOk, gcOk_self, MO.lt, MV.lts, MV.lt, lts_ints]
  have t : (M cs s' gs' [.lst xs]).take (M cs s gs []).length = M cs s' gs' [] := rfl
  simp [gc, t, h, frz, rd_noL hv]
def ren (ord : List Nat) (w : Wr) : Wr := ⟨min (ord.getD w.a 0) (ord.getD w.b 0), max (ord.getD w.a 0) (ord.getD w.b 0), w.q⟩
theorem ren_ok {n : Nat} {ord : List Nat} (hl : ord.length = n) (hn : ord.Nodup) (hb : ∀ k ∈ ord, k < n) {ws : List Wr} (h : WOk n ws) : WOk n (ws.map (ren ord)) := by
  intro w hw
  obtain ⟨u, hu, rfl⟩ := List.mem_map.mp hw
  obtain ⟨h1, h2, h3, h4⟩ := h u hu
  have ha : u.a < ord.length := by omega
  have hb' : u.b < ord.length := by omega
  have e1 : ord.getD u.a 0 = ord[u.a] := by simp [List.getD, ha]
  have e2 : ord.getD u.b 0 = ord[u.b] := by simp [List.getD, hb']
  have hne : ord[u.a] ≠ ord[u.b] := fun e => by
    have := (List.getElem_inj hn).mp e
    omega
  have b1 := hb _ (List.getElem_mem ha)
  have b2 := hb _ (List.getElem_mem hb')
  refine ⟨?_, ?_, h3, h4⟩
  · show min (ord.getD u.a 0) (ord.getD u.b 0) < max (ord.getD u.a 0) (ord.getD u.b 0)
    rw [e1, e2]; omega
  · show max (ord.getD u.a 0) (ord.getD u.b 0) < n
    rw [e1, e2]; omega
theorem ord_ok {n p : Nat} (hp : p ≤ n) {f : List Nat} (hf : f.Perm (List.range (n - p))) : (List.range p ++ f.map (p + ·)).length = n ∧ (List.range p ++ f.map (p + ·)).Nodup ∧ ∀ k ∈ (List.range p ++ f.map (p + ·)), k < n := by
  refine ⟨?_, ?_, ?_⟩
  · rw [List.length_append, List.length_map, hf.length_eq]; simp; omega
  · rw [List.nodup_append]
    refine ⟨List.nodup_range, ?_, ?_⟩
    · have : f.Nodup := hf.nodup_iff.mpr List.nodup_range
      rw [List.nodup_iff_pairwise_ne] at this ⊢
      exact List.pairwise_map.mpr (this.imp fun h e => h (by omega))
    · intro a ha b hb e
      have := List.mem_range.mp ha
      obtain ⟨c, _, rfl⟩ := List.mem_map.mp hb
      omega
  · intro k hk
    rcases List.mem_append.mp hk with h | h
    · have := List.mem_range.mp h; omega
    · obtain ⟨c, hc, rfl⟩ := List.mem_map.mp h
      have := List.mem_range.mp (hf.mem_iff.mp hc)
      omega
theorem gc_Mg (cs : List Int) (s : Nat) (gs : List Int) (rest : Mem) (v : MV) (hv : v.noL = true) (s' : Nat) (gs' : List Int) : gc (List.length (M cs s gs [])) (M cs s gs []) (some (.ok v, M cs s' gs' rest)) = some (.ok v, M cs s' gs' []) := by
  have h : gcOk (M cs s gs []).length (M cs s gs []) (M cs s' gs' []) = true := by
    simp [M, gcOk, gcOk_self, MO.lt, MV.lts, MV.lt, lts_ints]
  have t : (M cs s' gs' rest).take (M cs s gs []).length = M cs s' gs' [] := rfl
  simp [gc, t, h, frz, rd_noL hv]
theorem srt_at {μ : Mem} {k : Nat} {ws : List Wr} (h : ws.length ≤ 1000) (e : μ[k]? = some (.lst (ws.map wv))) : evBi μ .srt1 [.loc k] = some (.lv ((sortW ws).map wv)) := by
  obtain ⟨h1, h2⟩ := srt_wvs ws h
  have hd : dcOf μ (.loc k) = none := by simp only [dcOf, e]
  have hs : sqOf μ (.loc k) = some (ws.map wv) := by simp only [sqOf, e]
  simp only [evBi, hd, hs, Option.bind_some, h1, if_true, h2]
theorem M_sqr (cs : List Int) (s : Nat) (gs : List Int) (xs : List MV) : evBi (M cs s gs [.lst xs]) .len [.loc 2] = some (.int xs.length) := by simp [M, evBi, dcOf, sqOf]
theorem r_of (d : Nat) {cs : List Int} (hc : cs.length = 64) {s : Nat} (hs : s < 2 ^ 38) (gs : List Int) (xs : List MV) (h0 : xs ≠ []) (hl : xs.length ≤ 1000) (hn : MV.noLs xs = true) :
    ∃ (k : Nat) (hk : k < xs.length) (gs' : List Int), gc (List.length (M cs s gs [])) (M cs s gs []) (den subT fldT none prT (d + 3) none 23 [.loc 0, .lv xs] (M cs s gs [])) = some (.ok xs[k], M cs (s + 1) gs' []) := by
  have h1 : 0 < xs.length := List.length_pos_iff.mpr h0
  rw [den_at (F := ⟨2, 2, b__law_of⟩) rfl rfl (by decide)]
  obtain ⟨v, g1, p1, q1, e1⟩ := g_draw d (xs.length : Int) (by omega) (Nat.lt_of_le_of_lt (show ((xs.length : Int)).natAbs ≤ 2 ^ 10 by omega) (Nat.pow_lt_pow_right (by decide) (by decide))) hc (show s < 2 ^ 40 by omega) gs []
  obtain ⟨k, rfl⟩ : ∃ k : Nat, v = (k : Int) := ⟨v.toNat, by omega⟩
  have hk : k < xs.length := by omega
  refine ⟨k, hk, g1, ?_⟩
  have hx : xs[k].noL = true := by
    have : ∀ (ys : List MV), MV.noLs ys = true → ∀ y ∈ ys, y.noL = true := by
      intro ys
      induction ys with
      | nil => intro _ y hy; cases hy
      | cons z zs ih =>
        intro h y hy
        simp only [MV.noLs, Bool.and_eq_true] at h
        rcases List.mem_cons.mp hy with rfl | hy
        · exact h.1
        · exact ih h.2 y hy
    exact this xs hn _ (List.getElem_mem hk)
  have g2 := gc_M cs s gs [] xs[k] hx (s + 1) g1
  have i1 := ixl_nat (M cs (s + 1) g1 []) hk
  have l1 := len_lv (M cs s gs []) xs
  rw [← g2]
  congr 1
  generalize xs[k] = y at *
  simp (implicitDefEqProofs := false) [execs, exec, ev, evs, evIt, asg, asgs, asgK, evCmp, ltD_int, outc, most, evBin, bopI, isCls, isCl, blO, intO, dat_int, eqv_int, gc_int, gc_bl, gc_fr, fx0, fx1, b__law_of, e1, i1, l1]
end MI
end
section
set_option Elab.async false
set_option linter.all false
set_option maxRecDepth 100000
set_option maxHeartbeats 4000000
set_option exponentiation.threshold 20000
namespace MI
open PySem PySem.Spec PyProof.Rows L2
def lnS0 : S := (.asg (.nm 4) (.chg (.lst .nil)))
def lnS1 : S := (.ite (.cmp .gt (.var 1) (.con (.int 1))) (.cons (.fr (.nm 5) (.rng (.cons (.app false 21 (.cons (.var 0) (.cons (.bin .add (.var 3) (.con (.int 1))) .nil)) []) .nil)) (.cons (.asg (.tp (.cons (.nm 7) (.cons (.nm 6) .nil))) (.tup (.cons (.app false 21 (.cons (.var 0) (.cons (.var 1) .nil)) []) (.cons (.app false 21 (.cons (.var 0) (.cons (.bin .sub (.var 1) (.con (.int 1))) .nil)) []) .nil)))) (.cons (.asg (.nm 6) (.ife (.cmp .ge (.var 6) (.var 7)) (.bin .add (.var 6) (.con (.int 1))) (.var 6))) (.cons (.ex (.mth .append (.var 4) (.cons (.tup (.cons (.blt .min2 (.cons (.var 7) (.cons (.var 6) .nil))) (.cons (.blt .max2 (.cons (.var 7) (.cons (.var 6) .nil))) (.cons (.app false 31 (.cons (.var 0) .nil) []) .nil)))) .nil))) .nil)))) .nil) .nil)
def lnS2 : S := (.ret (.tup (.cons (.var 1) (.cons (.var 2) (.cons (.blt .tup1 (.cons (.blt .srt1 (.cons (.var 4) .nil)) .nil)) .nil)))))
def lnS : SS := (.cons lnS0 (.cons lnS1 (.cons lnS2 .nil)))
abbrev lnB : SS := (.cons (.asg (.tp (.cons (.nm 7) (.cons (.nm 6) .nil))) (.tup (.cons (.app false 21 (.cons (.var 0) (.cons (.var 1) .nil)) []) (.cons (.app false 21 (.cons (.var 0) (.cons (.bin .sub (.var 1) (.con (.int 1))) .nil)) []) .nil)))) (.cons (.asg (.nm 6) (.ife (.cmp .ge (.var 6) (.var 7)) (.bin .add (.var 6) (.con (.int 1))) (.var 6))) (.cons (.ex (.mth .append (.var 4) (.cons (.tup (.cons (.blt .min2 (.cons (.var 7) (.cons (.var 6) .nil))) (.cons (.blt .max2 (.cons (.var 7) (.cons (.var 6) .nil))) (.cons (.app false 31 (.cons (.var 0) .nil) []) .nil)))) .nil))) .nil)))
theorem two_ends {n one two0 : Nat} (h1 : one < n) (h2 : (two0 : Int) < (n : Int) - 1) : (if one ≤ two0 then two0 + 1 else two0) ≠ one ∧ (if one ≤ two0 then two0 + 1 else two0) < n := by
  split <;> omega
theorem ln_step (d : Nat) {cs : List Int} (hc : cs.length = 64) {s : Nat} (hs : s < 2 ^ 38) (gs : List Int) {n : Nat} (hn : 1 < n) (hn2 : n ≤ 1000) {ws : List Wr} (hw : WOk n ws) (hl : ws.length < 1000) (o2 o3 o5 o6 o7 : Option MV) (i : MV) :
    ∃ (w : Wr) (s' : Nat) (gs' : List Int) (o6' o7' : Option MV), WOk n (ws ++ [w]) ∧ s' ≤ s + 5 ∧ stp (wdAt subT fldT none prT (d + 3) none) (.nm 5) lnB i [some (.loc 0), some (.int n), o2, o3, some (.loc 2), o5, o6, o7] (M cs s gs [.lst (ws.map wv)]) = some (.nxt [some (.loc 0), some (.int n), o2, o3, some (.loc 2), some i, o6', o7'], M cs s' gs' [.lst ((ws ++ [w]).map wv)]) := by
  have hp : (2 : Nat) ^ 9000 > 1000 := Nat.lt_of_lt_of_le (show 1000 < 2 ^ 10 by decide) (Nat.pow_le_pow_right (by decide) (by decide))
  obtain ⟨v1, g1, p1, q1, e1⟩ := g_draw (d + 1) (n : Int) (by omega) (by omega) hc (show s < 2 ^ 40 by omega) gs [.lst (ws.map wv)]
  obtain ⟨v2, g2, p2, q2, e2⟩ := g_draw (d + 1) ((n : Int) - 1) (by omega) (by omega) hc (show s + 1 < 2 ^ 40 by omega) g1 [.lst (ws.map wv)]
  obtain ⟨q, s3, g3, pq, bq, h3, e3⟩ := r_strength d hc (show s + 1 + 1 < 2 ^ 39 by omega) g2 [.lst (ws.map wv)]
  have e3' := gc_M cs (s + 1 + 1) g2 [.lst (ws.map wv)] (fr q) (noL_fr q) s3 g3
  obtain ⟨one, rfl⟩ : ∃ k : Nat, v1 = (k : Int) := ⟨v1.toNat, by omega⟩
  obtain ⟨two0, rfl⟩ : ∃ k : Nat, v2 = (k : Int) := ⟨v2.toNat, by omega⟩
  obtain ⟨t1, t2⟩ := two_ends (n := n) (one := one) (two0 := two0) (by omega) q2
  have hif : (if (two0 : Int) < (one : Int) then (two0 : Int) else (two0 : Int) + 1) = ((if one ≤ two0 then two0 + 1 else two0 : Nat) : Int) := by split <;> split <;> omega
  generalize htt : (if one ≤ two0 then two0 + 1 else two0) = two at t1 t2 hif
  have m1 := fun μ => min_two μ one two
  have m2 := fun μ => max_two μ one two
  have ha := M_app cs s3 g3 (ws.map wv) (wv ⟨min one two, max one two, q⟩) (by simpa using hl)
  refine ⟨⟨min one two, max one two, q⟩, s3, g3, some (.int two), some (.int one), hw.snoc ⟨by show min one two < max one two; omega, by show max one two < n; omega, pq, bq⟩, by omega, ?_⟩
  have hl2 := M_ls cs (s + 1 + 1) g2 (ws.map wv)
  simp only [wv, wr] at ha
  by_cases hlt : (two0 : Int) < (one : Int)
  · rw [if_pos hlt] at hif
    have he : two0 = two := by omega
    subst he
    generalize min one two0 = mi at *
    generalize max one two0 = mx at *
    simp only [stp, List.map_append, List.map_cons, List.map_nil, wv, wr]
    simp (implicitDefEqProofs := false) [execs, exec, ev, evs, evIt, asg, asgs, asgK, evCmp, ltD_int, outc, most, evBin, bopI, isCls, isCl, blO, intO, dat_int, eqv_int, gc_int, gc_bl, gc_fr, fx0, fx1, e1, e2, e3, e3', hlt, m1, m2, hl2, ha]
  · rw [if_neg hlt] at hif
    generalize min one two = mi at *
    generalize max one two = mx at *
    simp only [stp, List.map_append, List.map_cons, List.map_nil, wv, wr]
    simp (implicitDefEqProofs := false) [execs, exec, ev, evs, evIt, asg, asgs, asgK, evCmp, ltD_int, outc, most, evBin, bopI, isCls, isCl, blO, intO, dat_int, eqv_int, gc_int, gc_bl, gc_fr, fx0, fx1, e1, e2, e3, e3', hlt, hif, m1, m2, hl2, ha]
theorem ln_for (d : Nat) {cs : List Int} (hc : cs.length = 64) {n : Nat} (hn : 1 < n) (hn2 : n ≤ 1000) (o2 o3 : Option MV) : ∀ (xs : List MV) (ws : List Wr) (s : Nat) (gs : List Int) (o5 o6 o7 : Option MV), WOk n ws → ws.length + xs.length ≤ 1000 → s + 5 * xs.length < 2 ^ 38 →
    ∃ (ws' : List Wr) (s' : Nat) (gs' : List Int) (o5' o6' o7' : Option MV), WOk n ws' ∧ ws'.length = ws.length + xs.length ∧ s' ≤ s + 5 * xs.length ∧ forL [] (stp (wdAt subT fldT none prT (d + 3) none) (.nm 5) lnB) xs [some (.loc 0), some (.int n), o2, o3, some (.loc 2), o5, o6, o7] (M cs s gs [.lst (ws.map wv)]) = some (.nxt [some (.loc 0), some (.int n), o2, o3, some (.loc 2), o5', o6', o7'], M cs s' gs' [.lst (ws'.map wv)])
  | [], ws, s, gs, o5, o6, o7, hw, _, _ => ⟨ws, s, gs, o5, o6, o7, hw, by simp, by simp, forL_nil rfl⟩
  | x :: xs, ws, s, gs, o5, o6, o7, hw, hl, hs => by
    simp only [List.length_cons] at hl hs
    obtain ⟨w, s1, g1, o6', o7', h1, h2, e⟩ := ln_step d hc (show s < 2 ^ 38 by omega) gs hn hn2 hw (by omega) o2 o3 o5 o6 o7 x
    obtain ⟨ws', s2, g2, p5, p6, p7, k1, k2, k3, e2⟩ := ln_for d hc hn hn2 o2 o3 xs (ws ++ [w]) s1 g1 (some x) o6' o7' h1 (by simp; omega) (by omega)
    refine ⟨ws', s2, g2, p5, p6, p7, k1, by rw [k2]; simp; omega, by simp only [List.length_cons]; omega, (forL_nxt rfl e).trans e2⟩
theorem r_lnet (d : Nat) {cs : List Int} (hc : cs.length = 64) {s : Nat} (hs : s < 2 ^ 37) (gs : List Int) {n p w : Nat} (hn : n ≤ 48) (hp : p ≤ n) (hp8 : p ≤ 8) (hw : w ≤ 40) :
    ∃ (ws : List Wr) (s' : Nat) (gs' : List Int), Good n p ws ∧ ws.length ≤ w ∧ s' ≤ s + 300 ∧ gc (List.length (M cs s gs [])) (M cs s gs []) (den subT fldT none prT (d + 4) none 32 [.loc 0, .int n, .int p, .int w] (M cs s gs [])) = some (.ok (nv n p ws), M cs s' gs' []) := by
  suffices hh : ∃ (ws : List Wr) (s' : Nat) (gs' : List Int), WOk n ws ∧ ws.length ≤ w ∧ s' ≤ s + 300 ∧ den subT fldT none prT (d + 4) none 32 [.loc 0, .int n, .int p, .int w] (M cs s gs []) = some (.ok (nv n p (sortW ws)), M cs s' gs' [.lst (ws.map wv)]) by
    obtain ⟨ws, s', gs', h1, h2, h3, e⟩ := hh
    refine ⟨sortW ws, s', gs', good_sort h1 hn hp hp8 (by omega), by rw [(sortW_perm ws).length_eq]; exact h2, h3, ?_⟩
    rw [e]
    exact gc_Mr cs s gs _ _ (noL_nv _ _ _) s' gs'
  have e0 : exec (wdAt subT fldT none prT (d + 3) none) lnS0 [some (.loc 0), some (.int n), some (.int p), some (.int w), none, none, none, none] (M cs s gs []) = some (.nxt [some (.loc 0), some (.int n), some (.int p), some (.int w), some (.loc 2), none, none, none], M cs s gs [.lst []]) := by
    simp (implicitDefEqProofs := false) [execs, exec, ev, evs, evIt, asg, asgs, asgK, evCmp, ltD_int, outc, most, evBin, bopI, isCls, isCl, blO, intO, dat_int, eqv_int, gc_int, gc_bl, gc_fr, fx0, fx1, lnS0, M]
  have e2 : ∀ (ws : List Wr) (s' : Nat) (gs' : List Int) (o5 o6 o7 : Option MV), ws.length ≤ 1000 → exec (wdAt subT fldT none prT (d + 3) none) lnS2 [some (.loc 0), some (.int n), some (.int p), some (.int w), some (.loc 2), o5, o6, o7] (M cs s' gs' [.lst (ws.map wv)]) = some (.ret (nv n p (sortW ws)), M cs s' gs' [.lst (ws.map wv)]) := by
    intro ws s' gs' o5 o6 o7 h
    have e1 := M_srt cs s' gs' ws h
    simp (implicitDefEqProofs := false) [execs, exec, ev, evs, evIt, asg, asgs, asgK, evCmp, ltD_int, outc, most, evBin, bopI, isCls, isCl, blO, intO, dat_int, eqv_int, gc_int, gc_bl, gc_fr, fx0, fx1, lnS2, e1, bi_tup, nv]
  have hb : ∀ μ vs, den subT fldT none prT (d + 4) none 32 vs μ = den subT fldT none prT (d + 4) none 32 vs μ := fun _ _ => rfl
  rw [den_at (F := ⟨4, 8, b__law_net⟩) rfl rfl (by decide)]
  show ∃ (ws : List Wr) (s' : Nat) (gs' : List Int), WOk n ws ∧ ws.length ≤ w ∧ s' ≤ s + 300 ∧ outc (execs (wdAt subT fldT none prT (d + 3) none) lnS [some (.loc 0), some (.int n), some (.int p), some (.int w), none, none, none, none] (M cs s gs [])) = _
  by_cases h1 : 1 < n
  · obtain ⟨v1, g1, p1, q1, e1⟩ := g_draw (d + 1) ((w : Int) + 1) (by omega) (Nat.lt_of_le_of_lt (show ((w : Int) + 1).natAbs ≤ 2 ^ 10 by omega) (Nat.pow_lt_pow_right (by decide) (by decide))) hc (show s < 2 ^ 40 by omega) gs [.lst []]
    obtain ⟨k, rfl⟩ : ∃ k : Nat, v1 = (k : Int) := ⟨v1.toNat, by omega⟩
    obtain ⟨ws, s', gs', o5, o6, o7, k1, k2, k3, f⟩ := ln_for d hc h1 (by omega) (some (.int p)) (some (.int w)) (iv (List.range k)) [] (s + 1) g1 none none none (by simp [WOk]) (by simp; omega) (by simp; omega)
    have f1 : exec (wdAt subT fldT none prT (d + 3) none) lnS1 [some (.loc 0), some (.int n), some (.int p), some (.int w), some (.loc 2), none, none, none] (M cs s gs [.lst []]) = some (.nxt [some (.loc 0), some (.int n), some (.int p), some (.int w), some (.loc 2), o5, o6, o7], M cs s' gs' [.lst (ws.map wv)]) := by
      have hr := rng_iv (show k ≤ 1000 by omega)
      have h1' : (1 : Int) < n := by omega
      have f2 := fr_ev (g := .nm 5) (b := lnB) (show evIt (wdAt subT fldT none prT (d + 3) none) (.rng (.cons (.app false 21 (.cons (.var 0) (.cons (.bin .add (.var 3) (.con (.int 1))) .nil)) []) .nil)) [some (.loc 0), some (.int n), some (.int p), some (.int w), some (.loc 2), none, none, none] (M cs s gs [.lst []]) = some (.ok (iv (List.range k), []), M cs (s + 1) g1 [.lst []]) by simp (implicitDefEqProofs := false) [execs, exec, ev, evs, evIt, asg, asgs, asgK, evCmp, ltD_int, outc, most, evBin, bopI, isCls, isCl, blO, intO, dat_int, eqv_int, gc_int, gc_bl, gc_fr, fx0, fx1, e1, hr])
      have f3 := f2.trans f
      unfold lnB at f3
      unfold lnS1
      generalize (S.fr _ _ _) = X at f3 ⊢
      simp (implicitDefEqProofs := false) [execs, exec, ev, evs, evIt, asg, asgs, asgK, evCmp, ltD_int, outc, most, evBin, bopI, isCls, isCl, blO, intO, dat_int, eqv_int, gc_int, gc_bl, gc_fr, fx0, fx1, h1', f3]
    refine ⟨ws, s', gs', k1, by rw [k2]; simp; omega, by simp at k3; omega, ?_⟩
    unfold lnS
    rw [execs, e0, seqK_nxt, execs, f1, seqK_nxt, execs, e2 ws s' gs' o5 o6 o7 (by rw [k2]; simp; omega)]
    rfl
  · have f1 : exec (wdAt subT fldT none prT (d + 3) none) lnS1 [some (.loc 0), some (.int n), some (.int p), some (.int w), some (.loc 2), none, none, none] (M cs s gs [.lst []]) = some (.nxt [some (.loc 0), some (.int n), some (.int p), some (.int w), some (.loc 2), none, none, none], M cs s gs [.lst []]) := by
      have h1' : ¬ (1 : Int) < n := by omega
      simp (implicitDefEqProofs := false) [execs, exec, ev, evs, evIt, asg, asgs, asgK, evCmp, ltD_int, outc, most, evBin, bopI, isCls, isCl, blO, intO, dat_int, eqv_int, gc_int, gc_bl, gc_fr, fx0, fx1, lnS1, h1']
    refine ⟨[], s, gs, by simp [WOk], by simp, by omega, ?_⟩
    unfold lnS
    rw [execs, e0, seqK_nxt, execs, f1, seqK_nxt, execs]
    have := e2 [] s gs none none none (by simp)
    simp only [List.map_nil] at this ⊢
    rw [this]
    rfl
abbrev loT : E := .cmp .ne (.var 2) (.lst .nil)
abbrev loB : SS := (.cons (.ex (.mth .append (.var 3) (.cons (.mth .pop1 (.var 2) (.cons (.app false 21 (.cons (.var 0) (.cons (.blt .len (.cons (.var 2) .nil)) .nil)) []) .nil)) .nil))) .nil)
def lo0 : S := (.asg (.tp (.cons (.nm 2) (.cons (.nm 3) .nil))) (.tup (.cons (.chg (.lrg false (.cons (.var 1) .nil))) (.cons (.chg (.lst .nil)) .nil))))
def lo1 : S := (.whl loT loB)
def lo2 : S := (.ret (.var 3))
def lo : SS := (.cons lo0 (.cons lo1 (.cons lo2 .nil)))
theorem iv_ints (l : List Nat) : iv l = (l.map fun (k : Nat) => (k : Int)).map .int := by simp [iv]
theorem dat_at {μ : Mem} {k : Nat} {l : List Nat} (h : μ[k]? = some (.lst (iv l))) : dat μ (.loc k) = some (.list ((l.map fun (k : Nat) => (k : Int)).map .int)) := by
  have e : look 0 μ 6 k = some (.lv (iv l)) := look_lst (by omega) h (by rw [iv_ints]; exact rds_ints _ _)
  have h1 := canLay_ints (l.map fun (k : Nat) => (k : Int))
  have h2 := depth_ints (l.map fun (k : Nat) => (k : Int))
  have h3 : PyData.depth (.list ((l.map fun (k : Nat) => (k : Int)).map .int)) ≤ 64 := by simp only [PyData.depth]; omega
  rw [iv_ints] at e
  simp only [dat, frz, MV.rd, e, Option.map_some, Option.bind_some, MV.toD, toDs_ints, SeqAt.shaped, PyData.canLay0, h1, h3, decide_true, Bool.and_self, if_true]
theorem eraseIdx_mp {α β : Type} (f : α → β) : ∀ (l : List α) (k : Nat), (l.map f).eraseIdx k = (l.eraseIdx k).map f
  | [], _ => rfl
  | _ :: _, 0 => rfl
  | x :: l, k + 1 => by simp [eraseIdx_mp f l k]
theorem erase_perm {α : Type} : ∀ {l : List α} {k : Nat} (hk : k < l.length), (l[k] :: l.eraseIdx k).Perm l
  | x :: l, 0, hk => by simp
  | x :: l, k + 1, hk => by
    simp only [List.length_cons] at hk
    have h := erase_perm (l := l) (k := k) (by omega)
    simp only [List.getElem_cons_succ, List.eraseIdx_cons_succ]
    exact (List.Perm.swap _ _ _).trans (h.cons x)
theorem lo_t (W : Wd) (o1 o3 : Option MV) (o0 : Option MV) (μ : Mem) (l : List Nat) (h : μ[3]? = some (.lst (iv l))) : ev W loT [o0, o1, some (.loc 3), o3] μ = some (.ok (.bl (!decide (l = []))), μ) := by
  have h1 := dat_at h
  have h2 := eqv_nil (l.map fun (k : Nat) => (k : Int))
  have h3 : (l.map fun (k : Nat) => (k : Int)) = [] ↔ l = [] := by simp
  simp only [h3] at h2
  generalize (l.map fun (k : Nat) => (k : Int)).map PyData.int = z at h1 h2
  simp (implicitDefEqProofs := false) [execs, exec, ev, evs, evIt, asg, asgs, asgK, evCmp, ltD_int, outc, most, evBin, bopI, isCls, isCl, blO, intO, dat_int, eqv_int, gc_int, gc_bl, gc_fr, fx0, fx1, h1, h2, dat_nil]
theorem M_app4 (cs : List Int) (s : Nat) (gs : List Int) (A B : MO) (xs : List MV) (v : MV) (h : xs.length < 1000) : evMe (M cs s gs [A, B, .lst xs]) .append (.loc 4) [v] = some (.non, M cs s gs [A, B, .lst (xs ++ [v])]) := by
  have : xs.length < most := by simp [most]; omega
  simp [M, evMe, this]
theorem M_pop3 (cs : List Int) (s : Nat) (gs : List Int) (A C : MO) (l : List Nat) {k : Nat} (hk : k < l.length) (h : l.length ≤ 1000) : evMe (M cs s gs [A, .lst (iv l), C]) .pop1 (.loc 3) [.int k] = some (.int (l[k] : Nat), M cs s gs [A, .lst (iv (l.eraseIdx k)), C]) := by
  have h1 : (iv l).length ≤ most := by simp [most]; omega
  have h2 : L2.ixN (iv l).length (k : Int) = some k := by
    have : (k : Int) < l.length := by omega
    simp [L2.ixN, this]
  have h3 : (iv l)[k]? = some (.int (l[k] : Nat)) := by simp [hk]
  have h4 : (iv l).eraseIdx k = iv (l.eraseIdx k) := by exact eraseIdx_mp _ _ _
  simp only [M, evMe, List.getElem?_cons_succ, List.getElem?_cons_zero, h2, Option.bind_some, h1, if_true, h3, Option.map_some, List.set_cons_succ, List.set_cons_zero, h4]
theorem lo_step (d : Nat) {cs : List Int} (hc : cs.length = 64) {s : Nat} (hs : s < 2 ^ 39) (gs : List Int) (A : MO) (l f : List Nat) (hl : l ≠ []) (hl2 : l.length ≤ 100) (hf : f.length ≤ 100) (o1 : Option MV) :
    ∃ (k : Nat) (hk : k < l.length) (gs' : List Int), execs (wdAt subT fldT none prT (d + 2) none) loB [some (.loc 0), o1, some (.loc 3), some (.loc 4)] (M cs s gs [A, .lst (iv l), .lst (iv f)]) = some (.nxt [some (.loc 0), o1, some (.loc 3), some (.loc 4)], M cs (s + 1) gs' [A, .lst (iv (l.eraseIdx k)), .lst (iv (f ++ [l[k]]))]) := by
  have h0 : 0 < l.length := List.length_pos_iff.mpr hl
  obtain ⟨v, g1, p1, q1, e1⟩ := g_draw d (l.length : Int) (by omega) (Nat.lt_of_le_of_lt (show ((l.length : Int)).natAbs ≤ 2 ^ 10 by omega) (Nat.pow_lt_pow_right (by decide) (by decide))) hc (show s < 2 ^ 40 by omega) gs [A, .lst (iv l), .lst (iv f)]
  obtain ⟨k, rfl⟩ : ∃ k : Nat, v = (k : Int) := ⟨v.toNat, by omega⟩
  have hk : k < l.length := by omega
  have e2 := M_pop3 cs (s + 1) g1 A (.lst (iv f)) l hk (by omega)
  have e3 := M_app4 cs (s + 1) g1 A (.lst (iv (l.eraseIdx k))) (iv f) (.int (l[k] : Nat)) (by simp; omega)
  have e4 : evBi (M cs s gs [A, .lst (iv l), .lst (iv f)]) .len [.loc 3] = some (.int l.length) := by simp [M, evBi, dcOf, sqOf]
  have e5 : ∀ s gs B xs, lsOf (M cs s gs [A, B, .lst xs]) (.loc 4) = some xs := fun s gs B xs => by simp [M, lsOf]
  have e6 : ∀ s gs B xs, lsOf (M cs s gs [A, .lst xs, B]) (.loc 3) = some xs := fun s gs B xs => by simp [M, lsOf]
  refine ⟨k, hk, g1, ?_⟩
  have e7 : iv (f ++ [l[k]]) = iv f ++ [.int (l[k] : Nat)] := by simp [iv]
  rw [e7]
  generalize iv (l.eraseIdx k) = le at *
  generalize l[k] = lk at *
  generalize iv l = il at *
  generalize iv f = jf at *
  simp (implicitDefEqProofs := false) [execs, exec, ev, evs, evIt, asg, asgs, asgK, evCmp, ltD_int, outc, most, evBin, bopI, isCls, isCl, blO, intO, dat_int, eqv_int, gc_int, gc_bl, gc_fr, fx0, fx1, e1, e2, e3, e4, e5, e6]
theorem perm_step {l f : List Nat} {k : Nat} (hk : k < l.length) : ((f ++ [l[k]]) ++ l.eraseIdx k).Perm (f ++ l) := by
  rw [List.append_assoc]
  refine List.Perm.append_left _ ?_
  exact erase_perm hk
theorem lo_wh (d : Nat) {cs : List Int} (hc : cs.length = 64) (A : MO) (o1 : Option MV) : ∀ (n : Nat) (l f : List Nat) (s : Nat) (gs : List Int), l.length = n → s + n < 2 ^ 39 → l.length + f.length ≤ 100 →
    ∃ (f' : List Nat) (gs' : List Int), f'.Perm (f ++ l) ∧ whN (fun ρ μ => ev (wdAt subT fldT none prT (d + 2) none) loT ρ μ) (fun ρ μ => execs (wdAt subT fldT none prT (d + 2) none) loB ρ μ) (n + 1) [some (.loc 0), o1, some (.loc 3), some (.loc 4)] (M cs s gs [A, .lst (iv l), .lst (iv f)]) = some (.nxt [some (.loc 0), o1, some (.loc 3), some (.loc 4)], M cs (s + n) gs' [A, .lst [], .lst (iv f')])
  | 0, l, f, s, gs, hl, hs, hb => by
    have : l = [] := List.length_eq_zero_iff.mp hl
    subst this
    refine ⟨f, gs, by simp, ?_⟩
    rw [whN_f (μ1 := M cs s gs [A, .lst (iv []), .lst (iv f)]) (by rw [lo_t _ _ _ _ _ [] rfl] <;> rfl)]
    rfl
  | n + 1, l, f, s, gs, hl, hs, hb => by
    have hne : l ≠ [] := by rintro rfl; simp at hl
    obtain ⟨k, hk, g1, e⟩ := lo_step d hc (show s < 2 ^ 39 by omega) gs A l f hne (by omega) (by omega) o1
    obtain ⟨f', g2, h1, e2⟩ := lo_wh d hc A o1 n (l.eraseIdx k) (f ++ [l[k]]) (s + 1) g1 (by rw [List.length_eraseIdx_of_lt hk]; omega) (by omega) (by rw [List.length_eraseIdx_of_lt hk]; simp; omega)
    refine ⟨f', g2, h1.trans (perm_step hk), ?_⟩
    rw [whN_t (μ1 := M cs s gs [A, .lst (iv l), .lst (iv f)]) (by rw [lo_t _ _ _ _ _ l rfl]; simp [hne]) e, e2]
    rw [show s + 1 + n = s + (n + 1) by omega]
theorem r_order (d : Nat) {cs : List Int} (hc : cs.length = 64) {s : Nat} (hs : s < 2 ^ 38) (gs : List Int) (ws : List Wr) {n : Nat} (hn : n ≤ 60) :
    ∃ (f : List Nat) (gs' : List Int), f.Perm (List.range n) ∧ gc (List.length (M cs s gs [.lst (ws.map wv)])) (M cs s gs [.lst (ws.map wv)]) (den subT fldT none prT (d + 3) none 25 [.loc 0, .int n] (M cs s gs [.lst (ws.map wv)])) = some (.ok (.lv (iv f)), M cs (s + n) gs' [.lst (ws.map wv)]) := by
  rw [den_at (F := ⟨2, 4, b__law_order⟩) rfl rfl (by decide)]
  obtain ⟨f, g', h, e⟩ := lo_wh d hc (.lst (ws.map wv)) (some (.int n)) n (List.range n) [] s gs (by simp) (by omega) (by simp; omega)
  rw [List.nil_append] at h
  refine ⟨f, g', h, ?_⟩
  have e0 : exec (wdAt subT fldT none prT (d + 2) none) lo0 [some (.loc 0), some (.int n), none, none] (M cs s gs [.lst (ws.map wv)]) = some (.nxt [some (.loc 0), some (.int n), some (.loc 3), some (.loc 4)], M cs s gs [.lst (ws.map wv), .lst (iv (List.range n)), .lst (iv [])]) := by
    have hr := rng_iv (show n ≤ 1000 by omega)
    have hn : (iv (List.range n)).length ≤ 16000000 := by simp; omega
    generalize iv (List.range n) = r at *
    simp (implicitDefEqProofs := false) [execs, exec, ev, evs, evIt, asg, asgs, asgK, evCmp, ltD_int, outc, most, evBin, bopI, isCls, isCl, blO, intO, dat_int, eqv_int, gc_int, gc_bl, gc_fr, fx0, fx1, lo0, hr, hn, M]
  have e1 : exec (wdAt subT fldT none prT (d + 2) none) lo1 [some (.loc 0), some (.int n), some (.loc 3), some (.loc 4)] (M cs s gs [.lst (ws.map wv), .lst (iv (List.range n)), .lst (iv [])]) = some (.nxt [some (.loc 0), some (.int n), some (.loc 3), some (.loc 4)], M cs (s + n) g' [.lst (ws.map wv), .lst [], .lst (iv f)]) := whD_of e
  have e2 : ∀ μ, exec (wdAt subT fldT none prT (d + 2) none) lo2 [some (.loc 0), some (.int n), some (.loc 3), some (.loc 4)] μ = some (.ret (.loc 4), μ) := fun μ => by simp (implicitDefEqProofs := false) [execs, exec, ev, evs, evIt, asg, asgs, asgK, evCmp, ltD_int, outc, most, evBin, bopI, isCls, isCl, blO, intO, dat_int, eqv_int, gc_int, gc_bl, gc_fr, fx0, fx1, lo2]
  show gc _ _ (outc (execs (wdAt subT fldT none prT (d + 2) none) lo [some (.loc 0), some (.int n), none, none] (M cs s gs [.lst (ws.map wv)]))) = _
  unfold lo
  rw [execs, e0, seqK_nxt, execs, e1, seqK_nxt, execs, e2, seqK_ret]
  have hg : gcOk (M cs s gs [.lst (ws.map wv)]).length (M cs s gs [.lst (ws.map wv)]) (M cs (s + n) g' [.lst (ws.map wv)]) = true := by
    simp [M, gcOk, gcOk_self, MO.lt, MV.lts, MV.lt, lts_ints]
  have t : (M cs (s + n) g' [.lst (ws.map wv), .lst [], .lst (iv f)]).take (M cs s gs [.lst (ws.map wv)]).length = M cs (s + n) g' [.lst (ws.map wv)] := rfl
  have r : frz (M cs s gs [.lst (ws.map wv)]).length (M cs (s + n) g' [.lst (ws.map wv), .lst [], .lst (iv f)]) (.loc 4) = some (.lv (iv f)) := by
    unfold frz
    rw [MV.rd]
    exact look_lst (by simp [M]) rfl (by rw [iv_ints]; exact rds_ints _ _)
  simp only [outc, gc, t, hg, if_true, r, Option.map_some]
end MI
end
section
set_option Elab.async false
set_option linter.all false
set_option maxRecDepth 100000
set_option maxHeartbeats 4000000
set_option exponentiation.threshold 20000
namespace MI
open PySem PySem.Spec PyProof.Rows L2
abbrev lhA : SS := (.cons (.ex (.mth .append (.var 4) (.cons (.tup (.cons (.app false 21 (.cons (.var 0) (.cons (.var 5) .nil)) []) (.cons (.var 5) (.cons (.app false 31 (.cons (.var 0) .nil) []) .nil)))) .nil))) .nil)
abbrev lhB : SS := (.cons (.asg (.tp (.cons (.nm 9) (.cons (.nm 8) .nil))) (.tup (.cons (.app false 21 (.cons (.var 0) (.cons (.var 1) .nil)) []) (.cons (.app false 21 (.cons (.var 0) (.cons (.bin .sub (.var 1) (.con (.int 1))) .nil)) []) .nil)))) (.cons (.asg (.nm 8) (.ife (.cmp .ge (.var 8) (.var 9)) (.bin .add (.var 8) (.con (.int 1))) (.var 8))) (.cons (.ex (.mth .append (.var 4) (.cons (.tup (.cons (.blt .min2 (.cons (.var 9) (.cons (.var 8) .nil))) (.cons (.blt .max2 (.cons (.var 9) (.cons (.var 8) .nil))) (.cons (.app false 31 (.cons (.var 0) .nil) []) .nil)))) .nil))) .nil)))
def lh0 : S := (.asg (.nm 4) (.chg (.lst .nil)))
def lh1 : S := (.fr (.nm 5) (.rng (.cons (.var 2) (.cons (.var 1) .nil))) lhA)
def lh2 : S := (.ite (.cmp .gt (.var 1) (.con (.int 1))) (.cons (.fr (.nm 7) (.rng (.cons (.app false 21 (.cons (.var 0) (.cons (.blt .max2 (.cons (.con (.int 1)) (.cons (.bin .add (.bin .sub (.var 3) (.blt .len (.cons (.var 4) .nil))) (.con (.int 1))) .nil))) .nil)) []) .nil)) lhB) .nil) .nil)
def lh3 : S := (.asg (.nm 6) (.bin .add (.lrg false (.cons (.var 2) .nil)) (.lcm [10] (.seq (.app false 25 (.cons (.var 0) (.cons (.bin .sub (.var 1) (.var 2)) .nil)) [])) (.nm 10) (.con (.bl true)) (.bin .add (.var 2) (.var 10)))))
def lh4 : S := (.asg (.nm 4) (.chg (.lcm [9, 8, 11] (.seq (.var 4)) (.tp (.cons (.nm 9) (.cons (.nm 8) (.cons (.nm 11) .nil)))) (.con (.bl true)) (.tup (.cons (.blt .min2 (.cons (.idx (.var 6) (.var 9)) (.cons (.idx (.var 6) (.var 8)) .nil))) (.cons (.blt .max2 (.cons (.idx (.var 6) (.var 9)) (.cons (.idx (.var 6) (.var 8)) .nil))) (.cons (.var 11) .nil)))))))
def lh5 : S := (.ret (.tup (.cons (.var 1) (.cons (.var 2) (.cons (.blt .tup1 (.cons (.blt .srt1 (.cons (.var 4) .nil)) .nil)) .nil)))))
def lh : SS := (.cons lh0 (.cons lh1 (.cons lh2 (.cons lh3 (.cons lh4 (.cons lh5 .nil))))))
abbrev lhE (n p w : Nat) (o5 o6 o7 o8 o9 o10 o11 : Option MV) : Env := [some (.loc 0), some (.int n), some (.int p), some (.int w), some (.loc 2), o5, o6, o7, o8, o9, o10, o11]
theorem lha_step (d : Nat) {cs : List Int} (hc : cs.length = 64) {s : Nat} (hs : s < 2 ^ 38) (gs : List Int) {n p w k : Nat} (hk : 0 < k) (hk2 : k < n) (hn2 : n ≤ 1000) {ws : List Wr} (hw : WOk n ws) (hl : ws.length < 1000) (o5 o6 o7 o8 o9 o10 o11 : Option MV) :
    ∃ (v : Wr) (s' : Nat) (gs' : List Int), WOk n (ws ++ [v]) ∧ s' ≤ s + 5 ∧ stp (wdAt subT fldT none prT (d + 3) none) (.nm 5) lhA (.int k) (lhE n p w o5 o6 o7 o8 o9 o10 o11) (M cs s gs [.lst (ws.map wv)]) = some (.nxt (lhE n p w (some (.int k)) o6 o7 o8 o9 o10 o11), M cs s' gs' [.lst ((ws ++ [v]).map wv)]) := by
  have hp : (2 : Nat) ^ 9000 > 1000 := Nat.lt_of_lt_of_le (show 1000 < 2 ^ 10 by decide) (Nat.pow_le_pow_right (by decide) (by decide))
  obtain ⟨v1, g1, p1, q1, e1⟩ := g_draw (d + 1) (k : Int) (by omega) (by omega) hc (show s < 2 ^ 40 by omega) gs [.lst (ws.map wv)]
  obtain ⟨q, s3, g3, pq, bq, h3, e3⟩ := r_strength d hc (show s + 1 < 2 ^ 39 by omega) g1 [.lst (ws.map wv)]
  have e3' := gc_M cs (s + 1) g1 [.lst (ws.map wv)] (fr q) (noL_fr q) s3 g3
  obtain ⟨a, rfl⟩ : ∃ k : Nat, v1 = (k : Int) := ⟨v1.toNat, by omega⟩
  have ha := M_app cs s3 g3 (ws.map wv) (wv ⟨a, k, q⟩) (by simpa using hl)
  have hl2 := M_ls cs s gs (ws.map wv)
  refine ⟨⟨a, k, q⟩, s3, g3, hw.snoc ⟨by show a < k; omega, hk2, pq, bq⟩, by omega, ?_⟩
  simp only [wv, wr] at ha
  simp only [stp, List.map_append, List.map_cons, List.map_nil, wv, wr]
  simp (implicitDefEqProofs := false) [execs, exec, ev, evs, evIt, asg, asgs, asgK, evCmp, ltD_int, outc, most, evBin, bopI, isCls, isCl, blO, intO, dat_int, eqv_int, gc_int, gc_bl, gc_fr, fx0, fx1, e1, e3, e3', hl2, ha]
theorem lha_for (d : Nat) {cs : List Int} (hc : cs.length = 64) {n p w : Nat} (hn2 : n ≤ 1000) (o6 o7 o8 o9 o10 o11 : Option MV) : ∀ (ks : List Nat) (ws : List Wr) (s : Nat) (gs : List Int) (o5 : Option MV), (∀ k ∈ ks, 0 < k ∧ k < n) → WOk n ws → ws.length + ks.length ≤ 1000 → s + 5 * ks.length < 2 ^ 38 →
    ∃ (ws' : List Wr) (s' : Nat) (gs' : List Int) (o5' : Option MV), WOk n ws' ∧ ws'.length = ws.length + ks.length ∧ s' ≤ s + 5 * ks.length ∧ forL [] (stp (wdAt subT fldT none prT (d + 3) none) (.nm 5) lhA) (iv ks) (lhE n p w o5 o6 o7 o8 o9 o10 o11) (M cs s gs [.lst (ws.map wv)]) = some (.nxt (lhE n p w o5' o6 o7 o8 o9 o10 o11), M cs s' gs' [.lst (ws'.map wv)])
  | [], ws, s, gs, o5, _, hw, _, _ => ⟨ws, s, gs, o5, hw, by simp, by simp, forL_nil rfl⟩
  | x :: xs, ws, s, gs, o5, hx, hw, hl, hs => by
    simp only [List.length_cons] at hl hs
    have hx1 := hx x List.mem_cons_self
    obtain ⟨w1, s1, g1, h1, h2, e⟩ := lha_step d (p := p) (w := w) hc (show s < 2 ^ 38 by omega) gs hx1.1 hx1.2 hn2 hw (by omega) o5 o6 o7 o8 o9 o10 o11
    obtain ⟨ws', s2, g2, p5, k1, k2, k3, e2⟩ := lha_for d hc (p := p) (w := w) hn2 o6 o7 o8 o9 o10 o11 xs (ws ++ [w1]) s1 g1 (some (.int x)) (fun k hk => hx k (List.mem_cons_of_mem _ hk)) h1 (by simp; omega) (by omega)
    refine ⟨ws', s2, g2, p5, k1, by rw [k2]; simp; omega, by simp only [List.length_cons]; omega, (forL_nxt rfl e).trans e2⟩
theorem lhb_step (d : Nat) {cs : List Int} (hc : cs.length = 64) {s : Nat} (hs : s < 2 ^ 38) (gs : List Int) {n p w : Nat} (hn : 1 < n) (hn2 : n ≤ 1000) {ws : List Wr} (hw : WOk n ws) (hl : ws.length < 1000) (o5 o6 o7 o8 o9 o10 o11 : Option MV) (i : MV) :
    ∃ (v : Wr) (s' : Nat) (gs' : List Int) (o8' o9' : Option MV), WOk n (ws ++ [v]) ∧ s' ≤ s + 5 ∧ stp (wdAt subT fldT none prT (d + 3) none) (.nm 7) lhB i (lhE n p w o5 o6 o7 o8 o9 o10 o11) (M cs s gs [.lst (ws.map wv)]) = some (.nxt (lhE n p w o5 o6 (some i) o8' o9' o10 o11), M cs s' gs' [.lst ((ws ++ [v]).map wv)]) := by
  have hp : (2 : Nat) ^ 9000 > 1000 := Nat.lt_of_lt_of_le (show 1000 < 2 ^ 10 by decide) (Nat.pow_le_pow_right (by decide) (by decide))
  obtain ⟨v1, g1, p1, q1, e1⟩ := g_draw (d + 1) (n : Int) (by omega) (by omega) hc (show s < 2 ^ 40 by omega) gs [.lst (ws.map wv)]
  obtain ⟨v2, g2, p2, q2, e2⟩ := g_draw (d + 1) ((n : Int) - 1) (by omega) (by omega) hc (show s + 1 < 2 ^ 40 by omega) g1 [.lst (ws.map wv)]
  obtain ⟨q, s3, g3, pq, bq, h3, e3⟩ := r_strength d hc (show s + 1 + 1 < 2 ^ 39 by omega) g2 [.lst (ws.map wv)]
  have e3' := gc_M cs (s + 1 + 1) g2 [.lst (ws.map wv)] (fr q) (noL_fr q) s3 g3
  obtain ⟨one, rfl⟩ : ∃ k : Nat, v1 = (k : Int) := ⟨v1.toNat, by omega⟩
  obtain ⟨two0, rfl⟩ : ∃ k : Nat, v2 = (k : Int) := ⟨v2.toNat, by omega⟩
  obtain ⟨t1, t2⟩ := two_ends (n := n) (one := one) (two0 := two0) (by omega) q2
  have hif : (if (two0 : Int) < (one : Int) then (two0 : Int) else (two0 : Int) + 1) = ((if one ≤ two0 then two0 + 1 else two0 : Nat) : Int) := by split <;> split <;> omega
  generalize htt : (if one ≤ two0 then two0 + 1 else two0) = two at t1 t2 hif
  have m1 := fun μ => min_two μ one two
  have m2 := fun μ => max_two μ one two
  have ha := M_app cs s3 g3 (ws.map wv) (wv ⟨min one two, max one two, q⟩) (by simpa using hl)
  refine ⟨⟨min one two, max one two, q⟩, s3, g3, some (.int two), some (.int one), hw.snoc ⟨by show min one two < max one two; omega, by show max one two < n; omega, pq, bq⟩, by omega, ?_⟩
  have hl2 := M_ls cs (s + 1 + 1) g2 (ws.map wv)
  simp only [wv, wr] at ha
  by_cases hlt : (two0 : Int) < (one : Int)
  · rw [if_pos hlt] at hif
    have he : two0 = two := by omega
    subst he
    generalize min one two0 = mi at *
    generalize max one two0 = mx at *
    simp only [stp, List.map_append, List.map_cons, List.map_nil, wv, wr]
    simp (implicitDefEqProofs := false) [execs, exec, ev, evs, evIt, asg, asgs, asgK, evCmp, ltD_int, outc, most, evBin, bopI, isCls, isCl, blO, intO, dat_int, eqv_int, gc_int, gc_bl, gc_fr, fx0, fx1, e1, e2, e3, e3', hlt, m1, m2, hl2, ha]
  · rw [if_neg hlt] at hif
    generalize min one two = mi at *
    generalize max one two = mx at *
    simp only [stp, List.map_append, List.map_cons, List.map_nil, wv, wr]
    simp (implicitDefEqProofs := false) [execs, exec, ev, evs, evIt, asg, asgs, asgK, evCmp, ltD_int, outc, most, evBin, bopI, isCls, isCl, blO, intO, dat_int, eqv_int, gc_int, gc_bl, gc_fr, fx0, fx1, e1, e2, e3, e3', hlt, hif, m1, m2, hl2, ha]
theorem lhb_for (d : Nat) {cs : List Int} (hc : cs.length = 64) {n p w : Nat} (hn : 1 < n) (hn2 : n ≤ 1000) (o5 o6 o10 o11 : Option MV) : ∀ (xs : List MV) (ws : List Wr) (s : Nat) (gs : List Int) (o7 o8 o9 : Option MV), WOk n ws → ws.length + xs.length ≤ 1000 → s + 5 * xs.length < 2 ^ 38 →
    ∃ (ws' : List Wr) (s' : Nat) (gs' : List Int) (o7' o8' o9' : Option MV), WOk n ws' ∧ ws'.length = ws.length + xs.length ∧ s' ≤ s + 5 * xs.length ∧ forL [] (stp (wdAt subT fldT none prT (d + 3) none) (.nm 7) lhB) xs (lhE n p w o5 o6 o7 o8 o9 o10 o11) (M cs s gs [.lst (ws.map wv)]) = some (.nxt (lhE n p w o5 o6 o7' o8' o9' o10 o11), M cs s' gs' [.lst (ws'.map wv)])
  | [], ws, s, gs, o7, o8, o9, hw, _, _ => ⟨ws, s, gs, o7, o8, o9, hw, by simp, by simp, forL_nil rfl⟩
  | x :: xs, ws, s, gs, o7, o8, o9, hw, hl, hs => by
    simp only [List.length_cons] at hl hs
    obtain ⟨w1, s1, g1, o8', o9', h1, h2, e⟩ := lhb_step d (p := p) (w := w) hc (show s < 2 ^ 38 by omega) gs hn hn2 hw (by omega) o5 o6 o7 o8 o9 o10 o11 x
    obtain ⟨ws', s2, g2, p7, p8, p9, k1, k2, k3, e2⟩ := lhb_for d hc (p := p) (w := w) hn hn2 o5 o6 o10 o11 xs (ws ++ [w1]) s1 g1 (some x) o8' o9' h1 (by simp; omega) (by omega)
    refine ⟨ws', s2, g2, p7, p8, p9, k1, by rw [k2]; simp; omega, by simp only [List.length_cons]; omega, (forL_nxt rfl e).trans e2⟩
theorem lh3_ok (d : Nat) {cs : List Int} (hc : cs.length = 64) {s : Nat} (hs : s < 2 ^ 38) (gs : List Int) (ws : List Wr) {n p w : Nat} (hp : p ≤ n) (hn : n ≤ 60) (o5 o6 o7 o8 o9 o11 : Option MV) :
    ∃ (ord : List Nat) (gs' : List Int), ord.length = n ∧ ord.Nodup ∧ (∀ k ∈ ord, k < n) ∧ exec (wdAt subT fldT none prT (d + 3) none) lh3 (lhE n p w o5 o6 o7 o8 o9 none o11) (M cs s gs [.lst (ws.map wv)]) = some (.nxt (lhE n p w o5 (some (.lv (iv ord))) o7 o8 o9 none o11), M cs (s + (n - p)) gs' [.lst (ws.map wv)]) := by
  obtain ⟨f, g1, h1, e1⟩ := r_order d hc hs gs ws (show n - p ≤ 60 by omega)
  obtain ⟨k1, k2, k3⟩ := ord_ok hp h1
  refine ⟨List.range p ++ f.map (p + ·), g1, k1, k2, k3, ?_⟩
  have hfl : f.length = n - p := by rw [h1.length_eq]; simp
  have e2 : ev (wdAt subT fldT none prT (d + 3) none) (.lcm [10] (.seq (.app false 25 (.cons (.var 0) (.cons (.bin .sub (.var 1) (.var 2)) .nil)) [])) (.nm 10) (.con (.bl true)) (.bin .add (.var 2) (.var 10))) (lhE n p w o5 o6 o7 o8 o9 none o11) (M cs s gs [.lst (ws.map wv)]) = some (.ok (.lv (iv (f.map (p + ·)))), M cs (s + (n - p)) g1 [.lst (ws.map wv)]) := by
    have hnp : (n : Int) - (p : Int) = ((n - p : Nat) : Int) := by omega
    have q := lcm_iv (gd := []) (step := lcS (wdAt subT fldT none prT (d + 3) none) [10] (.nm 10) (.con (.bl true)) (.bin .add (.var 2) (.var 10)) (lhE n p w o5 o6 o7 o8 o9 none o11)) (μ := M cs (s + (n - p)) g1 [.lst (ws.map wv)]) rfl f (fun k => .int ((p + k : Nat) : Int)) (by omega) fun k hk => by
      simp (implicitDefEqProofs := false) [execs, exec, ev, evs, evIt, asg, asgs, asgK, evCmp, ltD_int, outc, most, evBin, bopI, isCls, isCl, blO, intO, dat_int, eqv_int, gc_int, gc_bl, gc_fr, fx0, fx1, lcS, wipe]
    rw [lcm_ev (xs := iv f) (gd := []) (μ1 := M cs (s + (n - p)) g1 [.lst (ws.map wv)]) ?_ q]
    · simp [iv, List.map_map, Function.comp_def]
    · simp (implicitDefEqProofs := false) [execs, exec, ev, evs, evIt, asg, asgs, asgK, evCmp, ltD_int, outc, most, evBin, bopI, isCls, isCl, blO, intO, dat_int, eqv_int, gc_int, gc_bl, gc_fr, fx0, fx1, hnp, e1, sqOf, gdOf]
  have hr := rng_iv (show p ≤ 1000 by omega)
  have hl1 : (iv (List.range p)).length ≤ 16000000 := by simp; omega
  have hl2 : (iv (List.range p)).length + (iv (f.map (p + ·))).length ≤ 16000000 := by simp; omega
  have ea : iv (List.range p ++ f.map (p + ·)) = iv (List.range p) ++ iv (f.map (p + ·)) := by simp only [iv, List.map_append]
  rw [ea]
  unfold lh3
  generalize (E.lcm [10] (.seq (.app false 25 (.cons (.var 0) (.cons (.bin .sub (.var 1) (.var 2)) .nil)) [])) (.nm 10) (.con (.bl true)) (.bin .add (.var 2) (.var 10))) = X at e2 ⊢
  generalize iv (f.map (p + ·)) = B at *
  generalize iv (List.range p) = A at *
  simp (implicitDefEqProofs := false) [execs, exec, ev, evs, evIt, asg, asgs, asgK, evCmp, ltD_int, outc, most, evBin, bopI, isCls, isCl, blO, intO, dat_int, eqv_int, gc_int, gc_bl, gc_fr, fx0, fx1, hr, e2, hl1, hl2, lsOf]
theorem lh4_ok (W : Wd) {cs : List Int} {s : Nat} (gs : List Int) (ws : List Wr) {n p w : Nat} (ord : List Nat) (hl : ws.length ≤ 1000) (hw : WOk n ws) (hord : ord.length = n) (o5 o7 o8 o9 o10 : Option MV) (hnd : ord.Nodup) (hon : ∀ k ∈ ord, k < n) :
    exec W lh4 (lhE n p w o5 (some (.lv (iv ord))) o7 o8 o9 o10 none) (M cs s gs [.lst (ws.map wv)]) = some (.nxt [some (.loc 0), some (.int n), some (.int p), some (.int w), some (.loc 3), o5, some (.lv (iv ord)), o7, o8, o9, o10, none], M cs s gs [.lst (ws.map wv), .lst ((ws.map (ren ord)).map wv)]) := by
  have hgd : gdOk (M cs s gs [.lst (ws.map wv)]) [(2, ws.map wv)] = true := by simp [gdOk, M]
  have q := lcmL_gen (f := wv) (g := fun w => some (wv (ren ord w))) (gd := [(2, ws.map wv)]) (step := lcS W [9, 8, 11] (.tp (.cons (.nm 9) (.cons (.nm 8) (.cons (.nm 11) .nil)))) (.con (.bl true)) (.tup (.cons (.blt .min2 (.cons (.idx (.var 6) (.var 9)) (.cons (.idx (.var 6) (.var 8)) .nil))) (.cons (.blt .max2 (.cons (.idx (.var 6) (.var 9)) (.cons (.idx (.var 6) (.var 8)) .nil))) (.cons (.var 11) .nil)))) (lhE n p w o5 (some (.lv (iv ord))) o7 o8 o9 o10 none)) (μ := M cs s gs [.lst (ws.map wv)]) hgd ws [] (fun u hu => by
    obtain ⟨h1, h2, _, _⟩ := hw u hu
    have i1 := ix_iv (M cs s gs [.lst (ws.map wv)]) (show u.a < ord.length by omega)
    have i2 := ix_iv (M cs s gs [.lst (ws.map wv)]) (show u.b < ord.length by omega)
    have m1 := fun μ => min_two μ (ord.getD u.a 0) (ord.getD u.b 0)
    have m2 := fun μ => max_two μ (ord.getD u.a 0) (ord.getD u.b 0)
    simp only [wv, wr, ren]
    generalize ord.getD u.a 0 = x at *
    generalize ord.getD u.b 0 = y at *
    generalize min x y = mi at *
    generalize max x y = mx at *
    generalize M cs s gs _ = μ at *
    simp (implicitDefEqProofs := false) [execs, exec, ev, evs, evIt, asg, asgs, asgK, evCmp, ltD_int, outc, most, evBin, bopI, isCls, isCl, blO, intO, dat_int, eqv_int, gc_int, gc_bl, gc_fr, fx0, fx1, lcS, wipe, i1, i2, m1, m2]) (by simp [most]; omega)
  have e := lcm_ev (W := W) (it := .seq (.var 4)) (ρ := lhE n p w o5 (some (.lv (iv ord))) o7 o8 o9 o10 none) (xs := ws.map wv) (gd := [(2, ws.map wv)]) (μ := M cs s gs [.lst (ws.map wv)]) (μ1 := M cs s gs [.lst (ws.map wv)]) (by
    have : sqOf (M cs s gs [.lst (ws.map wv)]) (.loc 2) = some (ws.map wv) := by simp [sqOf, M]
    simp (implicitDefEqProofs := false) [execs, exec, ev, evs, evIt, asg, asgs, asgK, evCmp, ltD_int, outc, most, evBin, bopI, isCls, isCl, blO, intO, dat_int, eqv_int, gc_int, gc_bl, gc_fr, fx0, fx1, this, gdOf]) q
  have hx : ([] ++ List.filterMap (fun w => some (wv (ren ord w))) ws) = (ws.map (ren ord)).map wv := by
    rw [List.nil_append, List.filterMap_eq_map', List.map_map]; rfl
  rw [hx] at e
  unfold lh4
  generalize (E.lcm _ _ _ _ _) = X at e ⊢
  generalize (ws.map (ren ord)).map wv = B at *
  have hM : M cs s gs [.lst (ws.map wv)] ++ [.lst B] = M cs s gs [.lst (ws.map wv), .lst B] := rfl
  have hL : (M cs s gs [.lst (ws.map wv)]).length = 3 := rfl
  simp (implicitDefEqProofs := false) [execs, exec, ev, evs, evIt, asg, asgs, asgK, evCmp, ltD_int, outc, most, evBin, bopI, isCls, isCl, blO, intO, dat_int, eqv_int, gc_int, gc_bl, gc_fr, fx0, fx1, e, hM, hL]
theorem r_held (d : Nat) {cs : List Int} (hc : cs.length = 64) {s : Nat} (hs : s < 2 ^ 37) (gs : List Int) {n p w : Nat} (hn : n ≤ 48) (hp0 : 0 < p) (hp : p ≤ n) (hp8 : p ≤ 8) (hw : w ≤ 40) (hnw : n - p ≤ w) :
    ∃ (ws : List Wr) (s' : Nat) (gs' : List Int), Good n p ws ∧ ws.length ≤ w ∧ s' ≤ s + 800 ∧ gc (List.length (M cs s gs [])) (M cs s gs []) (den subT fldT none prT (d + 4) none 33 [.loc 0, .int n, .int p, .int w] (M cs s gs [])) = some (.ok (nv n p ws), M cs s' gs' []) := by
  suffices hh : ∃ (ws : List Wr) (s' : Nat) (gs' : List Int) (rest : Mem), WOk n ws ∧ ws.length ≤ w ∧ s' ≤ s + 800 ∧ den subT fldT none prT (d + 4) none 33 [.loc 0, .int n, .int p, .int w] (M cs s gs []) = some (.ok (nv n p (sortW ws)), M cs s' gs' rest) by
    obtain ⟨ws, s', gs', rest, h1, h2, h3, e⟩ := hh
    refine ⟨sortW ws, s', gs', good_sort h1 hn hp hp8 (by omega), by rw [(sortW_perm ws).length_eq]; exact h2, h3, ?_⟩
    rw [e]
    exact gc_Mg cs s gs _ _ (noL_nv _ _ _) s' gs'
  rw [den_at (F := ⟨4, 12, b__law_held⟩) rfl rfl (by decide)]
  show ∃ (ws : List Wr) (s' : Nat) (gs' : List Int) (rest : Mem), WOk n ws ∧ ws.length ≤ w ∧ s' ≤ s + 800 ∧ outc (execs (wdAt subT fldT none prT (d + 3) none) lh [some (.loc 0), some (.int n), some (.int p), some (.int w), none, none, none, none, none, none, none, none] (M cs s gs [])) = _
  have e0 : exec (wdAt subT fldT none prT (d + 3) none) lh0 [some (.loc 0), some (.int n), some (.int p), some (.int w), none, none, none, none, none, none, none, none] (M cs s gs []) = some (.nxt (lhE n p w none none none none none none none), M cs s gs [.lst []]) := by
    simp (implicitDefEqProofs := false) [execs, exec, ev, evs, evIt, asg, asgs, asgK, evCmp, ltD_int, outc, most, evBin, bopI, isCls, isCl, blO, intO, dat_int, eqv_int, gc_int, gc_bl, gc_fr, fx0, fx1, lh0, M]
  obtain ⟨ws1, s1, g1, o5, k1, k2, k3, f1⟩ := lha_for d hc (n := n) (p := p) (w := w) (by omega) none none none none none none ((List.range (n - p)).map (p + ·)) [] s gs none (fun k hk => by
    obtain ⟨j, hj, rfl⟩ := List.mem_map.mp hk
    have := List.mem_range.mp hj
    omega) (by simp [WOk]) (by simp; omega) (by simp; omega)
  simp only [List.length_nil, List.length_map, List.length_range, Nat.zero_add] at k2 k3
  have e1 : exec (wdAt subT fldT none prT (d + 3) none) lh1 (lhE n p w none none none none none none none) (M cs s gs [.lst []]) = some (.nxt (lhE n p w o5 none none none none none none), M cs s1 g1 [.lst (ws1.map wv)]) := by
    have hr := rng_iv2 (show p ≤ 1000 by omega) (show n ≤ 1000 by omega)
    exact (fr_ev (g := .nm 5) (b := lhA) (show evIt (wdAt subT fldT none prT (d + 3) none) (.rng (.cons (.var 2) (.cons (.var 1) .nil))) (lhE n p w none none none none none none none) (M cs s gs [.lst []]) = some (.ok (iv ((List.range (n - p)).map (p + ·)), []), M cs s gs [.lst []]) by
      generalize iv ((List.range (n - p)).map (p + ·)) = r at *
      simp (implicitDefEqProofs := false) [execs, exec, ev, evs, evIt, asg, asgs, asgK, evCmp, ltD_int, outc, most, evBin, bopI, isCls, isCl, blO, intO, dat_int, eqv_int, gc_int, gc_bl, gc_fr, fx0, fx1, hr])).trans f1
  have e2 : ∃ (ws2 : List Wr) (s2 : Nat) (g2 : List Int) (o7 o8 o9 : Option MV), WOk n ws2 ∧ ws2.length ≤ w ∧ s2 ≤ s + 600 ∧ exec (wdAt subT fldT none prT (d + 3) none) lh2 (lhE n p w o5 none none none none none none) (M cs s1 g1 [.lst (ws1.map wv)]) = some (.nxt (lhE n p w o5 none o7 o8 o9 none none), M cs s2 g2 [.lst (ws2.map wv)]) := by
    by_cases h1 : 1 < n
    · have hl1 : evBi (M cs s1 g1 [.lst (ws1.map wv)]) .len [.loc 2] = some (.int ((n - p : Nat) : Int)) := by
        rw [M_sqr, List.length_map, k2]
      have hm : ∀ μ, evBi μ .max2 [.int 1, .int ((w : Int) - ((n - p : Nat) : Int) + 1)] = some (.int ((w - (n - p) + 1 : Nat) : Int)) := fun μ => by
        have h9 := max_two μ 1 (w - (n - p) + 1)
        rw [show max 1 (w - (n - p) + 1) = w - (n - p) + 1 by omega] at h9
        have h8 : (w : Int) - ((n - p : Nat) : Int) + 1 = ((w - (n - p) + 1 : Nat) : Int) := by omega
        rw [h8]
        exact h9
      obtain ⟨v1, g2, p1, q1, z1⟩ := g_draw (d + 1) ((w - (n - p) + 1 : Nat) : Int) (by omega) (Nat.lt_of_le_of_lt (show (((w - (n - p) + 1 : Nat) : Int)).natAbs ≤ 2 ^ 10 by omega) (Nat.pow_lt_pow_right (by decide) (by decide))) hc (show s1 < 2 ^ 40 by omega) g1 [.lst (ws1.map wv)]
      obtain ⟨k, rfl⟩ : ∃ k : Nat, v1 = (k : Int) := ⟨v1.toNat, by omega⟩
      obtain ⟨ws2, s2, g3, o7, o8, o9, j1, j2, j3, f2⟩ := lhb_for d hc (n := n) (p := p) (w := w) h1 (by omega) o5 none none none (iv (List.range k)) ws1 (s1 + 1) g2 none none none k1 (by simp; omega) (by simp; omega)
      simp only [List.length_map, List.length_range] at j2 j3
      refine ⟨ws2, s2, g3, o7, o8, o9, j1, by omega, by omega, ?_⟩
      have hr := rng_iv (show k ≤ 1000 by omega)
      have h1' : (1 : Int) < n := by omega
      generalize hLm : ((w - (n - p) + 1 : Nat) : Int) = Lm at *
      have f3 := fr_ev (g := .nm 7) (b := lhB) (show evIt (wdAt subT fldT none prT (d + 3) none) (.rng (.cons (.app false 21 (.cons (.var 0) (.cons (.blt .max2 (.cons (.con (.int 1)) (.cons (.bin .add (.bin .sub (.var 3) (.blt .len (.cons (.var 4) .nil))) (.con (.int 1))) .nil))) .nil)) []) .nil)) (lhE n p w o5 none none none none none none) (M cs s1 g1 [.lst (ws1.map wv)]) = some (.ok (iv (List.range k), []), M cs (s1 + 1) g2 [.lst (ws1.map wv)]) by
        generalize iv (List.range k) = r at *
        generalize ((n - p : Nat) : Int) = np at *
        simp (implicitDefEqProofs := false) [execs, exec, ev, evs, evIt, asg, asgs, asgK, evCmp, ltD_int, outc, most, evBin, bopI, isCls, isCl, blO, intO, dat_int, eqv_int, gc_int, gc_bl, gc_fr, fx0, fx1, hl1, hm, z1, hr])
      have f4 := f3.trans f2
      unfold lh2
      generalize (S.fr _ _ _) = X at f4 ⊢
      simp (implicitDefEqProofs := false) [execs, exec, ev, evs, evIt, asg, asgs, asgK, evCmp, ltD_int, outc, most, evBin, bopI, isCls, isCl, blO, intO, dat_int, eqv_int, gc_int, gc_bl, gc_fr, fx0, fx1, h1', f4]
    · refine ⟨ws1, s1, g1, none, none, none, k1, by omega, by omega, ?_⟩
      have h1' : ¬ (1 : Int) < n := by omega
      simp (implicitDefEqProofs := false) [execs, exec, ev, evs, evIt, asg, asgs, asgK, evCmp, ltD_int, outc, most, evBin, bopI, isCls, isCl, blO, intO, dat_int, eqv_int, gc_int, gc_bl, gc_fr, fx0, fx1, lh2, h1']
  obtain ⟨ws2, s2, g2, o7, o8, o9, j1, j2, j3, e2⟩ := e2
  obtain ⟨ord, g3, r1, r2, r3, e3⟩ := lh3_ok d hc (show s2 < 2 ^ 38 by omega) g2 ws2 (w := w) hp (by omega) o5 none o7 o8 o9 none
  have e4 := lh4_ok (wdAt subT fldT none prT (d + 3) none) (cs := cs) (s := s2 + (n - p)) g3 ws2 (n := n) (p := p) (w := w) ord (by omega) j1 r1 o5 o7 o8 o9 none r2 r3
  have e5 : exec (wdAt subT fldT none prT (d + 3) none) lh5 [some (.loc 0), some (.int n), some (.int p), some (.int w), some (.loc 3), o5, some (.lv (iv ord)), o7, o8, o9, none, none] (M cs (s2 + (n - p)) g3 [.lst (ws2.map wv), .lst ((ws2.map (ren ord)).map wv)]) = some (.ret (nv n p (sortW (ws2.map (ren ord)))), M cs (s2 + (n - p)) g3 [.lst (ws2.map wv), .lst ((ws2.map (ren ord)).map wv)]) := by
    have z := srt_at (μ := M cs (s2 + (n - p)) g3 [.lst (ws2.map wv), .lst ((ws2.map (ren ord)).map wv)]) (k := 3) (ws := ws2.map (ren ord)) (by simp; omega) rfl
    generalize ws2.map (ren ord) = w3 at *
    generalize M cs _ _ _ = μ at *
    simp (implicitDefEqProofs := false) [execs, exec, ev, evs, evIt, asg, asgs, asgK, evCmp, ltD_int, outc, most, evBin, bopI, isCls, isCl, blO, intO, dat_int, eqv_int, gc_int, gc_bl, gc_fr, fx0, fx1, lh5, z, bi_tup, nv]
  refine ⟨ws2.map (ren ord), s2 + (n - p), g3, [.lst (ws2.map wv), .lst ((ws2.map (ren ord)).map wv)], ren_ok r1 r2 r3 j1, by simpa using j2, by omega, ?_⟩
  unfold lh
  rw [execs, e0, seqK_nxt, execs, e1, seqK_nxt, execs, e2, seqK_nxt, execs, e3, seqK_nxt, execs, e4, seqK_nxt, execs, e5]
  rfl
end MI
end
section
set_option Elab.async false
set_option linter.all false
set_option maxRecDepth 100000
set_option maxHeartbeats 4000000
set_option exponentiation.threshold 20000
namespace MI
open PySem PySem.Spec PyProof.Rows L2
/-- a sum -/
def sm {α : Type} : List α → (α → Rat) → Rat
  | [], _ => 0
  | a :: l, f => f a + sm l f
section
variable {α β : Type}
theorem sm_congr {l : List α} {f g : α → Rat} (h : ∀ a ∈ l, f a = g a) : sm l f = sm l g := by
  induction l with
  | nil => rfl
  | cons a l ih => rw [sm, sm, h a List.mem_cons_self, ih fun b hb => h b (List.mem_cons_of_mem _ hb)]
theorem sm_zero {l : List α} {f : α → Rat} (h : ∀ a ∈ l, f a = 0) : sm l f = 0 := by
  induction l with
  | nil => rfl
  | cons a l ih => rw [sm, h a List.mem_cons_self, ih fun b hb => h b (List.mem_cons_of_mem _ hb)]; grind
theorem sm_add (l : List α) (f g : α → Rat) : sm l (fun a => f a + g a) = sm l f + sm l g := by
  induction l with
  | nil => rw [sm, sm, sm]; grind
  | cons a l ih => rw [sm, sm, sm, ih]; grind
theorem sm_mul (l : List α) (k : Rat) (f : α → Rat) : sm l (fun a => k * f a) = k * sm l f := by
  induction l with
  | nil => rw [sm, sm]; grind
  | cons a l ih => rw [sm, sm, ih]; grind
theorem sm_mul' (l : List α) (k : Rat) (f : α → Rat) : sm l (fun a => f a * k) = sm l f * k := by
  induction l with
  | nil => rw [sm, sm]; grind
  | cons a l ih => rw [sm, sm, ih]; grind
theorem sm_swap (l : List α) (m : List β) (f : α → β → Rat) : sm l (fun a => sm m fun b => f a b) = sm m fun b => sm l fun a => f a b := by
  induction l with
  | nil => rw [sm]; exact (sm_zero fun _ _ => rfl).symm
  | cons a l ih =>
    rw [sm, ih]
    rw [← sm_add]
    exact sm_congr fun b _ => by rw [sm]
theorem sm_app (l m : List α) (f : α → Rat) : sm (l ++ m) f = sm l f + sm m f := by
  induction l with
  | nil => rw [List.nil_append, sm]; grind
  | cons a l ih => rw [List.cons_append, sm, sm, ih]; grind
theorem sm_map (l : List α) (h : α → β) (f : β → Rat) : sm (l.map h) f = sm l fun a => f (h a) := by
  induction l with
  | nil => rfl
  | cons a l ih => rw [List.map_cons, sm, sm, ih]
theorem sm_nn {l : List α} {f : α → Rat} (h : ∀ a ∈ l, 0 ≤ f a) : 0 ≤ sm l f := by
  induction l with
  | nil => rw [sm]; exact Rat.le_refl
  | cons a l ih => rw [sm]; have := h a List.mem_cons_self; have := ih fun b hb => h b (List.mem_cons_of_mem _ hb); grind
theorem sm_le {l : List α} {f g : α → Rat} (h : ∀ a ∈ l, f a ≤ g a) : sm l f ≤ sm l g := by
  induction l with
  | nil => rw [sm, sm]; exact Rat.le_refl
  | cons a l ih => rw [sm, sm]; have := h a List.mem_cons_self; have := ih fun b hb => h b (List.mem_cons_of_mem _ hb); grind
/-- one of some that are not below 0 -/
theorem sm_one {l : List α} {f : α → Rat} (h : ∀ a ∈ l, 0 ≤ f a) {a : α} (ha : a ∈ l) : f a ≤ sm l f := by
  induction l with
  | nil => cases ha
  | cons b l ih =>
    rw [sm]
    rcases List.mem_cons.mp ha with rfl | hm
    · have := sm_nn fun c hc => h c (List.mem_cons_of_mem _ hc); grind
    · have := ih (fun c hc => h c (List.mem_cons_of_mem _ hc)) hm; have := h b List.mem_cons_self; grind
theorem sm_pre {l : List α} {f : α → Rat} (h : ∀ a ∈ l, 0 ≤ f a) (k : Nat) : sm (l.take k) f ≤ sm l f := by
  induction l generalizing k with
  | nil => simp [sm]
  | cons b l ih =>
    cases k with
    | zero => rw [List.take_zero, sm]; exact sm_nn h
    | succ k => rw [List.take_succ_cons, sm, sm]; have := ih (fun c hc => h c (List.mem_cons_of_mem _ hc)) k; grind
theorem sm_filter (l : List α) (p : α → Bool) (f : α → Rat) : sm (l.filter p) f = sm l fun a => if p a = true then f a else 0 := by
  induction l with
  | nil => rfl
  | cons a l ih =>
    rw [List.filter_cons, sm]
    split
    · rename_i h; rw [sm, ih]
    · rename_i h; rw [ih]; grind
theorem sm_delta {l : List Nat} (h : l.Nodup) {v : Nat} (f : Nat → Rat) : sm l (fun u => if u = v then f u else 0) = if v ∈ l then f v else 0 := by
  induction l with
  | nil => simp [sm]
  | cons a l ih =>
    rw [sm]
    have hn := List.nodup_cons.mp h
    rw [ih hn.2]
    by_cases e : a = v
    · subst e
      simp [hn.1]
      grind
    · have : v ∈ a :: l ↔ v ∈ l := by simp [Ne.symm e]
      simp only [this, if_neg e]
      grind
theorem sm_perm {l m : List α} (h : l.Perm m) (f : α → Rat) : sm l f = sm m f := by
  induction h with
  | nil => rfl
  | cons x _ ih => rw [sm, sm, ih]
  | swap x y l => simp only [sm]; grind
  | trans _ _ a b => exact a.trans b
end
theorem sm_rng (n v : Nat) (f : Nat → Rat) (h : v < n) : sm (List.range n) (fun u => if u = v then f u else 0) = f v := by
  rw [sm_delta List.nodup_range, if_pos (List.mem_range.mpr h)]
theorem Rat.mul_den_eq_num' (x : Rat) : x * x.den = x.num := by
  have hd : (x.den : Rat) ≠ 0 := fun e => by
    have := x.den_pos
    have : x.den = 0 := by exact_mod_cast e
    omega
  conv => lhs; lhs; rw [← Rat.num_divInt_den x, Rat.divInt_eq_div]
  rw [Rat.intCast_natCast]
  exact Rat.div_mul_cancel hd
/-- whole times a number -/
def Wh (D : Nat) (x : Rat) : Prop := ∃ z : Int, (D : Rat) * x = z
theorem Wh.int (D : Nat) (z : Int) : Wh D (z : Rat) := ⟨D * z, by simp only [Rat.intCast_mul, Rat.intCast_natCast]⟩
theorem Wh.add {D : Nat} {x y : Rat} (h : Wh D x) (g : Wh D y) : Wh D (x + y) := by
  obtain ⟨a, ha⟩ := h
  obtain ⟨b, hb⟩ := g
  exact ⟨a + b, by simp only [Rat.intCast_add]; grind⟩
theorem Wh.mul {D E : Nat} {x y : Rat} (h : Wh D x) (g : Wh E y) : Wh (D * E) (x * y) := by
  obtain ⟨a, ha⟩ := h
  obtain ⟨b, hb⟩ := g
  exact ⟨a * b, by simp only [Rat.intCast_mul, Rat.natCast_mul]; grind⟩
theorem Wh.more {D : Nat} {x : Rat} (h : Wh D x) (E : Nat) : Wh (D * E) x := by
  obtain ⟨a, ha⟩ := h
  exact ⟨a * E, by simp only [Rat.intCast_mul, Rat.natCast_mul, Rat.intCast_natCast]; grind⟩
theorem Wh.dvd {D E : Nat} {x : Rat} (h : Wh D x) (hd : D ∣ E) : Wh E x := by
  obtain ⟨k, rfl⟩ := hd
  exact h.more k
theorem Wh.sm {α : Type} {D : Nat} {f : α → Rat} : ∀ {l : List α}, (∀ a ∈ l, Wh D (f a)) → Wh D (MI.sm l f)
  | [], _ => ⟨0, by simp [MI.sm]⟩
  | a :: l, h => by rw [MI.sm]; exact (h a List.mem_cons_self).add (Wh.sm fun b hb => h b (List.mem_cons_of_mem _ hb))
theorem Wh.den (x : Rat) : Wh x.den x := ⟨x.num, by rw [Rat.mul_comm]; exact (Rat.mul_den_eq_num' x)⟩
theorem Wh.den_dvd {D : Nat} {x : Rat} (h : Wh D x) : x.den ∣ D := by
  obtain ⟨z, hz⟩ := h
  have h1 : (x.num : Rat) = x * x.den := ((Rat.mul_den_eq_num' x)).symm
  have h2 : (D : Rat) * x.num = z * x.den := by rw [h1, ← Rat.mul_assoc, hz]
  have h3 : (D : Int) * x.num = z * x.den := by exact_mod_cast h2
  have h4 : (x.den : Int) ∣ (D : Int) * x.num := ⟨z, by rw [h3, Int.mul_comm]⟩
  have h5 : x.den ∣ D * x.num.natAbs := by
    have := Int.natAbs_dvd_natAbs.mpr h4
    rwa [Int.natAbs_mul, Int.natAbs_natCast, Int.natAbs_natCast] at this
  exact Nat.Coprime.dvd_of_dvd_mul_right (Nat.Coprime.symm x.reduced) h5
/-- wires between nodes, strengths above 0 -/
def WN (n : Nat) (ws : List Wr) : Prop := ∀ w ∈ ws, w.a < w.b ∧ w.b < n ∧ 0 < w.q
/-- the sum of strengths at a node -/
def wt (ws : List Wr) (u : Nat) : Rat := sm ws fun w => if w.a = u ∨ w.b = u then w.q else 0
/-- .. between two nodes -/
def kk (ws : List Wr) (u v : Nat) : Rat := sm ws fun w => if (w.a = u ∧ w.b = v) ∨ (w.a = v ∧ w.b = u) then w.q else 0
/-- a step from u to v -/
def pp (ws : List Wr) (u v : Nat) : Rat := if wt ws u = 0 then (if u = v then 1 else 0) else kk ws u v / wt ws u
/-- what a wire brings to v -/
def ct (ws : List Wr) (c : Nat → Rat) (v : Nat) (w : Wr) : Rat := if w.a = v then c w.b * w.q / wt ws w.b else if w.b = v then c w.a * w.q / wt ws w.a else 0
def st0 (ws : List Wr) (c : Nat → Rat) (v : Nat) : Rat := if wt ws v = 0 then c v else 0
def st (ws : List Wr) (c : Nat → Rat) (v : Nat) : Rat := st0 ws c v + sm ws (ct ws c v)
/-- a step of chances by a table of chances -/
def tt (n : Nat) (P : Nat → Nat → Rat) (c : Nat → Rat) (v : Nat) : Rat := sm (List.range n) fun u => c u * P u v
section
variable {n : Nat} {ws : List Wr}
theorem kk_nn (h : WN n ws) (u v : Nat) : 0 ≤ kk ws u v := sm_nn fun w hw => by
  have := (h w hw).2.2
  split <;> grind
theorem kk_le (h : WN n ws) (u v : Nat) : kk ws u v ≤ wt ws u := sm_le fun w hw => by
  have := (h w hw).2.2
  split <;> split <;> grind
theorem kk_sym (u v : Nat) : kk ws u v = kk ws v u := sm_congr fun w _ => by
  split <;> split <;> grind
theorem wt_nn (h : WN n ws) (u : Nat) : 0 ≤ wt ws u := sm_nn fun w hw => by
  have := (h w hw).2.2
  split <;> grind
theorem pp_rev (h : WN n ws) (u v : Nat) : wt ws u * pp ws u v = wt ws v * pp ws v u := by
  unfold pp
  have h1 := kk_nn h u v
  have h2 := kk_le h u v
  have h3 := kk_le h v u
  rw [kk_sym v u] at h3 ⊢
  generalize kk ws u v = K at *
  split
  · rename_i e
    rw [e] at h2 ⊢
    have : K = 0 := by grind
    subst this
    split
    · rename_i e'; subst e'; rw [e]; grind
    · grind
  · rename_i e
    split
    · rename_i e'
      rw [e'] at h3 ⊢
      have : K = 0 := by grind
      subst this
      grind
    · rename_i e'; grind
theorem inv_nn {x : Rat} (h : 0 ≤ x) : 0 ≤ x⁻¹ := by
  by_cases e : x = 0
  · subst e; simp
  · have : 0 < x := by grind
    have := Rat.inv_pos.mpr this
    grind
theorem pp_nn (h : WN n ws) (u v : Nat) : 0 ≤ pp ws u v := by
  unfold pp
  split
  · split <;> grind
  · rename_i e
    have h1 := kk_nn h u v
    have h2 := wt_nn h u
    rw [Rat.div_def]
    exact Rat.mul_nonneg h1 (inv_nn h2)
theorem kk_sum (h : WN n ws) {u : Nat} : sm (List.range n) (kk ws u) = wt ws u := by
  unfold kk wt
  rw [sm_swap]
  refine sm_congr fun w hw => ?_
  obtain ⟨h1, h2, h3⟩ := h w hw
  by_cases ha : w.a = u
  · rw [sm_congr (g := fun v => if v = w.b then w.q else 0) fun v _ => by split <;> split <;> grind, sm_rng n w.b (fun _ => w.q) h2]
    simp [ha]
  · by_cases hb : w.b = u
    · rw [sm_congr (g := fun v => if v = w.a then w.q else 0) fun v _ => by split <;> split <;> grind, sm_rng n w.a (fun _ => w.q) (by omega)]
      simp [hb]
    · rw [sm_zero fun v _ => by split <;> grind]
      simp [ha, hb]
theorem pp_sum (h : WN n ws) {u : Nat} (hu : u < n) : sm (List.range n) (pp ws u) = 1 := by
  unfold pp
  by_cases e : wt ws u = 0
  · simp only [e, if_true]
    rw [sm_congr (g := fun v => if v = u then 1 else 0) fun v _ => by split <;> split <;> grind, sm_rng n u (fun _ => 1) hu]
  · simp only [e, if_false]
    rw [sm_congr (g := fun v => kk ws u v * (wt ws u)⁻¹) fun v _ => Rat.div_def _ _, sm_mul', kk_sum h]
    exact Rat.mul_inv_cancel _ e
theorem st_tt (h : WN n ws) (c : Nat → Rat) {v : Nat} (hv : v < n) : st ws c v = tt n (pp ws) c v := by
  have e1 : tt n (pp ws) c v = sm (List.range n) (fun u => if u = v then st0 ws c u else 0) + sm (List.range n) fun u => c u * kk ws u v / wt ws u := by
    rw [← sm_add]
    refine sm_congr fun u _ => ?_
    unfold pp st0
    by_cases e : wt ws u = 0
    · simp only [e, if_true]
      split <;> grind
    · simp only [e, if_false]
      split <;> grind
  rw [e1, sm_rng n v (st0 ws c) hv, st]
  congr 1
  have e2 : ∀ u, c u * kk ws u v / wt ws u = sm ws fun w => if (w.a = u ∧ w.b = v) ∨ (w.a = v ∧ w.b = u) then c u * w.q / wt ws u else 0 := fun u => by
    rw [show c u * kk ws u v / wt ws u = (c u / wt ws u) * kk ws u v by rw [Rat.div_def, Rat.div_def]; grind]
    unfold kk
    rw [← sm_mul]
    refine sm_congr fun w _ => ?_
    split
    · rw [Rat.div_def, Rat.div_def]; grind
    · grind
  rw [sm_congr fun u _ => e2 u, sm_swap]
  refine sm_congr fun w hw => ?_
  obtain ⟨h1, h2, h3⟩ := h w hw
  unfold ct
  by_cases ha : w.a = v
  · rw [sm_congr (g := fun u => if u = w.b then c u * w.q / wt ws u else 0) fun u _ => by split <;> split <;> grind, sm_rng n w.b (fun u => c u * w.q / wt ws u) h2, if_pos ha]
  · by_cases hb : w.b = v
    · rw [sm_congr (g := fun u => if u = w.a then c u * w.q / wt ws u else 0) fun u _ => by split <;> split <;> grind, sm_rng n w.a (fun u => c u * w.q / wt ws u) (by omega), if_neg ha, if_pos hb]
    · rw [sm_zero fun u _ => by split <;> grind, if_neg ha, if_neg hb]
end
/-- so many steps -/
def pk (n : Nat) (P : Nat → Nat → Rat) : Nat → (Nat → Rat) → Nat → Rat
  | 0, c => c
  | k + 1, c => tt n P (pk n P k c)
def dl (i v : Nat) : Rat := if v = i then 1 else 0
section
variable {n : Nat} {P : Nat → Nat → Rat}
theorem tt_congr {c d : Nat → Rat} (h : ∀ u, u < n → c u = d u) (v : Nat) : tt n P c v = tt n P d v := sm_congr fun u hu => by rw [h u (List.mem_range.mp hu)]
theorem tt_lin (a : Nat → Rat) (f : Nat → Nat → Rat) (v : Nat) : tt n P (fun u => sm (List.range n) fun i => a i * f i u) v = sm (List.range n) fun i => a i * tt n P (f i) v := by
  unfold tt
  rw [sm_congr (g := fun u => sm (List.range n) fun i => a i * (f i u * P u v)) fun u _ => by rw [← sm_mul']; exact sm_congr fun i _ => by grind, sm_swap]
  exact sm_congr fun i _ => sm_mul _ _ _
theorem pk_lin : ∀ (k : Nat) (c : Nat → Rat) (v : Nat), v < n → pk n P k c v = sm (List.range n) fun i => c i * pk n P k (dl i) v
  | 0, c, v, hv => by
    show c v = _
    rw [sm_congr (g := fun i => if i = v then c i else 0) fun i _ => by show c i * dl i v = _; unfold dl; split <;> split <;> grind, sm_rng n v c hv]
  | k + 1, c, v, hv => by
    show tt n P (pk n P k c) v = _
    rw [tt_congr (fun u hu => pk_lin k c u hu), tt_lin]
    rfl
theorem tt_dl {j : Nat} (hj : j < n) (u : Nat) : tt n P (dl j) u = P j u := by
  unfold tt
  rw [sm_congr (g := fun i => if i = j then P i u else 0) fun i _ => by unfold dl; split <;> grind, sm_rng n j (fun i => P i u) hj]
theorem pk_succ : ∀ (k : Nat) (c : Nat → Rat), pk n P (k + 1) c = pk n P k (tt n P c)
  | 0, c => rfl
  | k + 1, c => by
    show tt n P (pk n P (k + 1) c) = tt n P (pk n P k (tt n P c))
    rw [pk_succ k c]
theorem pk_rev {w : Nat → Rat} (h : ∀ u v, w u * P u v = w v * P v u) : ∀ (k i j : Nat), i < n → j < n → w i * pk n P k (dl i) j = w j * pk n P k (dl j) i
  | 0, i, j, hi, hj => by
    show w i * dl i j = w j * dl j i
    unfold dl
    split <;> split <;> grind
  | k + 1, i, j, hi, hj => by
    have e1 : w i * pk n P (k + 1) (dl i) j = sm (List.range n) fun u => w j * (P j u * pk n P k (dl u) i) := by
      show w i * tt n P (pk n P k (dl i)) j = _
      unfold tt
      rw [← sm_mul]
      refine sm_congr fun u hu => ?_
      have e2 := pk_rev h k i u hi (List.mem_range.mp hu)
      have e3 := h u j
      grind
    rw [e1, sm_mul, pk_succ, pk_lin k (tt n P (dl j)) i hi]
    congr 1
    exact sm_congr fun u _ => by rw [tt_dl hj]
theorem tt_sum (h : ∀ u, u < n → sm (List.range n) (P u) = 1) (c : Nat → Rat) : sm (List.range n) (tt n P c) = sm (List.range n) c := by
  unfold tt
  rw [sm_swap]
  exact sm_congr fun u hu => by rw [sm_mul, h u (List.mem_range.mp hu)]; grind
theorem tt_nn (h : ∀ u v, 0 ≤ P u v) {c : Nat → Rat} (hc : ∀ u, u < n → 0 ≤ c u) (v : Nat) : 0 ≤ tt n P c v := sm_nn fun u hu => Rat.mul_nonneg (hc u (List.mem_range.mp hu)) (h u v)
end
/-- wires at a node -/
def wat (ws : List Wr) (u : Nat) : List Wr := ws.filter fun w => decide (w.a = u ∨ w.b = u)
def prodN : List Nat → Nat
  | [] => 1
  | x :: l => x * prodN l
def sumN : List Nat → Nat
  | [] => 0
  | x :: l => x + sumN l
theorem prodN_dvd {x : Nat} : ∀ {l : List Nat}, x ∈ l → x ∣ prodN l
  | y :: l, h => by
    rw [prodN]
    rcases List.mem_cons.mp h with rfl | h
    · exact Nat.dvd_mul_right _ _
    · exact Nat.dvd_trans (prodN_dvd h) (Nat.dvd_mul_left _ _)
theorem prodN_le (f g : Nat → Nat) : ∀ {l : List Nat}, (∀ u ∈ l, f u ≤ 2 ^ g u) → prodN (l.map f) ≤ 2 ^ sumN (l.map g)
  | [], _ => by simp [prodN, sumN]
  | u :: l, h => by
    rw [List.map_cons, List.map_cons, prodN, sumN, Nat.pow_add]
    exact Nat.mul_le_mul (h u List.mem_cons_self) (prodN_le f g fun v hv => h v (List.mem_cons_of_mem _ hv))
theorem prodN_lec {t : Nat} : ∀ {l : List Nat}, (∀ x ∈ l, x ≤ 2 ^ t) → prodN l ≤ 2 ^ (t * l.length)
  | [], _ => by simp [prodN]
  | x :: l, h => by
    rw [prodN, List.length_cons, Nat.mul_add, Nat.mul_one, Nat.pow_add, Nat.mul_comm]
    exact Nat.mul_le_mul (prodN_lec fun y hy => h y (List.mem_cons_of_mem _ hy)) (h x List.mem_cons_self)
theorem prodN_pos : ∀ {l : List Nat}, (∀ x ∈ l, 0 < x) → 0 < prodN l
  | [], _ => by simp [prodN]
  | x :: l, h => by
    rw [prodN]
    exact Nat.mul_pos (h x List.mem_cons_self) (prodN_pos fun y hy => h y (List.mem_cons_of_mem _ hy))
theorem sumN_add {f g : Nat → Nat} : ∀ l : List Nat, sumN (l.map fun u => f u + g u) = sumN (l.map f) + sumN (l.map g)
  | [] => rfl
  | u :: l => by simp only [List.map_cons, sumN, sumN_add l]; omega
theorem sumN_mul {k : Nat} {f : Nat → Nat} : ∀ l : List Nat, sumN (l.map fun u => k * f u) = k * sumN (l.map f)
  | [] => rfl
  | u :: l => by simp only [List.map_cons, sumN, sumN_mul l, Nat.mul_add]
theorem sumN_const {k : Nat} : ∀ l : List Nat, sumN (l.map fun _ => k) = k * l.length
  | [] => rfl
  | u :: l => by simp only [List.map_cons, sumN, sumN_const l, List.length_cons, Nat.mul_add]; omega
theorem sumN_le {f g : Nat → Nat} : ∀ {l : List Nat}, (∀ u ∈ l, f u ≤ g u) → sumN (l.map f) ≤ sumN (l.map g)
  | [], _ => Nat.le_refl _
  | u :: l, h => by
    simp only [List.map_cons, sumN]
    have := h u List.mem_cons_self
    have := sumN_le fun v hv => h v (List.mem_cons_of_mem _ hv)
    omega
theorem sumN_zero {f : Nat → Nat} : ∀ {l : List Nat}, (∀ u ∈ l, f u = 0) → sumN (l.map f) = 0
  | [], _ => rfl
  | u :: l, h => by
    simp only [List.map_cons, sumN, h u List.mem_cons_self, sumN_zero fun v hv => h v (List.mem_cons_of_mem _ hv)]
theorem sumN_one {v : Nat} : ∀ {l : List Nat}, l.Nodup → sumN (l.map fun u => if v = u then 1 else 0) ≤ 1
  | [], _ => by simp [sumN]
  | u :: l, h => by
    have hn := List.nodup_cons.mp h
    simp only [List.map_cons, sumN]
    by_cases e : v = u
    · subst e
      rw [if_pos rfl, sumN_zero (f := fun u => if v = u then 1 else 0) (l := l) fun w hw => if_neg fun e => hn.1 (by rw [e]; exact hw)]
      exact Nat.le_refl _
    · rw [if_neg e]
      have := sumN_one (v := v) hn.2
      omega
/-- how many wires end at nodes -/
theorem deg_sum (n : Nat) : ∀ ws : List Wr, sumN ((List.range n).map fun u => (wat ws u).length) ≤ 2 * ws.length
  | [] => by rw [sumN_zero (f := fun u => (wat [] u).length) fun u _ => rfl]; exact Nat.zero_le _
  | w :: ws => by
    have h := deg_sum n ws
    have e : sumN ((List.range n).map fun u => (wat (w :: ws) u).length) ≤ sumN ((List.range n).map fun u => (if w.a = u then 1 else 0) + (if w.b = u then 1 else 0) + (wat ws u).length) := sumN_le fun u _ => by
      unfold wat
      rw [List.filter_cons]
      by_cases ha : w.a = u <;> by_cases hb : w.b = u <;> simp [ha, hb] <;> omega
    rw [sumN_add, sumN_add] at e
    have h1 := sumN_one (v := w.a) (l := List.range n) List.nodup_range
    have h2 := sumN_one (v := w.b) (l := List.range n) List.nodup_range
    rw [List.length_cons]
    omega
def dnu (ws : List Wr) (u : Nat) : Nat := prodN ((wat ws u).map (·.q.den))
theorem dnu_w {ws : List Wr} {u : Nat} {w : Wr} (h : w ∈ ws) (hu : w.a = u ∨ w.b = u) : Wh (dnu ws u) w.q :=
  (Wh.den w.q).dvd (prodN_dvd (List.mem_map.mpr ⟨w, List.mem_filter.mpr ⟨h, by simpa using hu⟩, rfl⟩))
theorem dnu_wt (ws : List Wr) (u : Nat) : Wh (dnu ws u) (wt ws u) := Wh.sm fun w hw => by
  split
  · rename_i h; exact dnu_w hw h
  · exact ⟨0, by simp⟩
theorem Wh.nat {D : Nat} {x : Rat} (h : Wh D x) (hx : 0 ≤ x) : ∃ k : Nat, (D : Rat) * x = k := by
  obtain ⟨z, hz⟩ := h
  have h0 : (0 : Rat) ≤ (D : Rat) * x := Rat.mul_nonneg (by exact_mod_cast Nat.zero_le D) hx
  rw [hz] at h0
  have h1 : 0 ≤ z := by exact_mod_cast h0
  refine ⟨z.toNat, ?_⟩
  rw [hz]
  have : ((z.toNat : Nat) : Int) = z := Int.toNat_of_nonneg h1
  rw [← Rat.intCast_natCast, this]
open Classical in
noncomputable def enu (ws : List Wr) (u : Nat) : Nat := if h : wt ws u ≠ 0 ∧ ∃ k : Nat, (dnu ws u : Rat) * wt ws u = k then Classical.choose h.2 else 1
section
variable {n : Nat} {ws : List Wr}
theorem wt_pos (h : WN n ws) {u : Nat} {w : Wr} (hw : w ∈ ws) (hu : w.a = u ∨ w.b = u) : 0 < wt ws u ∧ w.q ≤ wt ws u := by
  have h1 := sm_one (l := ws) (f := fun w => if w.a = u ∨ w.b = u then w.q else 0) (fun v hv => by
    have := (h v hv).2.2
    split <;> grind) hw
  simp only [if_pos hu] at h1
  have h2 := (h w hw).2.2
  exact ⟨by unfold wt; grind, h1⟩
theorem enu_eq (h : WN n ws) {u : Nat} (h0 : wt ws u ≠ 0) : (dnu ws u : Rat) * wt ws u = enu ws u := by
  have e := (dnu_wt ws u).nat (wt_nn h u)
  unfold enu
  rw [dif_pos ⟨h0, e⟩]
  exact Classical.choose_spec (⟨h0, e⟩ : wt ws u ≠ 0 ∧ ∃ k : Nat, (dnu ws u : Rat) * wt ws u = k).2
theorem enu_w (h : WN n ws) {u : Nat} {w : Wr} (hw : w ∈ ws) (hu : w.a = u ∨ w.b = u) : Wh (enu ws u) (w.q / wt ws u) := by
  have h0 : wt ws u ≠ 0 := by have := (wt_pos h hw hu).1; grind
  obtain ⟨z, hz⟩ := dnu_w hw hu
  refine ⟨z, ?_⟩
  rw [← enu_eq h h0, ← hz, Rat.div_def]
  have := Rat.mul_inv_cancel _ h0
  grind
theorem dnu_pos (ws : List Wr) (u : Nat) : 0 < dnu ws u := prodN_pos fun x hx => by
  obtain ⟨w, _, rfl⟩ := List.mem_map.mp hx
  exact w.q.den_pos
theorem enu_pos (h : WN n ws) (u : Nat) : 0 < enu ws u := by
  by_cases h0 : wt ws u = 0
  · unfold enu
    rw [dif_neg fun z => z.1 h0]
    exact Nat.one_pos
  · have h1 := enu_eq h h0
    have h2 := dnu_pos ws u
    have h3 := wt_nn h u
    rcases Nat.eq_zero_or_pos (enu ws u) with e | e
    · rw [e] at h1
      have h4 : (dnu ws u : Rat) ≠ 0 := fun e => by
        have : dnu ws u = 0 := by exact_mod_cast e
        omega
      have h5 : (dnu ws u : Rat) * wt ws u = 0 := by rw [h1]; rfl
      rcases Rat.mul_eq_zero.mp h5 with z | z
      · exact absurd z h4
      · exact absurd z h0
    · exact e
theorem wt_le {t : Nat} (hq : ∀ w ∈ ws, w.q ≤ ((2 ^ t : Nat) : Rat)) (hp : ∀ w ∈ ws, 0 < w.q) (u : Nat) : wt ws u ≤ ((ws.length * 2 ^ t : Nat) : Rat) := by
  unfold wt
  induction ws with
  | nil => simp [sm]
  | cons w l ih =>
    rw [sm, List.length_cons, Nat.add_mul, Nat.one_mul]
    have h1 := ih (fun v hv => hq v (List.mem_cons_of_mem _ hv)) (fun v hv => hp v (List.mem_cons_of_mem _ hv))
    have h2 := hq w List.mem_cons_self
    have h3 := hp w List.mem_cons_self
    rw [Rat.natCast_add]
    split <;> grind
theorem enu_le (h : WN n ws) {t : Nat} (hl : ws.length ≤ 32) (hq : ∀ w ∈ ws, w.q ≤ ((2 ^ t : Nat) : Rat)) (hd : ∀ w ∈ ws, w.q.den ≤ 2 ^ t) (u : Nat) : enu ws u ≤ 2 ^ (t * (wat ws u).length + (t + 5)) := by
  by_cases h0 : wt ws u = 0
  · unfold enu
    rw [dif_neg fun z => z.1 h0]
    exact Nat.one_le_two_pow
  · have h1 := enu_eq h h0
    have h2 : dnu ws u ≤ 2 ^ (t * (wat ws u).length) := by
      have := prodN_lec (t := t) (l := (wat ws u).map (·.q.den)) fun x hx => by
        obtain ⟨w, hw, rfl⟩ := List.mem_map.mp hx
        exact hd w (List.mem_filter.mp hw).1
      simpa [dnu] using this
    have h3 := wt_le hq (fun w hw => (h w hw).2.2) u
    have h4 : ((enu ws u : Nat) : Rat) ≤ ((dnu ws u * (ws.length * 2 ^ t) : Nat) : Rat) := by
      rw [← h1, Rat.natCast_mul]
      exact Rat.mul_le_mul_of_nonneg_left h3 (by exact_mod_cast Nat.zero_le _)
    have h5 : enu ws u ≤ dnu ws u * (ws.length * 2 ^ t) := by exact_mod_cast h4
    refine Nat.le_trans h5 ?_
    rw [Nat.pow_add, Nat.pow_add]
    refine Nat.mul_le_mul h2 ?_
    rw [Nat.mul_comm]
    exact Nat.mul_le_mul (Nat.le_refl _) (by omega)
/-- what all chances of a step are parts of -/
noncomputable def ddn (n : Nat) (ws : List Wr) : Nat := prodN ((List.range n).map (enu ws))
theorem ddq_w (h : WN n ws) {u : Nat} {w : Wr} (hw : w ∈ ws) (hu : w.a = u ∨ w.b = u) : Wh (ddn n ws) (w.q / wt ws u) := by
  have hn : u < n := by
    have := h w hw
    rcases hu with e | e <;> omega
  exact (enu_w h hw hu).dvd (prodN_dvd (List.mem_map.mpr ⟨u, List.mem_range.mpr hn, rfl⟩))
theorem ddq_pos (h : WN n ws) : 0 < ddn n ws := prodN_pos fun x hx => by
  obtain ⟨u, _, rfl⟩ := List.mem_map.mp hx
  exact enu_pos h u
theorem ddq_le (h : WN n ws) {t : Nat} (hl : ws.length ≤ 32) (hq : ∀ w ∈ ws, w.q ≤ ((2 ^ t : Nat) : Rat)) (hd : ∀ w ∈ ws, w.q.den ≤ 2 ^ t) : ddn n ws ≤ 2 ^ (2 * t * ws.length + n * (t + 5)) := by
  refine Nat.le_trans (prodN_le _ _ fun u _ => enu_le h hl hq hd u) (Nat.pow_le_pow_right (by decide) ?_)
  rw [sumN_add, sumN_mul, sumN_const, List.length_range]
  have := deg_sum n ws
  have := Nat.mul_le_mul_left t this
  rw [Nat.mul_comm (t + 5)]
  have : t * (2 * ws.length) = 2 * t * ws.length := by rw [← Nat.mul_assoc, Nat.mul_comm t 2]
  omega
/-- chances, parts of so many -/
structure CV (n D : Nat) (c : Nat → Rat) : Prop where
  nn : ∀ v, v < n → 0 ≤ c v
  one : sm (List.range n) c = 1
  wh : ∀ v, v < n → Wh D (c v)
theorem CV.le {D : Nat} {c : Nat → Rat} (h : CV n D c) {v : Nat} (hv : v < n) : c v ≤ 1 := by
  rw [← h.one]
  exact sm_one (fun u hu => h.nn u (List.mem_range.mp hu)) (List.mem_range.mpr hv)
/-- a part that is not below 0, not above 1, a part of so many -/
def Pt (D : Nat) (x : Rat) : Prop := 0 ≤ x ∧ x ≤ 1 ∧ Wh D x
section
variable {D : Nat} {c : Nat → Rat}
theorem ct_nn (h : WN n ws) (hc : CV n D c) (v : Nat) {w : Wr} (hw : w ∈ ws) : 0 ≤ ct ws c v w := by
  obtain ⟨h1, h2, h3⟩ := h w hw
  unfold ct
  have g : ∀ u, u < n → 0 ≤ c u * w.q / wt ws u := fun u hu => by
    rw [Rat.div_def]
    exact Rat.mul_nonneg (Rat.mul_nonneg (hc.nn u hu) (by grind)) (inv_nn (wt_nn h u))
  split
  · exact g _ h2
  · split
    · exact g _ (by omega)
    · exact Rat.le_refl
theorem ct_wh (h : WN n ws) (hc : CV n D c) (v : Nat) {w : Wr} (hw : w ∈ ws) : Wh (D * ddn n ws) (ct ws c v w) := by
  obtain ⟨h1, h2, h3⟩ := h w hw
  unfold ct
  have g : ∀ u, u < n → (w.a = u ∨ w.b = u) → Wh (D * ddn n ws) (c u * w.q / wt ws u) := fun u hu hw' => by
    rw [show c u * w.q / wt ws u = c u * (w.q / wt ws u) by rw [Rat.div_def, Rat.div_def]; grind]
    exact (hc.wh u hu).mul (ddq_w h hw hw')
  split
  · exact g _ h2 (.inr rfl)
  · split
    · exact g _ (by omega) (.inl rfl)
    · exact ⟨0, by simp⟩
theorem st0_wh (hc : CV n D c) {v : Nat} (hv : v < n) (E : Nat) : Wh (D * E) (st0 ws c v) := by
  unfold st0
  split
  · exact (hc.wh v hv).more E
  · exact ⟨0, by simp⟩
theorem st0_nn (hc : CV n D c) {v : Nat} (hv : v < n) : 0 ≤ st0 ws c v := by
  unfold st0
  split
  · exact hc.nn v hv
  · exact Rat.le_refl
theorem cv_step (h : WN n ws) (hc : CV n D c) : CV n (D * ddn n ws) (st ws c) where
  nn := fun v hv => by
    have := st0_nn (ws := ws) hc hv
    have := sm_nn fun w hw => ct_nn h hc v hw
    unfold st
    grind
  one := by
    rw [sm_congr fun v hv => st_tt h c (List.mem_range.mp hv), tt_sum (fun u hu => pp_sum h hu), hc.one]
  wh := fun v hv => (st0_wh hc hv _).add (Wh.sm fun w hw => ct_wh h hc v hw)
theorem pt_pre (h : WN n ws) (hc : CV n D c) {v : Nat} (hv : v < n) {pre post : List Wr} (e : ws = pre ++ post) : Pt (D * ddn n ws) (st0 ws c v + sm pre (ct ws c v)) := by
  have hm : ∀ w ∈ pre, w ∈ ws := fun w hw => by rw [e]; exact List.mem_append_left _ hw
  have hm' : ∀ w ∈ post, w ∈ ws := fun w hw => by rw [e]; exact List.mem_append_right _ hw
  have h1 := st0_nn (ws := ws) hc hv
  have h2 := sm_nn fun w hw => ct_nn h hc v (hm w hw)
  have h3 := sm_nn fun w hw => ct_nn h hc v (hm' w hw)
  have h4 := (cv_step h hc).le hv
  unfold st at h4
  have h5 : sm ws (ct ws c v) = sm pre (ct ws c v) + sm post (ct ws c v) := by
    rw [← sm_app, ← e]
  refine ⟨by grind, by grind, (st0_wh hc hv _).add (Wh.sm fun w hw => ct_wh h hc v (hm w hw))⟩
theorem pt_ct (h : WN n ws) (hc : CV n D c) {v : Nat} (hv : v < n) {w : Wr} (hw : w ∈ ws) : Pt (D * ddn n ws) (ct ws c v w) := by
  have h1 := ct_nn h hc v hw
  have h2 := st0_nn (ws := ws) hc hv
  have h3 := sm_one (fun w hw => ct_nn h hc v hw) hw
  have h4 := (cv_step h hc).le hv
  unfold st at h4
  exact ⟨h1, by grind, ct_wh h hc v hw⟩
end
theorem pt_bd {D b : Nat} {x : Rat} (h : Pt D x) (h0 : 0 < D) (hb : D ≤ 2 ^ b) : x.num.natAbs ≤ 2 ^ b ∧ x.den ≤ 2 ^ b := by
  obtain ⟨h1, h2, h3⟩ := h
  have hd : x.den ≤ 2 ^ b := Nat.le_trans (Nat.le_of_dvd h0 h3.den_dvd) hb
  have hn : 0 ≤ x.num := Rat.num_nonneg.mpr h1
  have hl : x.num ≤ x.den := by
    have := (Rat.le_iff x 1).mp h2
    simpa using this
  exact ⟨by omega, hd⟩
theorem cv_dl {i : Nat} (hi : i < n) : CV n 1 (dl i) where
  nn := fun v _ => by unfold dl; split <;> grind
  one := by
    have := sm_rng n i (fun _ => 1) hi
    exact this
  wh := fun v _ => by
    unfold dl
    split
    · exact ⟨1, by simp⟩
    · exact ⟨0, by simp⟩
/-- so many steps -/
def sk (ws : List Wr) : Nat → (Nat → Rat) → Nat → Rat
  | 0, c => c
  | k + 1, c => st ws (sk ws k c)
theorem cv_sk (h : WN n ws) {i : Nat} (hi : i < n) : ∀ k, CV n (ddn n ws ^ k) (sk ws k (dl i))
  | 0 => cv_dl hi
  | k + 1 => by rw [Nat.pow_succ]; exact cv_step h (cv_sk h hi k)
theorem sk_pk (h : WN n ws) (c : Nat → Rat) : ∀ (k v : Nat), v < n → sk ws k c v = pk n (pp ws) k c v
  | 0, v, _ => rfl
  | k + 1, v, hv => by
    show st ws (sk ws k c) v = tt n (pp ws) (pk n (pp ws) k c) v
    rw [st_tt h _ hv, tt_congr fun u hu => sk_pk h c k u hu]
/-- there and back -/
theorem sk_rev (h : WN n ws) (k : Nat) {i j : Nat} (hi : i < n) (hj : j < n) : wt ws i * sk ws k (dl i) j = wt ws j * sk ws k (dl j) i := by
  rw [sk_pk h _ k j hj, sk_pk h _ k i hi]
  exact pk_rev (fun u v => pp_rev h u v) k i j hi hj
end
end MI
end
section
set_option Elab.async false
set_option linter.all false
set_option maxRecDepth 100000
set_option maxHeartbeats 4000000
set_option exponentiation.threshold 20000
namespace MI
open PySem PySem.Spec PyProof.Rows L2
def fset {α : Type} (f : Nat → α) (i : Nat) (x : α) : Nat → α := fun u => if u = i then x else f u
/-- a row of fractions, one for each node -/
def rv (n : Nat) (c : Nat → Rat) : List MV := (List.range n).map fun u => fr (c u)
theorem rv_len (n : Nat) (c : Nat → Rat) : (rv n c).length = n := by simp [rv]
theorem rv_congr {n : Nat} {c e : Nat → Rat} (h : ∀ u, u < n → c u = e u) : rv n c = rv n e := List.map_congr_left fun u hu => by rw [h u (List.mem_range.mp hu)]
theorem noL_rv (n : Nat) (c : Nat → Rat) : MV.noLs (rv n c) = true := by
  unfold rv
  induction List.range n with
  | nil => rfl
  | cons a l ih => simp only [List.map_cons, MV.noLs, ih, noL_fr, Bool.and_self]
theorem rv_set {n : Nat} (c : Nat → Rat) {u : Nat} (x : Rat) : (rv n c).set u (fr x) = rv n (fset c u x) := by
  refine List.ext_getElem? fun m => ?_
  unfold rv fset
  rw [List.getElem?_set]
  simp only [List.getElem?_map, List.length_map, List.length_range]
  by_cases h : u = m
  · subst h
    by_cases hu : u < n
    · simp [hu]
    · simp [hu]
  · rw [if_neg h]
    by_cases hm : m < n
    · rw [List.getElem?_range hm]; simp [Ne.symm h]
    · rw [List.getElem?_eq_none (by simp; omega)]; rfl
theorem ix_rvl (μ : Mem) {n : Nat} (c : Nat → Rat) {u : Nat} (h : u < n) : evIdx μ (.lv (rv n c)) (.int u) = some (fr (c u)) := by
  rw [ixl_nat μ (show u < (rv n c).length by rw [rv_len]; exact h)]; simp [rv]
theorem ix_rvt (μ : Mem) {n : Nat} (c : Nat → Rat) {u : Nat} (h : u < n) : evIdx μ (.tup (rv n c)) (.int u) = some (fr (c u)) := by
  rw [ixt_nat μ (show u < (rv n c).length by rw [rv_len]; exact h)]; simp [rv]
theorem F_at (μ : Mem) (xs : List MV) : (F' μ xs)[μ.length]? = some (.lst xs) := by simp [F']
theorem F_ls (μ : Mem) (xs : List MV) : lsOf (F' μ xs) (.loc μ.length) = some xs := by simp only [lsOf, F_at]
theorem F_ix (μ : Mem) {n : Nat} (c : Nat → Rat) {u : Nat} (h : u < n) : evIdx (F' μ (rv n c)) (.loc μ.length) (.int u) = some (fr (c u)) := by
  have h' : u < (rv n c).length := by rw [rv_len]; exact h
  have e := atI_nat h'
  have e2 : (rv n c)[u] = fr (c u) := by simp [rv]
  simp only [evIdx, dcOf, sqOf, F_at, Option.bind_some, e, e2]
theorem F_set (μ : Mem) (xs ys : List MV) : (F' μ xs).set μ.length (.lst ys) = F' μ ys := by
  unfold F'
  rw [List.set_append_right _ _ (Nat.le_refl _), Nat.sub_self]; rfl
theorem F_asg (μ : Mem) {n : Nat} (c : Nat → Rat) {u : Nat} (h : u < n) (x : Rat) : asgIx (F' μ (rv n c)) (.loc μ.length) (.int u) (fr x) = some (F' μ (rv n (fset c u x))) := by
  have h' : L2.ixN (rv n c).length (u : Int) = some u := by
    rw [rv_len]
    have : (u : Int) < n := by omega
    simp [L2.ixN, this]
  simp only [asgIx, F_at, h', Option.map_some, F_set, rv_set]
theorem F_app (μ : Mem) (xs : List MV) (v : MV) (h : xs.length < 1000) : evMe (F' μ xs) .append (.loc μ.length) [v] = some (.non, F' μ (xs ++ [v])) := by
  have : xs.length < most := by simp [most]; omega
  simp only [evMe, F_at, this, if_true, F_set]
theorem foldl_sm : ∀ (qs : List Rat) (acc : Rat), qs.foldl (· + ·) acc = acc + sm qs id
  | [], acc => by simp [sm]; grind
  | q :: qs, acc => by rw [List.foldl_cons, foldl_sm qs, sm]; simp only [id]; grind
/-- partial sums of drawn strengths -/
theorem Ch_of : ∀ (qs : List Rat) (acc : Rat) (j : Nat), Bd (21 * j) (20 * j) acc → (∀ q ∈ qs, Bd 20 20 q) → j + qs.length ≤ 45 → Ch acc qs
  | [], _, _, _, _, _ => trivial
  | q :: qs, acc, j, h, hq, hl => by
    simp only [List.length_cons] at hl
    have hb := hq q List.mem_cons_self
    exact ⟨⟨_, _, _, _, h, hb, by omega, by omega, by omega⟩, Ch_of qs (acc + q) (j + 1) ((h.add hb (21 * j + 20) (20 * j + 20) (by omega) (by omega) (by omega)).mono (by omega) (by omega)) (fun r hr => hq r (List.mem_cons_of_mem _ hr)) (by omega)⟩
theorem wt_bd {ws : List Wr} (hq : ∀ w ∈ ws, Bd 20 20 w.q) (u : Nat) : Bd (21 * ws.length) (20 * ws.length) (wt ws u) := by
  unfold wt
  induction ws with
  | nil => exact Bd0
  | cons w l ih =>
    have h := ih fun v hv => hq v (List.mem_cons_of_mem _ hv)
    have hb := hq w List.mem_cons_self
    rw [sm, List.length_cons]
    by_cases e : w.a = u ∨ w.b = u
    · rw [if_pos e]
      exact (hb.add h (20 + 21 * l.length) (20 + 20 * l.length) (by omega) (by omega) (by omega)).mono (by omega) (by omega)
    · rw [if_neg e, Rat.zero_add]
      exact h.mono (by omega) (by omega)
theorem sm_wat (ws : List Wr) (u : Nat) : sm ((wat ws u).map (·.q)) id = wt ws u := by
  rw [sm_map]
  unfold wat wt
  rw [sm_filter]
  exact sm_congr fun w _ => by simp
/-! ### wires at nodes -/
/-- the numbers of the wires at a node -/
def ixs : List Wr → Nat → Nat → List Nat
  | [], _, _ => []
  | w :: ws, k, u => (if w.a = u ∨ w.b = u then [k] else []) ++ ixs ws (k + 1) u
theorem ixs_len : ∀ (ws : List Wr) (k u : Nat), (ixs ws k u).length ≤ ws.length
  | [], _, _ => Nat.le_refl _
  | w :: ws, k, u => by
    have := ixs_len ws (k + 1) u
    rw [ixs, List.length_append, List.length_cons]
    split <;> simp <;> omega
theorem ixs_lt : ∀ {ws : List Wr} {k u i : Nat}, i ∈ ixs ws k u → k ≤ i ∧ i < k + ws.length
  | [], _, _, _, h => by simp [ixs] at h
  | w :: ws, k, u, i, h => by
    rw [ixs] at h
    rcases List.mem_append.mp h with h | h
    · split at h
      · simp at h; subst h; simp
      · simp at h
    · have := ixs_lt h
      simp only [List.length_cons]
      omega
theorem ixs_map {β : Type} (f : Wr → β) (d : β) (all : List Wr) : ∀ (ws pre : List Wr) (u : Nat), all = pre ++ ws → (ixs ws pre.length u).map (fun i => (all[i]?.map f).getD d) = (wat ws u).map f
  | [], _, _, _ => rfl
  | w :: ws, pre, u, h => by
    have ih := ixs_map f d all ws (pre ++ [w]) u (by rw [h]; simp)
    rw [List.length_append, List.length_singleton] at ih
    have hw : all[pre.length]? = some w := by rw [h]; simp
    rw [ixs, List.map_append, ih]
    unfold wat
    rw [List.filter_cons]
    by_cases e : w.a = u ∨ w.b = u
    · simp [e, hw]
    · simp [e]
def locs (μ : Mem) (n : Nat) : List MV := (List.range n).map fun i => .loc (μ.length + i)
def WM (μ : Mem) (n : Nat) (f : Nat → List Nat) : Mem := μ ++ ((List.range n).map (fun i => MO.lst (iv (f i))) ++ [.lst (locs μ n)])
section
variable (μ : Mem) {n : Nat} (f : Nat → List Nat)
theorem WM_at {i : Nat} (h : i < n) : (WM μ n f)[μ.length + i]? = some (.lst (iv (f i))) := by
  unfold WM
  rw [List.getElem?_append_right (by omega), show μ.length + i - μ.length = i by omega, List.getElem?_append_left (by simpa using h), List.getElem?_map, List.getElem?_range h]
  rfl
theorem WM_top : (WM μ n f)[μ.length + n]? = some (.lst (locs μ n)) := by
  unfold WM
  rw [List.getElem?_append_right (by omega), show μ.length + n - μ.length = n by omega, List.getElem?_append_right (by simp)]
  simp
theorem WM_ix {i : Nat} (h : i < n) : evIdx (WM μ n f) (.loc (μ.length + n)) (.int i) = some (.loc (μ.length + i)) := by
  have h' : i < (locs μ n).length := by simpa [locs] using h
  have e := atI_nat h'
  have e2 : (locs μ n)[i] = .loc (μ.length + i) := by simp [locs]
  simp only [evIdx, dcOf, sqOf, WM_top, Option.bind_some, e, e2]
theorem WM_ls {i : Nat} (h : i < n) : lsOf (WM μ n f) (.loc (μ.length + i)) = some (iv (f i)) := by simp only [lsOf, WM_at μ f h]
theorem WM_app {i : Nat} (h : i < n) (k : Nat) (hl : (f i).length < 1000) : evMe (WM μ n f) .append (.loc (μ.length + i)) [.int k] = some (.non, WM μ n (fset f i (f i ++ [k]))) := by
  have hl' : (iv (f i)).length < most := by simp [most]; omega
  simp only [evMe, WM_at μ f h, hl', if_true]
  congr 2
  unfold WM
  rw [List.set_append_right _ _ (by omega), show μ.length + i - μ.length = i by omega, List.set_append_left _ _ (by simpa using h)]
  congr 2
  refine List.ext_getElem? fun m => ?_
  rw [List.getElem?_set]
  simp only [List.getElem?_map, List.length_map, List.length_range]
  unfold fset
  by_cases hm : i = m
  · subst hm
    simp [h, iv]
  · rw [if_neg hm]
    by_cases hm2 : m < n
    · rw [List.getElem?_range hm2]; simp [Ne.symm hm]
    · rw [List.getElem?_eq_none (by simp; omega)]; rfl
theorem WM_take : (WM μ n f).take μ.length = μ := by unfold WM; simp
end
theorem lcm_push {step : MV → Mem → R (Option MV)} (h : ∀ (k : Nat) (μ : Mem), step (.int k) μ = some (.ok (some (.loc μ.length)), μ ++ [.lst []])) : ∀ (ks : List Nat) (acc : List MV) (μ : Mem), acc.length + ks.length < most →
    lcmL [] step (iv ks) acc μ = some (.ok (acc ++ (List.range ks.length).map fun i => .loc (μ.length + i)), μ ++ List.replicate ks.length (.lst []))
  | [], acc, μ, _ => by simp [lcmL, gdOk]
  | k :: ks, acc, μ, hl => by
    simp only [List.length_cons] at hl
    rw [iv, List.map_cons, lcmL, if_pos ⟨rfl, by omega⟩, h]
    show lcmL [] step (iv ks) (acc ++ [.loc μ.length]) (μ ++ [.lst []]) = _
    rw [lcm_push h ks _ _ (by simp; omega)]
    have q1 : (μ ++ [MO.lst []]) ++ List.replicate ks.length (MO.lst []) = μ ++ List.replicate (k :: ks).length (MO.lst []) := by simp [List.replicate_succ]
    have q2 : (acc ++ [MV.loc μ.length]) ++ (List.range ks.length).map (fun i => MV.loc ((μ ++ [MO.lst []]).length + i)) = acc ++ (List.range (k :: ks).length).map fun i => MV.loc (μ.length + i) := by
      rw [List.append_assoc, List.length_cons, List.range_succ_eq_map]
      simp [List.map_map, Function.comp_def, Nat.add_assoc, Nat.add_comm 1]
    rw [q1, q2]
abbrev waB : SS := (.cons (.ex (.mth .append (.idx (.var 1) (.idx (.var 3) (.con (.int 0)))) (.cons (.var 2) .nil))) (.cons (.ex (.mth .append (.idx (.var 1) (.idx (.var 3) (.con (.int 1)))) (.cons (.var 2) .nil))) .nil))
theorem wa_step (W : Wd) (μ : Mem) {n : Nat} (f : Nat → List Nat) (w : Wr) (k : Nat) (h : w.a < w.b ∧ w.b < n) (hl : ∀ u, (f u).length < 900) (x : MV) (o2 o3 o4 : Option MV) :
    stp W (.tp (.cons (.nm 2) (.cons (.nm 3) .nil))) waB (.tup [.int k, wv w]) [some x, some (.loc (μ.length + n)), o2, o3, o4] (WM μ n f) = some (.nxt [some x, some (.loc (μ.length + n)), some (.int k), some (wv w), o4], WM μ n fun u => f u ++ (if w.a = u ∨ w.b = u then [k] else [])) := by
  have i0 : ∀ μ, evIdx μ (wv w) (.int 0) = some (.int w.a) := fun μ => ix30 _ _ _ _
  have i1 : ∀ μ, evIdx μ (wv w) (.int 1) = some (.int w.b) := fun μ => ix31 _ _ _ _
  have a1 := WM_ix μ f (show w.a < n by omega)
  have a2 := WM_ls μ f (show w.a < n by omega)
  have a3 := WM_app μ f (show w.a < n by omega) k (by have := hl w.a; omega)
  have b1 := WM_ix μ (fset f w.a (f w.a ++ [k])) h.2
  have b2 := WM_ls μ (fset f w.a (f w.a ++ [k])) h.2
  have hfb : fset f w.a (f w.a ++ [k]) w.b = f w.b := by unfold fset; rw [if_neg (by omega)]
  have b3 := WM_app μ (fset f w.a (f w.a ++ [k])) h.2 k (by rw [hfb]; have := hl w.b; omega)
  rw [hfb] at b3
  have e : fset (fset f w.a (f w.a ++ [k])) w.b (f w.b ++ [k]) = fun u => f u ++ (if w.a = u ∨ w.b = u then [k] else []) := by
    funext u
    unfold fset
    by_cases hb : u = w.b
    · subst hb; simp
    · by_cases ha : u = w.a
      · subst ha; simp [hb]
      · simp [ha, hb, Ne.symm ha, Ne.symm hb]
  rw [e] at b3
  generalize WM μ n (fset f w.a (f w.a ++ [k])) = M1 at *
  generalize WM μ n f = M0 at *
  generalize (WM μ n fun u => f u ++ (if w.a = u ∨ w.b = u then [k] else [])) = M2 at *
  generalize wv w = v at *
  simp only [stp]
  simp (implicitDefEqProofs := false) [execs, exec, ev, evs, evIt, asg, asgs, asgK, evCmp, ltD_int, outc, most, evBin, bopI, isCls, isCl, blO, intO, dat_int, eqv_int, gc_int, gc_bl, gc_fr, fx0, fx1, i0, i1, a1, a2, a3, b1, b2, b3]
theorem wa_for (W : Wd) (μ : Mem) {n : Nat} (x : MV) (o4 : Option MV) : ∀ (ws : List Wr) (f : Nat → List Nat) (k : Nat) (o2 o3 : Option MV), WN n ws → (∀ u, (f u).length + ws.length < 900) →
    ∃ o2' o3', forL [] (stp W (.tp (.cons (.nm 2) (.cons (.nm 3) .nil))) waB) (enumF k (ws.map wv)) [some x, some (.loc (μ.length + n)), o2, o3, o4] (WM μ n f) = some (.nxt [some x, some (.loc (μ.length + n)), o2', o3', o4], WM μ n fun u => f u ++ ixs ws k u)
  | [], f, k, o2, o3, _, _ => ⟨o2, o3, by
    rw [List.map_nil, enumF, forL_nil rfl]
    simp [ixs]⟩
  | w :: ws, f, k, o2, o3, hw, hl => by
    have h := hw w List.mem_cons_self
    have e1 := wa_step W μ f w k ⟨h.1, h.2.1⟩ (fun u => by have := hl u; omega) x o2 o3 o4
    obtain ⟨p2, p3, e2⟩ := wa_for W μ x o4 ws (fun u => f u ++ (if w.a = u ∨ w.b = u then [k] else [])) (k + 1) (some (.int k)) (some (wv w)) (fun v hv => hw v (List.mem_cons_of_mem _ hv)) (fun u => by
      have := hl u
      simp only [List.length_cons, List.length_append] at this ⊢
      split <;> simp <;> omega)
    refine ⟨p2, p3, ?_⟩
    rw [List.map_cons, enumF]
    refine (forL_nxt rfl e1).trans (e2.trans ?_)
    simp only [ixs, List.append_assoc]
end MI
end
section
set_option Elab.async false
set_option linter.all false
set_option maxRecDepth 100000
set_option maxHeartbeats 4000000
set_option exponentiation.threshold 20000
namespace MI
open PySem PySem.Spec PyProof.Rows L2
def waS0 : S := (.asg (.nm 1) (.chg (.lcm [4] (.rng (.cons (.idx (.var 0) (.con (.int 0))) .nil)) (.nm 4) (.con (.bl true)) (.chg (.lst .nil)))))
def waS1 : S := (.fr (.tp (.cons (.nm 2) (.cons (.nm 3) .nil))) (.enu (.idx (.var 0) (.con (.int 2)))) (.cons (.ex (.mth .append (.idx (.var 1) (.idx (.var 3) (.con (.int 0)))) (.cons (.var 2) .nil))) (.cons (.ex (.mth .append (.idx (.var 1) (.idx (.var 3) (.con (.int 1)))) (.cons (.var 2) .nil))) .nil)))
def waS2 : S := (.ret (.var 1))
def waS : SS := (.cons waS0 (.cons waS1 (.cons waS2 .nil)))
def lwS0 : S := (.asg (.nm 1) (.chg (.bin .mul (.lst (.cons (.tup (.cons (.con (.int 0)) (.cons (.con (.int 1)) .nil))) .nil)) (.idx (.var 0) (.con (.int 0))))))
def lwS1 : S := (.fr (.tp (.cons (.nm 2) (.cons (.nm 3) (.cons (.nm 4) .nil)))) (.seq (.idx (.var 0) (.con (.int 2)))) (.cons (.asg (.tp (.cons (.ix (.var 1) (.var 2)) (.cons (.ix (.var 1) (.var 3)) .nil))) (.tup (.cons (.app false 28 (.cons (.lst (.cons (.idx (.var 1) (.var 2)) (.cons (.var 4) .nil))) .nil) []) (.cons (.app false 28 (.cons (.lst (.cons (.idx (.var 1) (.var 3)) (.cons (.var 4) .nil))) .nil) []) .nil)))) .nil))
def lwS2 : S := (.ret (.var 1))
def lwS : SS := (.cons lwS0 (.cons lwS1 (.cons lwS2 .nil)))
theorem lt_most {n : Nat} (h : n ≤ 1000000) : n < most := by unfold most; omega
theorem nv0 (μ : Mem) (n p : Nat) (ws : List Wr) : evIdx μ (nv n p ws) (.int 0) = some (.int n) := ix30 _ _ _ _
theorem nv1 (μ : Mem) (n p : Nat) (ws : List Wr) : evIdx μ (nv n p ws) (.int 1) = some (.int p) := ix31 _ _ _ _
theorem nv2 (μ : Mem) (n p : Nat) (ws : List Wr) : evIdx μ (nv n p ws) (.int 2) = some (.tup (ws.map wv)) := ix32 _ _ _ _
theorem rds_mapM {α : Type} {lk : Nat → Option MV} {f g : α → MV} : ∀ {l : List α}, (∀ a ∈ l, MV.rd lk (f a) = some (g a)) → MV.rds lk (l.map f) = some (l.map g)
  | [], _ => rfl
  | a :: l, h => by simp [MV.rds, h a List.mem_cons_self, rds_mapM fun b hb => h b (List.mem_cons_of_mem _ hb)]
theorem gc_WM {μ : Mem} {n : Nat} (f : Nat → List Nat) : gc μ.length μ (some (.ok (.loc (μ.length + n)), WM μ n f)) = some (.ok (.lv ((List.range n).map fun i => .lv (iv (f i)))), μ) := by
  have r : frz μ.length (WM μ n f) (.loc (μ.length + n)) = some (.lv ((List.range n).map fun i => .lv (iv (f i)))) := by
    unfold frz
    rw [MV.rd]
    refine look_lst (by omega) (WM_top μ f) ?_
    refine rds_mapM fun i hi => ?_
    rw [MV.rd]
    exact look_lst (by omega) (WM_at μ f (List.mem_range.mp hi)) (rds_noL (noL_ivs _))
  simp only [gc, WM_take, gcOk_self, if_true, r, Option.map_some]
theorem rep_rng {α : Type} (x : α) (n : Nat) : List.replicate n x = (List.range n).map fun _ => x := by
  refine List.ext_getElem? fun m => ?_
  by_cases hm : m < n
  · simp [hm]
  · rw [List.getElem?_eq_none (by simp; omega), List.getElem?_eq_none (by simp; omega)]
theorem r_wires_at (d : Nat) {n p : Nat} {ws : List Wr} (hn : n ≤ 100) (hw : WN n ws) (hl : ws.length ≤ 100) (μ : Mem) : gc μ.length μ (den subT fldT none prT (d + 1) none 12 [nv n p ws] μ) = some (.ok (.lv ((List.range n).map fun i => .lv (iv (ixs ws 0 i)))), μ) := by
  rw [den_at (F := ⟨1, 5, b_wires_at⟩) rfl rfl (by decide)]
  have e0 : exec (wdAt subT fldT none prT d none) waS0 [some (nv n p ws), none, none, none, none] μ = some (.nxt [some (nv n p ws), some (.loc (μ.length + n)), none, none, none], WM μ n fun _ => []) := by
    have hr := rng_iv (show n ≤ 1000 by omega)
    have q := lcm_push (step := lcS (wdAt subT fldT none prT d none) [4] (.nm 4) (.con (.bl true)) (.chg (.lst .nil)) [some (nv n p ws), none, none, none, none]) (fun k μ => by simp (implicitDefEqProofs := false) [execs, exec, ev, evs, evIt, asg, asgs, asgK, evCmp, ltD_int, outc, most, evBin, bopI, isCls, isCl, blO, intO, dat_int, eqv_int, gc_int, gc_bl, gc_fr, fx0, fx1, lcS, wipe]) (List.range n) [] μ (by simp [most]; omega)
    have e := lcm_ev (it := .rng (.cons (.idx (.var 0) (.con (.int 0))) .nil)) (gd := []) (xs := iv (List.range n)) (μ := μ) (by
      generalize iv (List.range n) = r at *
      simp (implicitDefEqProofs := false) [execs, exec, ev, evs, evIt, asg, asgs, asgK, evCmp, ltD_int, outc, most, evBin, bopI, isCls, isCl, blO, intO, dat_int, eqv_int, gc_int, gc_bl, gc_fr, fx0, fx1, nv0, hr]) q
    unfold waS0
    generalize (E.lcm _ _ _ _ _) = X at e ⊢
    have hM : μ ++ List.replicate (List.range n).length (MO.lst []) ++ [MO.lst ((List.range (List.range n).length).map fun i => MV.loc (μ.length + i))] = WM μ n fun _ => [] := by
      unfold WM locs
      rw [rep_rng, List.append_assoc, List.length_range]
      rfl
    rw [List.nil_append] at e
    have hL : (μ ++ List.replicate (List.range n).length (MO.lst [])).length = μ.length + n := by simp
    clear q hr
    generalize (WM μ n fun _ => []) = C at *
    generalize (List.range (List.range n).length).map (fun i => MV.loc (μ.length + i)) = A at *
    generalize μ ++ List.replicate (List.range n).length (MO.lst []) = B at *
    generalize μ.length + n = L at *
    simp (implicitDefEqProofs := false) [execs, exec, ev, evs, evIt, asg, asgs, asgK, evCmp, ltD_int, outc, most, evBin, bopI, isCls, isCl, blO, intO, dat_int, eqv_int, gc_int, gc_bl, gc_fr, fx0, fx1, e, hL, hM]
  obtain ⟨o2, o3, e1⟩ := wa_for (wdAt subT fldT none prT d none) μ (nv n p ws) none ws (fun _ => []) 0 none none hw (fun u => by simp; omega)
  have e1 : exec (wdAt subT fldT none prT d none) waS1 [some (nv n p ws), some (.loc (μ.length + n)), none, none, none] (WM μ n fun _ => []) = _ := (fr_ev (g := .tp (.cons (.nm 2) (.cons (.nm 3) .nil))) (b := waB) (show evIt (wdAt subT fldT none prT d none) (.enu (.idx (.var 0) (.con (.int 2)))) [some (nv n p ws), some (.loc (μ.length + n)), none, none, none] (WM μ n fun _ => []) = some (.ok (enumF 0 (ws.map wv), []), WM μ n fun _ => []) by
    have i2 := nv2 (WM μ n fun _ => []) n p ws
    generalize (WM μ n fun _ => []) = C at *
    generalize nv n p ws = N at *
    simp (implicitDefEqProofs := false) [execs, exec, ev, evs, evIt, asg, asgs, asgK, evCmp, ltD_int, outc, most, evBin, bopI, isCls, isCl, blO, intO, dat_int, eqv_int, gc_int, gc_bl, gc_fr, fx0, fx1, i2, sqOf, gdOf])).trans e1
  have e2 : ∀ μ', exec (wdAt subT fldT none prT d none) waS2 [some (nv n p ws), some (.loc (μ.length + n)), o2, o3, none] μ' = some (.ret (.loc (μ.length + n)), μ') := fun μ' => by simp (implicitDefEqProofs := false) [execs, exec, ev, evs, evIt, asg, asgs, asgK, evCmp, ltD_int, outc, most, evBin, bopI, isCls, isCl, blO, intO, dat_int, eqv_int, gc_int, gc_bl, gc_fr, fx0, fx1, waS2]
  show gc _ _ (outc (execs (wdAt subT fldT none prT d none) waS [some (nv n p ws), none, none, none, none] μ)) = _
  unfold waS
  rw [execs, e0, seqK_nxt, execs, e1, seqK_nxt, execs, e2, seqK_ret]
  refine (gc_WM _).trans ?_
  simp
abbrev woI : E := .lcm [2] (.seq (.var 1)) (.nm 2) (.con (.bl true)) (.idx (.idx (.idx (.var 0) (.con (.int 2))) (.var 2)) (.con (.int 2)))
abbrev woO : E := .app false 8 (.cons woI .nil) []
theorem wo_in (W : Wd) (n p : Nat) (ws : List Wr) (hl : ws.length ≤ 40) (u : Nat) (μ : Mem) : ev W woI [some (nv n p ws), some (.lv (iv (ixs ws 0 u))), none] μ = some (.ok (.lv (((wat ws u).map (·.q)).map fr)), μ) := by
  have z := lcm_iv (gd := []) (μ := μ) (step := lcS W [2] (.nm 2) (.con (.bl true)) (.idx (.idx (.idx (.var 0) (.con (.int 2))) (.var 2)) (.con (.int 2))) [some (nv n p ws), some (.lv (iv (ixs ws 0 u))), none]) rfl (ixs ws 0 u) (fun i => fr ((ws[i]?.map (·.q)).getD 1)) (by have := ixs_len ws 0 u; omega) (fun i hi => by
    have hi' := (ixs_lt hi).2
    rw [Nat.zero_add] at hi'
    have i2 := nv2 μ n p ws
    have i3 := ixt_nat μ (show i < (ws.map wv).length by simpa using hi')
    simp only [List.getElem_map] at i3
    have i4 : evIdx μ (wv ws[i]) (.int 2) = some (fr ws[i].q) := wx2 _ _ _ _
    have i5 : (ws[i]?.map (·.q)).getD 1 = ws[i].q := by simp [hi']
    rw [i5]
    generalize nv n p ws = N at *
    generalize iv (ixs ws 0 u) = I at *
    simp (implicitDefEqProofs := false) [execs, exec, ev, evs, evIt, asg, asgs, asgK, evCmp, ltD_int, outc, most, evBin, bopI, isCls, isCl, blO, intO, dat_int, eqv_int, gc_int, gc_bl, gc_fr, fx0, fx1, lcS, wipe, i2, i3, i4])
  have z2 := ixs_map (·.q) (1 : Rat) ws ws [] u rfl
  have z3 : (ixs ws 0 u).map (fun i => fr ((ws[i]?.map (·.q)).getD 1)) = ((wat ws u).map (·.q)).map fr := by
    rw [← z2, List.map_map]; rfl
  rw [z3] at z
  refine lcm_ev (xs := iv (ixs ws 0 u)) (gd := []) (μ1 := μ) ?_ z
  generalize iv (ixs ws 0 u) = I at *
  simp (implicitDefEqProofs := false) [execs, exec, ev, evs, evIt, asg, asgs, asgK, evCmp, ltD_int, outc, most, evBin, bopI, isCls, isCl, blO, intO, dat_int, eqv_int, gc_int, gc_bl, gc_fr, fx0, fx1, sqOf, gdOf]
theorem wo_step (d : Nat) (n p : Nat) (ws : List Wr) (hb : ∀ w ∈ ws, Bd 20 20 w.q) (hl : ws.length ≤ 40) (u : Nat) (μ : Mem) : lcS (wdAt subT fldT none prT (d + 4) none) [1] (.nm 1) (.con (.bl true)) woO [some (nv n p ws), none, none] (.lv (iv (ixs ws 0 u))) μ = some (.ok (some (fr (wt ws u))), μ) := by
  have e1 := wo_in (wdAt subT fldT none prT (d + 4) none) n p ws hl u μ
  have hc := Ch_of ((wat ws u).map (·.q)) 0 0 Bd0 (fun q hq => by
    obtain ⟨w, hw', rfl⟩ := List.mem_map.mp hq
    exact hb w (List.mem_filter.mp hw').1) (by
      have : (wat ws u).length ≤ ws.length := List.length_filter_le _ _
      rw [List.length_map]; omega)
  have e2 := r_rtotal d (.lv (((wat ws u).map (·.q)).map fr)) ((wat ws u).map (·.q)) μ rfl rfl hc
  rw [foldl_sm, sm_wat, Rat.zero_add] at e2
  unfold woO
  generalize woI = X at e1 ⊢
  generalize ((wat ws u).map (·.q)).map fr = B at *
  generalize nv n p ws = N at *
  generalize iv (ixs ws 0 u) = I at *
  generalize wt ws u = V at *
  simp (implicitDefEqProofs := false) [execs, exec, ev, evs, evIt, asg, asgs, asgK, evCmp, ltD_int, outc, most, evBin, bopI, isCls, isCl, blO, intO, dat_int, eqv_int, gc_int, gc_bl, gc_fr, fx0, fx1, lcS, wipe, e1, e2]
end MI
end
section
set_option Elab.async false
set_option linter.all false
set_option maxRecDepth 100000
set_option maxHeartbeats 4000000
set_option exponentiation.threshold 20000
namespace MI
open PySem PySem.Spec PyProof.Rows L2
theorem r_weights_of (d : Nat) {n p : Nat} {ws : List Wr} (hn : n ≤ 100) (hw : WN n ws) (hb : ∀ w ∈ ws, Bd 20 20 w.q) (hl : ws.length ≤ 40) (μ : Mem) : den subT fldT none prT (d + 5) none 13 [nv n p ws] μ = some (.ok (.lv (rv n (wt ws))), μ) := by
  rw [den_at (F := ⟨1, 3, b_weights_of⟩) rfl rfl (by decide)]
  have ew := r_wires_at (d + 3) (p := p) hn hw (by omega) μ
  have q := lcmL_gen (f := fun i => MV.lv (iv (ixs ws 0 i))) (g := fun u => some (fr (wt ws u))) (gd := []) (μ := μ) (step := lcS (wdAt subT fldT none prT (d + 4) none) [1] (.nm 1) (.con (.bl true)) woO [some (nv n p ws), none, none]) rfl (List.range n) [] (fun u hu => wo_step d n p ws hb hl u μ) (lt_most (by simp (implicitDefEqProofs := false); omega))
  have e := lcm_ev (W := wdAt subT fldT none prT (d + 4) none) (it := .seq (.app false 12 (.cons (.var 0) .nil) [])) (ρ := [some (nv n p ws), none, none]) (xs := (List.range n).map fun i => MV.lv (iv (ixs ws 0 i))) (gd := []) (μ := μ) (by
    generalize nv n p ws = N at *
    generalize (List.range n).map (fun i => MV.lv (iv (ixs ws 0 i))) = L at *
    simp (implicitDefEqProofs := false) [execs, exec, ev, evs, evIt, asg, asgs, asgK, evCmp, ltD_int, outc, most, evBin, bopI, isCls, isCl, blO, intO, dat_int, eqv_int, gc_int, gc_bl, gc_fr, fx0, fx1, ew, sqOf, gdOf]) q
  have hx : [] ++ (List.range n).filterMap (fun u => some (fr (wt ws u))) = rv n (wt ws) := by rw [List.nil_append, List.filterMap_eq_map']; rfl
  rw [hx] at e
  show outc (execs (wdAt subT fldT none prT (d + 4) none) (.cons (.ret (.lcm [1] (.seq (.app false 12 (.cons (.var 0) .nil) [])) (.nm 1) (.con (.bl true)) woO)) .nil) [some (nv n p ws), none, none] μ) = _
  rw [execs, exec, e]
  rw [thenE_ok, seqK_ret, outc]
theorem r_node_weights (d : Nat) {n p : Nat} {ws : List Wr} (g : Good n p ws) (μ : Mem) : den subT fldT none prT (d + 6) none 14 [nv n p ws] μ = some (.ok (.tup (rv n (wt ws))), μ) := by
  rw [den_at (F := ⟨1, 1, b_node_weights⟩) rfl rfl (by decide)]
  have e1 := r_need_net d g μ
  have g1 := gc_same (μ := μ) (noL_nv n p ws)
  have e2 := r_weights_of d (p := p) (show n ≤ 100 by have := g.hn; omega) (fun w hw => ⟨(g.ok w hw).1, (g.ok w hw).2.1, (g.ok w hw).2.2.1⟩) (fun w hw => (g.ok w hw).2.2.2) g.hw μ
  have g2 := gc_same (μ := μ) (v := .lv (rv n (wt ws))) (by simp only [MV.noL, noL_rv])
  generalize nv n p ws = N at *
  generalize rv n (wt ws) = R at *
  simp (implicitDefEqProofs := false) [execs, exec, ev, evs, evIt, asg, asgs, asgK, evCmp, ltD_int, outc, most, evBin, bopI, isCls, isCl, blO, intO, dat_int, eqv_int, gc_int, gc_bl, gc_fr, fx0, fx1, b_node_weights, e1, g1, e2, g2, bi_tup]
/-! the law's weights -/
theorem flat_rep {α : Type} (x : α) : ∀ n : Nat, (List.replicate n [x]).flatten = List.replicate n x
  | 0 => rfl
  | n + 1 => by rw [List.replicate_succ, List.replicate_succ, List.flatten_cons, flat_rep x n]; rfl
abbrev lwB : SS := (.cons (.asg (.tp (.cons (.ix (.var 1) (.var 2)) (.cons (.ix (.var 1) (.var 3)) .nil))) (.tup (.cons (.app false 28 (.cons (.lst (.cons (.idx (.var 1) (.var 2)) (.cons (.var 4) .nil))) .nil) []) (.cons (.app false 28 (.cons (.lst (.cons (.idx (.var 1) (.var 3)) (.cons (.var 4) .nil))) .nil) []) .nil)))) .nil)
abbrev g234 : G := .tp (.cons (.nm 2) (.cons (.nm 3) (.cons (.nm 4) .nil)))
theorem r_lsum2 (d : Nat) {x y : Rat} (μ : Mem) {j : Nat} (hx : Bd (21 * j) (20 * j) x) (hy : Bd 20 20 y) (hj : j ≤ 42) : den subT fldT none prT (d + 3) none 28 [.lv [fr x, fr y]] μ = some (.ok (fr (x + y)), μ) := by
  have e := r_lsum d (.lv [fr x, fr y]) [x, y] μ rfl rfl ⟨⟨0, 0, 21 * j, 20 * j, Bd0, hx, by omega, by omega, by omega⟩, ⟨21 * j, 20 * j, 20, 20, by rw [Rat.zero_add]; exact hx, hy, by omega, by omega, by omega⟩, trivial⟩
  rw [e]
  simp [Rat.zero_add]
theorem wt_snoc (pre : List Wr) (w : Wr) (u : Nat) : wt (pre ++ [w]) u = wt pre u + if w.a = u ∨ w.b = u then w.q else 0 := by
  unfold wt
  rw [sm_app, sm, sm, Rat.add_zero]
theorem lw_step (d : Nat) (μ : Mem) {n : Nat} (pre : List Wr) (w : Wr) (h : w.a < w.b ∧ w.b < n) (hb : ∀ w ∈ pre, Bd 20 20 w.q) (hw : Bd 20 20 w.q) (hl : pre.length ≤ 40) (x : MV) (o2 o3 o4 : Option MV) :
    stp (wdAt subT fldT none prT (d + 3) none) g234 lwB (wv w) [some x, some (.loc μ.length), o2, o3, o4] (F' μ (rv n (wt pre))) = some (.nxt [some x, some (.loc μ.length), some (.int w.a), some (.int w.b), some (fr w.q)], F' μ (rv n (wt (pre ++ [w])))) := by
  have ia := F_ix μ (wt pre) (show w.a < n by omega)
  have ib := F_ix μ (wt pre) h.2
  have sa := r_lsum2 d (F' μ (rv n (wt pre))) (wt_bd hb w.a) hw (by omega)
  have sb := r_lsum2 d (F' μ (rv n (wt pre))) (wt_bd hb w.b) hw (by omega)
  have aa := F_asg μ (wt pre) (show w.a < n by omega) (wt pre w.a + w.q)
  have ab := F_asg μ (fset (wt pre) w.a (wt pre w.a + w.q)) h.2 (wt pre w.b + w.q)
  have e : rv n (fset (fset (wt pre) w.a (wt pre w.a + w.q)) w.b (wt pre w.b + w.q)) = rv n (wt (pre ++ [w])) := rv_congr fun u _ => by
    rw [wt_snoc]
    unfold fset
    by_cases hb : u = w.b
    · subst hb; simp
    · by_cases ha : u = w.a
      · subst ha; simp [hb]
      · simp [ha, hb, Ne.symm ha, Ne.symm hb, Rat.add_zero]
  rw [e] at ab
  generalize rv n (fset (wt pre) w.a (wt pre w.a + w.q)) = R1 at *
  generalize rv n (wt (pre ++ [w])) = R2 at *
  generalize rv n (wt pre) = R0 at *
  simp only [stp, wv, wr]
  generalize wt pre w.a + w.q = A at *
  generalize wt pre w.b + w.q = B at *
  simp (implicitDefEqProofs := false) [execs, exec, ev, evs, evIt, asg, asgs, asgK, evCmp, ltD_int, outc, most, evBin, bopI, isCls, isCl, blO, intO, dat_int, eqv_int, gc_int, gc_bl, gc_fr, fx0, fx1, ia, ib, sa, sb, aa, ab]
theorem lw_for (d : Nat) (μ : Mem) {n : Nat} (x : MV) : ∀ (ws pre : List Wr) (o2 o3 o4 : Option MV), WN n ws → (∀ w ∈ pre ++ ws, Bd 20 20 w.q) → pre.length + ws.length ≤ 40 →
    ∃ o2' o3' o4', forL [] (stp (wdAt subT fldT none prT (d + 3) none) g234 lwB) (ws.map wv) [some x, some (.loc μ.length), o2, o3, o4] (F' μ (rv n (wt pre))) = some (.nxt [some x, some (.loc μ.length), o2', o3', o4'], F' μ (rv n (wt (pre ++ ws))))
  | [], pre, o2, o3, o4, _, _, _ => ⟨o2, o3, o4, by rw [List.map_nil, forL_nil rfl, List.append_nil]⟩
  | w :: ws, pre, o2, o3, o4, hw, hb, hl => by
    simp only [List.length_cons] at hl
    have h := hw w List.mem_cons_self
    have e1 := lw_step d μ pre w ⟨h.1, h.2.1⟩ (fun v hv => hb v (List.mem_append_left _ hv)) (hb w (by simp)) (by omega) x o2 o3 o4
    obtain ⟨p2, p3, p4, e2⟩ := lw_for d μ x ws (pre ++ [w]) (some (.int w.a)) (some (.int w.b)) (some (fr w.q)) (fun v hv => hw v (List.mem_cons_of_mem _ hv)) (fun v hv => hb v (by simpa using hv)) (by simp; omega)
    refine ⟨p2, p3, p4, ?_⟩
    rw [List.map_cons]
    refine (forL_nxt rfl e1).trans (e2.trans ?_)
    rw [List.append_assoc]; rfl
theorem g_lweights (d : Nat) {n p : Nat} {ws : List Wr} (hn : n ≤ 100) (hw : WN n ws) (hb : ∀ w ∈ ws, Bd 20 20 w.q) (hl : ws.length ≤ 40) (μ : Mem) : gc μ.length μ (den subT fldT none prT (d + 4) none 34 [nv n p ws] μ) = some (.ok (.lv (rv n (wt ws))), μ) := by
  rw [den_at (F := ⟨1, 5, b__law_weights⟩) rfl rfl (by decide)]
  have e0 : exec (wdAt subT fldT none prT (d + 3) none) lwS0 [some (nv n p ws), none, none, none, none] μ = some (.nxt [some (nv n p ws), some (.loc μ.length), none, none, none], F' μ (rv n (wt []))) := by
    have h1 : (List.replicate n [fr 0]).flatten = rv n (wt []) := by
      refine List.ext_getElem? fun m => ?_
      rw [flat_rep]
      unfold rv
      by_cases hm : m < n
      · simp [hm, wt, sm]
      · rw [List.getElem?_eq_none (by simp; omega), List.getElem?_eq_none (by simp; omega)]
    have h2 : n ≤ 16000000 := by omega
    have h3 : ((n : Int) < 1152921504606846976) := by omega
    unfold F'
    generalize rv n (wt []) = R at *
    have i0 := nv0 μ n p ws
    generalize nv n p ws = N at *
    simp (implicitDefEqProofs := false) [execs, exec, ev, evs, evIt, asg, asgs, asgK, evCmp, ltD_int, outc, most, evBin, bopI, isCls, isCl, blO, intO, dat_int, eqv_int, gc_int, gc_bl, gc_fr, fx0, fx1, lwS0, i0, lsOf, h2, h3, fr0, h1]
  obtain ⟨o2, o3, o4, e1⟩ := lw_for d μ (n := n) (nv n p ws) ws [] none none none hw (by simpa using hb) (by simpa using hl)
  rw [List.nil_append] at e1
  have e1 : exec (wdAt subT fldT none prT (d + 3) none) lwS1 [some (nv n p ws), some (.loc μ.length), none, none, none] (F' μ (rv n (wt []))) = _ := (fr_ev (g := g234) (b := lwB) (show evIt (wdAt subT fldT none prT (d + 3) none) (.seq (.idx (.var 0) (.con (.int 2)))) [some (nv n p ws), some (.loc μ.length), none, none, none] (F' μ (rv n (wt []))) = some (.ok (ws.map wv, []), F' μ (rv n (wt []))) by
    have i2 := nv2 (F' μ (rv n (wt []))) n p ws
    generalize F' μ (rv n (wt [])) = C at *
    generalize nv n p ws = N at *
    simp (implicitDefEqProofs := false) [execs, exec, ev, evs, evIt, asg, asgs, asgK, evCmp, ltD_int, outc, most, evBin, bopI, isCls, isCl, blO, intO, dat_int, eqv_int, gc_int, gc_bl, gc_fr, fx0, fx1, i2, sqOf, gdOf])).trans e1
  have e2 : ∀ μ', exec (wdAt subT fldT none prT (d + 3) none) lwS2 [some (nv n p ws), some (.loc μ.length), o2, o3, o4] μ' = some (.ret (.loc μ.length), μ') := fun μ' => by simp (implicitDefEqProofs := false) [execs, exec, ev, evs, evIt, asg, asgs, asgK, evCmp, ltD_int, outc, most, evBin, bopI, isCls, isCl, blO, intO, dat_int, eqv_int, gc_int, gc_bl, gc_fr, fx0, fx1, lwS2]
  show gc _ _ (outc (execs (wdAt subT fldT none prT (d + 3) none) lwS [some (nv n p ws), none, none, none, none] μ)) = _
  unfold lwS
  rw [execs, e0, seqK_nxt, execs, e1, seqK_nxt, execs, e2, seqK_ret]
  exact gc_its (noL_rv _ _)
end MI
end
section
set_option Elab.async false
set_option linter.all false
set_option maxRecDepth 100000
set_option maxHeartbeats 4000000
set_option exponentiation.threshold 20000
namespace MI
open PySem PySem.Spec PyProof.Rows L2
def scS0 : S := (.asg (.nm 3) (.chg (.lcm [4, 9] (.zip (.var 2) (.var 1)) (.tp (.cons (.nm 4) (.cons (.nm 9) .nil))) (.con (.bl true)) (.ife (.cmp .eq (.var 9) (.con (.tup [(.int 0), (.int 1)]))) (.var 4) (.con (.tup [(.int 0), (.int 1)]))))))
def scS1 : S := (.fr (.tp (.cons (.nm 4) (.cons (.nm 5) (.cons (.nm 6) .nil)))) (.seq (.idx (.var 0) (.con (.int 2)))) (.cons (.asg (.nm 7) (.app false 7 (.cons (.app false 6 (.cons (.idx (.var 2) (.var 4)) (.cons (.var 6) .nil)) []) (.cons (.idx (.var 1) (.var 4)) .nil)) [])) (.cons (.asg (.nm 8) (.app false 7 (.cons (.app false 6 (.cons (.idx (.var 2) (.var 5)) (.cons (.var 6) .nil)) []) (.cons (.idx (.var 1) (.var 5)) .nil)) [])) (.cons (.asg (.ix (.var 3) (.var 5)) (.app false 5 (.cons (.idx (.var 3) (.var 5)) (.cons (.var 7) .nil)) [])) (.cons (.asg (.ix (.var 3) (.var 4)) (.app false 5 (.cons (.idx (.var 3) (.var 4)) (.cons (.var 8) .nil)) [])) .nil)))))
def scS2 : S := (.ret (.var 3))
def scS : SS := (.cons scS0 (.cons scS1 (.cons scS2 .nil)))
def caS0 : S := (.ex (.app false 11 (.cons (.var 0) .nil) []))
def caS1 : S := (.ex (.app false 15 (.cons (.var 0) (.cons (.var 1) .nil)) []))
def caS2 : S := (.ite (.nt (.app false 0 (.cons (.var 2) (.cons (.con (.int 0)) (.cons (.con (.int 60)) .nil))) [])) (.cons (.rai 3 (.var 2)) .nil) .nil)
def caS3 : S := (.asg (.nm 3) (.app false 13 (.cons (.var 0) .nil) []))
def caS4 : S := (.asg (.nm 4) (.lcm [6] (.rng (.cons (.idx (.var 0) (.con (.int 0))) .nil)) (.nm 6) (.con (.bl true)) (.ife (.cmp .eq (.var 6) (.var 1)) (.con (.tup [(.int 1), (.int 1)])) (.con (.tup [(.int 0), (.int 1)])))))
def caS5 : S := (.fr (.nm 5) (.rng (.cons (.var 2) .nil)) (.cons (.asg (.nm 4) (.app false 16 (.cons (.var 0) (.cons (.var 3) (.cons (.var 4) .nil))) [])) .nil))
def caS6 : S := (.ret (.blt .tup1 (.cons (.var 4) .nil)))
def caS : SS := (.cons caS0 (.cons caS1 (.cons caS2 (.cons caS3 (.cons caS4 (.cons caS5 (.cons caS6 .nil)))))))
theorem dat_fr (μ : Mem) (q : Rat) : dat μ (fr q) = some (.tuple [.int q.num, .int q.den]) := by
  simp [fr, dat, frz, MV.rd, MV.rds, MV.toD, MV.toDs, SeqAt.shaped, PyData.canLay0, PyData.canLayAll0, PyData.depth, PyData.depthAll]
theorem eqv_fr (p q : Rat) : PyData.eqv (.tuple [.int p.num, .int p.den]) (.tuple [.int q.num, .int q.den]) = decide (p = q) := by
  have h : PyData.eqv (.tuple [.int p.num, .int p.den]) (.tuple [.int q.num, .int q.den]) = (p.num == q.num && (p.den : Int) == q.den) := by simp [PyData.eqv, PyData.eqvAll]
  rw [h]
  by_cases e : p = q
  · subst e; simp
  · have : ¬ (p.num = q.num ∧ p.den = q.den) := fun z => e (Rat.ext z.1 z.2)
    simp only [e, decide_false, Bool.and_eq_false_iff, beq_eq_false_iff_ne]
    by_cases h1 : p.num = q.num
    · exact .inr fun h2 => this ⟨h1, by omega⟩
    · exact .inl h1
theorem cmp_fr (μ : Mem) (p q : Rat) : evCmp μ .eq (fr p) (fr q) = some (decide (p = q)) := by simp only [evCmp, dat_fr, Option.bind_some, Option.map_some, eqv_fr]
theorem ne_fr (μ : Mem) (p q : Rat) : evCmp μ .ne (fr p) (fr q) = some (!decide (p = q)) := by simp only [evCmp, dat_fr, Option.bind_some, Option.map_some, eqv_fr]
/-- a comprehension over a row, nothing changed -/
theorem ini_row (W : Wd) {n : Nat} (hn : n ≤ 100) (c : Nat → Rat) (ws : List Wr) (x : MV) (o3 o4 o5 o6 o7 o8 o9 : Option MV) (μ : Mem) : exec W scS0 [some x, some (.lv (rv n (wt ws))), some (.lv (rv n c)), o3, o4, o5, o6, o7, o8, o9] μ = some (.nxt [some x, some (.lv (rv n (wt ws))), some (.lv (rv n c)), some (.loc μ.length), o4, o5, o6, o7, o8, o9], F' μ (rv n (st0 ws c))) := by
  have q := lcmL_gen (f := fun u => MV.tup [fr (c u), fr (wt ws u)]) (g := fun u => some (fr (st0 ws c u))) (gd := []) (μ := μ) (step := lcS W [4, 9] (.tp (.cons (.nm 4) (.cons (.nm 9) .nil))) (.con (.bl true)) (.ife (.cmp .eq (.var 9) (.con (.tup [(.int 0), (.int 1)]))) (.var 4) (.con (.tup [(.int 0), (.int 1)]))) [some x, some (.lv (rv n (wt ws))), some (.lv (rv n c)), o3, o4, o5, o6, o7, o8, o9]) rfl (List.range n) [] (fun u hu => by
    have e1 := cmp_fr μ (wt ws u) 0
    unfold st0
    generalize rv n (wt ws) = R at *
    generalize rv n c = R' at *
    generalize wt ws u = V at *
    generalize c u = C at *
    by_cases h : V = 0
    · subst h
      simp only [decide_true] at e1
      simp (implicitDefEqProofs := false) [lcS, wipe, ev, asg, asgs, fr0, e1]
    · simp only [h, decide_false] at e1
      simp (implicitDefEqProofs := false) [lcS, wipe, ev, asg, asgs, fr0, e1, h]) (lt_most (by simp (implicitDefEqProofs := false); omega))
  have e := lcm_ev (W := W) (it := .zip (.var 2) (.var 1)) (ρ := [some x, some (.lv (rv n (wt ws))), some (.lv (rv n c)), o3, o4, o5, o6, o7, o8, o9]) (xs := (List.range n).map fun u => MV.tup [fr (c u), fr (wt ws u)]) (gd := []) (μ := μ) (by
    have hz : ((rv n c).zip (rv n (wt ws))).map (fun p => MV.tup [p.1, p.2]) = (List.range n).map fun u => MV.tup [fr (c u), fr (wt ws u)] := by
      unfold rv
      rw [List.zip_map', List.map_map]
      rfl
    have h2 : zipI μ (.lv (rv n c)) (.lv (rv n (wt ws))) = some ((List.range n).map fun u => MV.tup [fr (c u), fr (wt ws u)], []) := by
      rw [← hz]; rfl
    generalize rv n (wt ws) = R at *
    generalize rv n c = R' at *
    simp (implicitDefEqProofs := false) [execs, exec, ev, evs, evIt, asg, asgs, asgK, evCmp, ltD_int, outc, most, evBin, bopI, isCls, isCl, blO, intO, dat_int, eqv_int, gc_int, gc_bl, gc_fr, fx0, fx1, h2]) q
  have hx : [] ++ (List.range n).filterMap (fun u => some (fr (st0 ws c u))) = rv n (st0 ws c) := by rw [List.nil_append, List.filterMap_eq_map']; rfl
  rw [hx] at e
  unfold scS0
  rw [exec, ev, e]
  unfold F'
  generalize rv n (st0 ws c) = R0 at *
  simp (implicitDefEqProofs := false) [execs, exec, ev, evs, evIt, asg, asgs, asgK, evCmp, ltD_int, outc, most, evBin, bopI, isCls, isCl, blO, intO, dat_int, eqv_int, gc_int, gc_bl, gc_fr, fx0, fx1, ]
abbrev scB : SS := (.cons (.asg (.nm 7) (.app false 7 (.cons (.app false 6 (.cons (.idx (.var 2) (.var 4)) (.cons (.var 6) .nil)) []) (.cons (.idx (.var 1) (.var 4)) .nil)) [])) (.cons (.asg (.nm 8) (.app false 7 (.cons (.app false 6 (.cons (.idx (.var 2) (.var 5)) (.cons (.var 6) .nil)) []) (.cons (.idx (.var 1) (.var 5)) .nil)) [])) (.cons (.asg (.ix (.var 3) (.var 5)) (.app false 5 (.cons (.idx (.var 3) (.var 5)) (.cons (.var 7) .nil)) [])) (.cons (.asg (.ix (.var 3) (.var 4)) (.app false 5 (.cons (.idx (.var 3) (.var 4)) (.cons (.var 8) .nil)) [])) .nil))))
abbrev g456 : G := .tp (.cons (.nm 4) (.cons (.nm 5) (.cons (.nm 6) .nil)))
/-- the sizes of chances -/
structure Sz (n : Nat) (ws : List Wr) (D : Nat) (c : Nat → Rat) : Prop where
  wn : WN n ws
  bd : ∀ w ∈ ws, Bd 20 20 w.q
  le : ws.length ≤ 40
  hn : n ≤ 100
  cv : CV n D c
  d0 : 0 < D
  d1 : D ≤ 2 ^ 6000
  d2 : D * ddn n ws ≤ 2 ^ 6000
section
variable {n : Nat} {ws : List Wr} {D : Nat} {c : Nat → Rat} (z : Sz n ws D c)
include z
theorem Sz.c_bd {u : Nat} (hu : u < n) : Bd 6000 6000 (c u) := pt_bd ⟨z.cv.nn u hu, z.cv.le hu, z.cv.wh u hu⟩ z.d0 z.d1
theorem Sz.w_bd (u : Nat) : Bd 840 800 (wt ws u) := (wt_bd z.bd u).mono (by have := z.le; omega) (by have := z.le; omega)
theorem Sz.p_bd {x : Rat} (h : Pt (D * ddn n ws) x) : Bd 6000 6000 x := pt_bd h (Nat.mul_pos z.d0 (ddq_pos z.wn)) z.d2
theorem Sz.st_len {u : Nat} {w : Wr} (hw : w ∈ ws) (hu : w.a = u ∨ w.b = u) : wt ws u ≠ 0 := by
  have := (wt_pos z.wn hw hu).1
  grind
theorem sc_step (d : Nat) (μ : Mem) {pre post : List Wr} {w : Wr} (hws : ws = pre ++ w :: post) (x : MV) (o4 o5 o6 o7 o8 o9 : Option MV) :
    ∃ o4' o5' o6' o7' o8', stp (wdAt subT fldT none prT (d + 3) none) g456 scB (wv w) [some x, some (.lv (rv n (wt ws))), some (.lv (rv n c)), some (.loc μ.length), o4, o5, o6, o7, o8, o9] (F' μ (rv n fun v => st0 ws c v + sm pre (ct ws c v))) = some (.nxt [some x, some (.lv (rv n (wt ws))), some (.lv (rv n c)), some (.loc μ.length), o4', o5', o6', o7', o8', o9], F' μ (rv n fun v => st0 ws c v + sm (pre ++ [w]) (ct ws c v))) := by
  have hw : w ∈ ws := by rw [hws]; simp
  obtain ⟨h1, h2, h3⟩ := z.wn w hw
  have ha : w.a < n := by omega
  have hb := z.bd w hw
  have ja := fun μ => ix_rvl μ c ha
  have jb := fun μ => ix_rvl μ c h2
  have ka := fun μ => ix_rvl μ (wt ws) ha
  have kb := fun μ => ix_rvl μ (wt ws) h2
  have ta := fun μ => r_rtimes d μ (z.c_bd ha) hb (by omega) (by omega)
  have tb := fun μ => r_rtimes d μ (z.c_bd h2) hb (by omega) (by omega)
  have oa := fun μ => r_rover d μ ((z.c_bd ha).mul hb 6020 6020 (by omega) (by omega)) (z.w_bd w.a) (z.st_len hw (.inl rfl)) (by omega) (by omega)
  have ob := fun μ => r_rover d μ ((z.c_bd h2).mul hb 6020 6020 (by omega) (by omega)) (z.w_bd w.b) (z.st_len hw (.inr rfl)) (by omega) (by omega)
  have ea : c w.a * w.q / wt ws w.a = ct ws c w.b w := by unfold ct; rw [if_neg (by omega), if_pos rfl]
  have eb : c w.b * w.q / wt ws w.b = ct ws c w.a w := by unfold ct; rw [if_pos rfl]
  rw [ea] at oa
  rw [eb] at ob
  have e1 : ws = pre ++ (w :: post) := hws
  have sb := fun μ => r_rsum d μ (z.p_bd (pt_pre z.wn z.cv h2 e1)) (z.p_bd (pt_ct z.wn z.cv h2 hw)) (by omega) (by omega) (by omega)
  have sa := fun μ => r_rsum d μ (z.p_bd (pt_pre z.wn z.cv ha e1)) (z.p_bd (pt_ct z.wn z.cv ha hw)) (by omega) (by omega) (by omega)
  have ib := F_ix μ (fun v => st0 ws c v + sm pre (ct ws c v)) h2
  have ab := F_asg μ (fun v => st0 ws c v + sm pre (ct ws c v)) h2 (st0 ws c w.b + sm pre (ct ws c w.b) + ct ws c w.b w)
  have ia := F_ix μ (fset (fun v => st0 ws c v + sm pre (ct ws c v)) w.b (st0 ws c w.b + sm pre (ct ws c w.b) + ct ws c w.b w)) ha
  have hq : fset (fun v => st0 ws c v + sm pre (ct ws c v)) w.b (st0 ws c w.b + sm pre (ct ws c w.b) + ct ws c w.b w) w.a = st0 ws c w.a + sm pre (ct ws c w.a) := by unfold fset; rw [if_neg (by omega)]
  rw [hq] at ia
  have aa := F_asg μ (fset (fun v => st0 ws c v + sm pre (ct ws c v)) w.b (st0 ws c w.b + sm pre (ct ws c w.b) + ct ws c w.b w)) ha (st0 ws c w.a + sm pre (ct ws c w.a) + ct ws c w.a w)
  have e : rv n (fset (fset (fun v => st0 ws c v + sm pre (ct ws c v)) w.b (st0 ws c w.b + sm pre (ct ws c w.b) + ct ws c w.b w)) w.a (st0 ws c w.a + sm pre (ct ws c w.a) + ct ws c w.a w)) = rv n fun v => st0 ws c v + sm (pre ++ [w]) (ct ws c v) := rv_congr fun u _ => by
    rw [sm_app, sm, sm, Rat.add_zero]
    unfold fset
    by_cases hua : u = w.a
    · subst hua; simp; grind
    · by_cases hub : u = w.b
      · subst hub; simp [hua]; grind
      · simp only [hua, hub, if_false]
        have : ct ws c u w = 0 := by unfold ct; rw [if_neg (Ne.symm hua), if_neg (Ne.symm hub)]
        rw [this]; grind
  rw [e] at aa
  refine ⟨some (.int w.a), some (.int w.b), some (fr w.q), some (fr (ct ws c w.b w)), some (fr (ct ws c w.a w)), ?_⟩
  generalize rv n (fset (fun v => st0 ws c v + sm pre (ct ws c v)) w.b (st0 ws c w.b + sm pre (ct ws c w.b) + ct ws c w.b w)) = R1 at *
  generalize (rv n fun v => st0 ws c v + sm (pre ++ [w]) (ct ws c v)) = R2 at *
  generalize (rv n fun v => st0 ws c v + sm pre (ct ws c v)) = R0 at *
  generalize rv n (wt ws) = RW at *
  generalize rv n c = RC at *
  generalize st0 ws c w.a + sm pre (ct ws c w.a) + ct ws c w.a w = A2 at *
  generalize st0 ws c w.b + sm pre (ct ws c w.b) + ct ws c w.b w = B2 at *
  generalize st0 ws c w.a + sm pre (ct ws c w.a) = A1 at *
  generalize st0 ws c w.b + sm pre (ct ws c w.b) = B1 at *
  generalize ct ws c w.a w = CA at *
  generalize ct ws c w.b w = CB at *
  generalize wt ws w.a = VA at *
  generalize wt ws w.b = VB at *
  generalize c w.a = ca at *
  generalize c w.b = cb at *
  generalize ca * w.q = ta' at *
  generalize cb * w.q = tb' at *
  simp only [stp, wv, wr]
  simp (implicitDefEqProofs := false) [execs, exec, ev, evs, evIt, asg, asgs, asgK, evCmp, ltD_int, outc, most, evBin, bopI, isCls, isCl, blO, intO, dat_int, eqv_int, gc_int, gc_bl, gc_fr, fx0, fx1, ja, jb, ka, kb, ta, tb, oa, ob, ia, ib, sa, sb, aa, ab]
theorem sc_for (d : Nat) (μ : Mem) (x : MV) (o9 : Option MV) : ∀ (post pre : List Wr) (o4 o5 o6 o7 o8 : Option MV), ws = pre ++ post →
    ∃ o4' o5' o6' o7' o8', forL [] (stp (wdAt subT fldT none prT (d + 3) none) g456 scB) (post.map wv) [some x, some (.lv (rv n (wt ws))), some (.lv (rv n c)), some (.loc μ.length), o4, o5, o6, o7, o8, o9] (F' μ (rv n fun v => st0 ws c v + sm pre (ct ws c v))) = some (.nxt [some x, some (.lv (rv n (wt ws))), some (.lv (rv n c)), some (.loc μ.length), o4', o5', o6', o7', o8', o9], F' μ (rv n (st ws c)))
  | [], pre, o4, o5, o6, o7, o8, h => ⟨o4, o5, o6, o7, o8, by
    rw [List.map_nil, forL_nil rfl]
    rw [List.append_nil] at h
    rw [← h]
    rfl⟩
  | w :: post, pre, o4, o5, o6, o7, o8, h => by
    obtain ⟨p4, p5, p6, p7, p8, e1⟩ := sc_step z d μ h x o4 o5 o6 o7 o8 o9
    obtain ⟨q4, q5, q6, q7, q8, e2⟩ := sc_for d μ x o9 post (pre ++ [w]) p4 p5 p6 p7 p8 (by rw [h]; simp)
    exact ⟨q4, q5, q6, q7, q8, (forL_nxt rfl e1).trans e2⟩
theorem g_stepped (d p : Nat) (μ : Mem) : gc μ.length μ (den subT fldT none prT (d + 4) none 16 [nv n p ws, .lv (rv n (wt ws)), .lv (rv n c)] μ) = some (.ok (.lv (rv n (st ws c))), μ) := by
  rw [den_at (F := ⟨3, 10, b_stepped_chances⟩) rfl rfl (by decide)]
  have e0 := ini_row (wdAt subT fldT none prT (d + 3) none) z.hn c ws (nv n p ws) none none none none none none none μ
  obtain ⟨o4, o5, o6, o7, o8, e1⟩ := sc_for z d μ (nv n p ws) none ws [] none none none none none rfl
  have e3 : (rv n fun v => st0 ws c v + sm [] (ct ws c v)) = rv n (st0 ws c) := rv_congr fun u _ => by rw [sm, Rat.add_zero]
  rw [e3] at e1
  have e1 : exec (wdAt subT fldT none prT (d + 3) none) scS1 [some (nv n p ws), some (.lv (rv n (wt ws))), some (.lv (rv n c)), some (.loc μ.length), none, none, none, none, none, none] (F' μ (rv n (st0 ws c))) = _ := (fr_ev (g := g456) (b := scB) (show evIt (wdAt subT fldT none prT (d + 3) none) (.seq (.idx (.var 0) (.con (.int 2)))) [some (nv n p ws), some (.lv (rv n (wt ws))), some (.lv (rv n c)), some (.loc μ.length), none, none, none, none, none, none] (F' μ (rv n (st0 ws c))) = some (.ok (ws.map wv, []), F' μ (rv n (st0 ws c))) by
    have i2 := nv2 (F' μ (rv n (st0 ws c))) n p ws
    generalize F' μ (rv n (st0 ws c)) = C at *
    generalize nv n p ws = N at *
    generalize rv n c = N at *
    generalize rv n (wt ws) = N at *
    simp (implicitDefEqProofs := false) [execs, exec, ev, evs, evIt, asg, asgs, asgK, evCmp, ltD_int, outc, most, evBin, bopI, isCls, isCl, blO, intO, dat_int, eqv_int, gc_int, gc_bl, gc_fr, fx0, fx1, i2, sqOf, gdOf])).trans e1
  have e2 : ∀ μ', exec (wdAt subT fldT none prT (d + 3) none) scS2 [some (nv n p ws), some (.lv (rv n (wt ws))), some (.lv (rv n c)), some (.loc μ.length), o4, o5, o6, o7, o8, none] μ' = some (.ret (.loc μ.length), μ') := fun μ' => by
    generalize rv n c = N at *
    generalize rv n (wt ws) = N at *
    simp (implicitDefEqProofs := false) [execs, exec, ev, evs, evIt, asg, asgs, asgK, evCmp, ltD_int, outc, most, evBin, bopI, isCls, isCl, blO, intO, dat_int, eqv_int, gc_int, gc_bl, gc_fr, fx0, fx1, scS2]
  show gc _ _ (outc (execs (wdAt subT fldT none prT (d + 3) none) scS [some (nv n p ws), some (.lv (rv n (wt ws))), some (.lv (rv n c)), none, none, none, none, none, none, none] μ)) = _
  unfold scS
  rw [execs, e0, seqK_nxt, execs, e1, seqK_nxt, execs, e2, seqK_ret]
  exact gc_its (noL_rv _ _)
end
end MI
end
section
set_option Elab.async false
set_option linter.all false
set_option maxRecDepth 100000
set_option maxHeartbeats 4000000
set_option exponentiation.threshold 20000
namespace MI
open PySem PySem.Spec PyProof.Rows L2
theorem r_need_node (d : Nat) {n p : Nat} {ws : List Wr} {i : Nat} (hi : i < n) (μ : Mem) : den subT fldT none prT (d + 2) none 15 [nv n p ws, .int i] μ = some (.ok (.int i), μ) := by
  rw [den_at (F := ⟨2, 2, b_need_node⟩) rfl rfl (by decide)]
  have e := r_whole2 d (i : Int) 0 ((n : Int) - 1) μ
  have h1 : (0 : Int) ≤ i := by omega
  have h2 : (i : Int) ≤ (n : Int) - 1 := by omega
  simp only [h1, h2, decide_true, Bool.and_self] at e
  have i0 := nv0 μ n p ws
  generalize nv n p ws = N at *
  simp (implicitDefEqProofs := false) [execs, exec, ev, evs, evIt, asg, asgs, asgK, evCmp, ltD_int, outc, most, evBin, bopI, isCls, isCl, blO, intO, dat_int, eqv_int, gc_int, gc_bl, gc_fr, fx0, fx1, b_need_node, e, i0]
abbrev caB : SS := (.cons (.asg (.nm 4) (.app false 16 (.cons (.var 0) (.cons (.var 3) (.cons (.var 4) .nil))) [])) .nil)
theorem ca_for (d p : Nat) {n : Nat} {ws : List Wr} {N : Nat} {D : Nat → Nat} {c : Nat → Nat → Rat} (hz : ∀ k, k < N → Sz n ws (D k) (c k) ∧ ∀ v, v < n → st ws (c k) v = c (k + 1) v) (μ : Mem) (x y : MV) (o6 : Option MV) : ∀ (m k : Nat) (o5 : Option MV), k + m = N →
    ∃ o5', forL [] (stp (wdAt subT fldT none prT (d + 4) none) (.nm 5) caB) (iv (List.range' k m)) [some (nv n p ws), some x, some y, some (.lv (rv n (wt ws))), some (.lv (rv n (c k))), o5, o6] μ = some (.nxt [some (nv n p ws), some x, some y, some (.lv (rv n (wt ws))), some (.lv (rv n (c N))), o5', o6], μ)
  | 0, k, o5, h => ⟨o5, by
    have : k = N := by omega
    subst this
    exact forL_nil rfl⟩
  | m + 1, k, o5, h => by
    obtain ⟨z, hs⟩ := hz k (by omega)
    have e := g_stepped z d p μ
    rw [rv_congr hs] at e
    have e1 : stp (wdAt subT fldT none prT (d + 4) none) (.nm 5) caB (.int k) [some (nv n p ws), some x, some y, some (.lv (rv n (wt ws))), some (.lv (rv n (c k))), o5, o6] μ = some (.nxt [some (nv n p ws), some x, some y, some (.lv (rv n (wt ws))), some (.lv (rv n (c (k + 1)))), some (.int k), o6], μ) := by
      generalize rv n (wt ws) = A at *
      generalize rv n (c k) = B at *
      generalize rv n (c (k + 1)) = C at *
      generalize nv n p ws = E at *
      simp only [stp]
      simp (implicitDefEqProofs := false) [execs, exec, ev, evs, evIt, asg, asgs, asgK, evCmp, ltD_int, outc, most, evBin, bopI, isCls, isCl, blO, intO, dat_int, eqv_int, gc_int, gc_bl, gc_fr, fx0, fx1, e]
    obtain ⟨o5', e2⟩ := ca_for d p hz μ x y o6 m (k + 1) (some (.int k)) (by omega)
    exact ⟨o5', (forL_nxt rfl e1).trans e2⟩
theorem r_chances (d : Nat) {n p : Nat} {ws : List Wr} (g : Good n p ws) {N : Nat} (hN : N ≤ 60) {D : Nat → Nat} {c : Nat → Nat → Rat} (hz : ∀ k, k < N → Sz n ws (D k) (c k) ∧ ∀ v, v < n → st ws (c k) v = c (k + 1) v) {i : Nat} (hi : i < n) (h0 : ∀ v, v < n → c 0 v = dl i v) (μ : Mem) :
    den subT fldT none prT (d + 6) none 17 [nv n p ws, .int i, .int N] μ = some (.ok (.tup (rv n (c N))), μ) := by
  rw [den_at (F := ⟨3, 7, b_chances_after⟩) rfl rfl (by decide)]
  have hn := g.hn
  have e1 := r_need_net d g μ
  have g1 := gc_same (μ := μ) (noL_nv n p ws)
  have e2 := r_need_node (d + 3) (p := p) (ws := ws) hi μ
  have e3 := r_whole2 (d + 4) (N : Int) 0 60 μ
  have h1 : (0 : Int) ≤ N := by omega
  have h2 : (N : Int) ≤ 60 := by omega
  simp only [h1, h2, decide_true, Bool.and_self] at e3
  have e4 := r_weights_of d (p := p) (show n ≤ 100 by omega) (fun w hw => ⟨(g.ok w hw).1, (g.ok w hw).2.1, (g.ok w hw).2.2.1⟩) (fun w hw => (g.ok w hw).2.2.2) g.hw μ
  have g4 := gc_same (μ := μ) (v := .lv (rv n (wt ws))) (by simp only [MV.noL, noL_rv])
  have f0 : exec (wdAt subT fldT none prT (d + 5) none) caS0 [some (nv n p ws), some (.int i), some (.int N), none, none, none, none] μ = some (.nxt [some (nv n p ws), some (.int i), some (.int N), none, none, none, none], μ) := by
    generalize nv n p ws = E at *
    simp (implicitDefEqProofs := false) [execs, exec, ev, evs, evIt, asg, asgs, asgK, evCmp, ltD_int, outc, most, evBin, bopI, isCls, isCl, blO, intO, dat_int, eqv_int, gc_int, gc_bl, gc_fr, fx0, fx1, caS0, e1, g1]
  have f1 : exec (wdAt subT fldT none prT (d + 5) none) caS1 [some (nv n p ws), some (.int i), some (.int N), none, none, none, none] μ = some (.nxt [some (nv n p ws), some (.int i), some (.int N), none, none, none, none], μ) := by
    generalize nv n p ws = E at *
    simp (implicitDefEqProofs := false) [execs, exec, ev, evs, evIt, asg, asgs, asgK, evCmp, ltD_int, outc, most, evBin, bopI, isCls, isCl, blO, intO, dat_int, eqv_int, gc_int, gc_bl, gc_fr, fx0, fx1, caS1, e2]
  have f2 : exec (wdAt subT fldT none prT (d + 5) none) caS2 [some (nv n p ws), some (.int i), some (.int N), none, none, none, none] μ = some (.nxt [some (nv n p ws), some (.int i), some (.int N), none, none, none, none], μ) := by
    generalize nv n p ws = E at *
    simp (implicitDefEqProofs := false) [execs, exec, ev, evs, evIt, asg, asgs, asgK, evCmp, ltD_int, outc, most, evBin, bopI, isCls, isCl, blO, intO, dat_int, eqv_int, gc_int, gc_bl, gc_fr, fx0, fx1, caS2, e3]
  have f3 : exec (wdAt subT fldT none prT (d + 5) none) caS3 [some (nv n p ws), some (.int i), some (.int N), none, none, none, none] μ = some (.nxt [some (nv n p ws), some (.int i), some (.int N), some (.lv (rv n (wt ws))), none, none, none], μ) := by
    generalize nv n p ws = E at *
    generalize rv n (wt ws) = A at *
    simp (implicitDefEqProofs := false) [execs, exec, ev, evs, evIt, asg, asgs, asgK, evCmp, ltD_int, outc, most, evBin, bopI, isCls, isCl, blO, intO, dat_int, eqv_int, gc_int, gc_bl, gc_fr, fx0, fx1, caS3, e4, g4]
  have f4 : exec (wdAt subT fldT none prT (d + 5) none) caS4 [some (nv n p ws), some (.int i), some (.int N), some (.lv (rv n (wt ws))), none, none, none] μ = some (.nxt [some (nv n p ws), some (.int i), some (.int N), some (.lv (rv n (wt ws))), some (.lv (rv n (c 0))), none, none], μ) := by
    have q := lcm_iv (gd := []) (μ := μ) (step := lcS (wdAt subT fldT none prT (d + 5) none) [6] (.nm 6) (.con (.bl true)) (.ife (.cmp .eq (.var 6) (.var 1)) (.con (.tup [(.int 1), (.int 1)])) (.con (.tup [(.int 0), (.int 1)]))) [some (nv n p ws), some (.int i), some (.int N), some (.lv (rv n (wt ws))), none, none, none]) rfl (List.range n) (fun u => fr (dl i u)) (by simp; omega) (fun u hu => by
      generalize rv n (wt ws) = A at *
      generalize nv n p ws = E at *
      unfold dl
      by_cases h : u = i
      · subst h
        simp (implicitDefEqProofs := false) [execs, exec, ev, evs, evIt, asg, asgs, asgK, evCmp, ltD_int, outc, most, evBin, bopI, isCls, isCl, blO, intO, dat_int, eqv_int, gc_int, gc_bl, gc_fr, fx0, fx1, lcS, wipe, fr1]
      · have hb : ((u : Int) == (i : Int)) = false := by simp; omega
        simp (implicitDefEqProofs := false) [execs, exec, ev, evs, evIt, asg, asgs, asgK, evCmp, ltD_int, outc, most, evBin, bopI, isCls, isCl, blO, intO, dat_int, eqv_int, gc_int, gc_bl, gc_fr, fx0, fx1, lcS, wipe, fr0, h, hb])
    have hr := rng_iv (show n ≤ 1000 by omega)
    have i0 := nv0 μ n p ws
    have e := lcm_ev (W := wdAt subT fldT none prT (d + 5) none) (it := .rng (.cons (.idx (.var 0) (.con (.int 0))) .nil)) (gd := []) (xs := iv (List.range n)) (μ := μ) (by
      generalize rv n (wt ws) = A at *
      generalize nv n p ws = E at *
      generalize iv (List.range n) = r at *
      simp (implicitDefEqProofs := false) [execs, exec, ev, evs, evIt, asg, asgs, asgK, evCmp, ltD_int, outc, most, evBin, bopI, isCls, isCl, blO, intO, dat_int, eqv_int, gc_int, gc_bl, gc_fr, fx0, fx1, i0, hr]) q
    rw [show (List.range n).map (fun u => fr (dl i u)) = rv n (c 0) from (rv_congr h0).symm] at e
    unfold caS4
    rw [exec, e, thenE_ok]
    generalize rv n (wt ws) = A at *
    generalize nv n p ws = E at *
    generalize rv n (c 0) = A at *
    simp (implicitDefEqProofs := false) [execs, exec, ev, evs, evIt, asg, asgs, asgK, evCmp, ltD_int, outc, most, evBin, bopI, isCls, isCl, blO, intO, dat_int, eqv_int, gc_int, gc_bl, gc_fr, fx0, fx1, ]
  obtain ⟨o5, f5⟩ := ca_for (d + 1) p hz μ (.int i) (.int N) none N 0 none (by omega)
  have f5 : exec (wdAt subT fldT none prT (d + 5) none) caS5 [some (nv n p ws), some (.int i), some (.int N), some (.lv (rv n (wt ws))), some (.lv (rv n (c 0))), none, none] μ = _ := (fr_ev (g := .nm 5) (b := caB) (show evIt (wdAt subT fldT none prT (d + 5) none) (.rng (.cons (.var 2) .nil)) [some (nv n p ws), some (.int i), some (.int N), some (.lv (rv n (wt ws))), some (.lv (rv n (c 0))), none, none] μ = some (.ok (iv (List.range' 0 N), []), μ) by
    have hr := rng_iv (show N ≤ 1000 by omega)
    rw [List.range_eq_range'] at hr
    generalize iv (List.range' 0 N) = r at *
    simp (implicitDefEqProofs := false) [execs, exec, ev, evs, evIt, asg, asgs, asgK, evCmp, ltD_int, outc, most, evBin, bopI, isCls, isCl, blO, intO, dat_int, eqv_int, gc_int, gc_bl, gc_fr, fx0, fx1, hr])).trans f5
  have f6 : exec (wdAt subT fldT none prT (d + 5) none) caS6 [some (nv n p ws), some (.int i), some (.int N), some (.lv (rv n (wt ws))), some (.lv (rv n (c N))), o5, none] μ = some (.ret (.tup (rv n (c N))), μ) := by
    generalize rv n (wt ws) = A at *
    generalize nv n p ws = E at *
    generalize rv n (c N) = A at *
    simp (implicitDefEqProofs := false) [execs, exec, ev, evs, evIt, asg, asgs, asgK, evCmp, ltD_int, outc, most, evBin, bopI, isCls, isCl, blO, intO, dat_int, eqv_int, gc_int, gc_bl, gc_fr, fx0, fx1, caS6, bi_tup]
  show outc (execs (wdAt subT fldT none prT (d + 5) none) caS [some (nv n p ws), some (.int i), some (.int N), none, none, none, none] μ) = _
  unfold caS
  rw [execs, f0, seqK_nxt, execs, f1, seqK_nxt, execs, f2, seqK_nxt, execs, f3, seqK_nxt, execs, f4, seqK_nxt, execs, f5, seqK_nxt, execs, f6]
  rfl
theorem r_step1 (d : Nat) {n p : Nat} {ws : List Wr} (μ : Mem) {i : Nat} {v : MV} (hv : v.noL = true) (h : den subT fldT none prT (d + 6) none 17 [nv n p ws, .int i, .int 1] μ = some (.ok v, μ)) : den subT fldT none prT (d + 7) none 18 [nv n p ws, .int i] μ = some (.ok v, μ) := by
  rw [den_at (F := ⟨2, 2, b_step_chances⟩) rfl rfl (by decide)]
  have g := gc_same (μ := μ) hv
  simp (implicitDefEqProofs := false) [execs, exec, ev, evs, evIt, asg, asgs, asgK, evCmp, ltD_int, outc, most, evBin, bopI, isCls, isCl, blO, intO, dat_int, eqv_int, gc_int, gc_bl, gc_fr, fx0, fx1, b_step_chances, h, g]
end MI
end
section
set_option Elab.async false
set_option linter.all false
set_option maxRecDepth 100000
set_option maxHeartbeats 4000000
set_option exponentiation.threshold 20000
namespace MI
open PySem PySem.Spec PyProof.Rows L2
def shS0 : S := (.asg (.tp (.cons (.nm 3) (.cons (.nm 4) .nil))) (.tup (.cons (.app false 34 (.cons (.var 0) .nil) []) (.cons (.chg (.lst .nil)) .nil))))
def shS1 : S := (.fr (.nm 2) (.rng (.cons (.idx (.var 0) (.con (.int 0))) .nil)) (.cons (.asg (.nm 5) (.ife (.cmp .eq (.idx (.idx (.var 3) (.var 2)) (.con (.int 0))) (.con (.int 0))) (.chg (.lst (.cons (.idx (.var 1) (.var 2)) .nil))) (.chg (.lst .nil)))) (.cons (.fr (.tp (.cons (.nm 6) (.cons (.nm 7) (.cons (.nm 8) .nil)))) (.seq (.idx (.var 0) (.con (.int 2)))) (.cons (.ite (.cmp .eq (.var 6) (.var 2)) (.cons (.ex (.mth .append (.var 5) (.cons (.app false 30 (.cons (.app false 29 (.cons (.lst (.cons (.idx (.var 1) (.var 7)) (.cons (.var 8) .nil))) .nil) []) (.cons (.idx (.var 3) (.var 7)) .nil)) []) .nil))) .nil) .nil) (.cons (.ite (.cmp .eq (.var 7) (.var 2)) (.cons (.ex (.mth .append (.var 5) (.cons (.app false 30 (.cons (.app false 29 (.cons (.lst (.cons (.idx (.var 1) (.var 6)) (.cons (.var 8) .nil))) .nil) []) (.cons (.idx (.var 3) (.var 6)) .nil)) []) .nil))) .nil) .nil) .nil))) (.cons (.ex (.mth .append (.var 4) (.cons (.app false 28 (.cons (.var 5) .nil) []) .nil))) .nil))))
def shS2 : S := (.ret (.var 4))
def shS : SS := (.cons shS0 (.cons shS1 (.cons shS2 .nil)))
def shT0 : S := (.asg (.nm 5) (.ife (.cmp .eq (.idx (.idx (.var 3) (.var 2)) (.con (.int 0))) (.con (.int 0))) (.chg (.lst (.cons (.idx (.var 1) (.var 2)) .nil))) (.chg (.lst .nil))))
def shT1 : S := (.fr (.tp (.cons (.nm 6) (.cons (.nm 7) (.cons (.nm 8) .nil)))) (.seq (.idx (.var 0) (.con (.int 2)))) (.cons (.ite (.cmp .eq (.var 6) (.var 2)) (.cons (.ex (.mth .append (.var 5) (.cons (.app false 30 (.cons (.app false 29 (.cons (.lst (.cons (.idx (.var 1) (.var 7)) (.cons (.var 8) .nil))) .nil) []) (.cons (.idx (.var 3) (.var 7)) .nil)) []) .nil))) .nil) .nil) (.cons (.ite (.cmp .eq (.var 7) (.var 2)) (.cons (.ex (.mth .append (.var 5) (.cons (.app false 30 (.cons (.app false 29 (.cons (.lst (.cons (.idx (.var 1) (.var 6)) (.cons (.var 8) .nil))) .nil) []) (.cons (.idx (.var 3) (.var 6)) .nil)) []) .nil))) .nil) .nil) .nil)))
def shT2 : S := (.ex (.mth .append (.var 4) (.cons (.app false 28 (.cons (.var 5) .nil) []) .nil)))
def shT : SS := (.cons shT0 (.cons shT1 (.cons shT2 .nil)))
def afS0 : S := (.asg (.nm 3) (.lcm [5] (.rng (.cons (.idx (.var 0) (.con (.int 0))) .nil)) (.nm 5) (.con (.bl true)) (.tup (.cons (.blt .int1 (.cons (.cmp .eq (.var 5) (.var 1)) .nil)) (.cons (.con (.int 1)) .nil)))))
def afS1 : S := (.fr (.nm 4) (.rng (.cons (.var 2) .nil)) (.cons (.asg (.nm 3) (.app false 37 (.cons (.var 0) (.cons (.var 3) .nil)) [])) .nil))
def afS2 : S := (.ret (.blt .tup1 (.cons (.var 3) .nil)))
def afS : SS := (.cons afS0 (.cons afS1 (.cons afS2 .nil)))
/-- a list, then what is no longer of use -/
def FR (μ : Mem) (xs : List MV) (rest : Mem) : Mem := μ ++ (.lst xs :: rest)
section
variable (μ : Mem) (xs : List MV) (rest : Mem)
theorem FR_at : (FR μ xs rest)[μ.length]? = some (.lst xs) := by simp [FR]
theorem FR_ls : lsOf (FR μ xs rest) (.loc μ.length) = some xs := by simp only [lsOf, FR_at]
theorem FR_take : (FR μ xs rest).take μ.length = μ := by simp [FR]
theorem FR_len : (FR μ xs rest).length = μ.length + 1 + rest.length := by simp [FR]; omega
theorem FR_push (o : MO) : FR μ xs rest ++ [o] = FR μ xs (rest ++ [o]) := by simp [FR]
theorem FR_app (v : MV) (h : xs.length < 1000) : evMe (FR μ xs rest) .append (.loc μ.length) [v] = some (.non, FR μ (xs ++ [v]) rest) := by
  have : xs.length < most := lt_most (by omega)
  simp only [evMe, FR_at, this, if_true]
  unfold FR
  rw [List.set_append_right _ _ (Nat.le_refl _), Nat.sub_self]; rfl
theorem FP_at (ps : List MV) : (FR μ xs (rest ++ [.lst ps]))[μ.length + 1 + rest.length]? = some (.lst ps) := by
  unfold FR
  rw [List.getElem?_append_right (by omega), show μ.length + 1 + rest.length - μ.length = rest.length + 1 by omega]
  simp
theorem FP_ls (ps : List MV) : lsOf (FR μ xs (rest ++ [.lst ps])) (.loc (μ.length + 1 + rest.length)) = some ps := by simp only [lsOf, FP_at]
theorem FP_app (ps : List MV) (v : MV) (h : ps.length < 1000) : evMe (FR μ xs (rest ++ [.lst ps])) .append (.loc (μ.length + 1 + rest.length)) [v] = some (.non, FR μ xs (rest ++ [.lst (ps ++ [v])])) := by
  have : ps.length < most := lt_most (by omega)
  simp only [evMe, FP_at, this, if_true]
  unfold FR
  rw [List.set_append_right _ _ (by omega), show μ.length + 1 + rest.length - μ.length = rest.length + 1 by omega, List.set_cons_succ, List.set_append_right _ _ (Nat.le_refl _), Nat.sub_self]; rfl
theorem gc_FR {xs : List MV} (h : MV.noLs xs = true) : gc μ.length μ (some (.ok (.loc μ.length), FR μ xs rest)) = some (.ok (.lv xs), μ) := by
  have r : frz μ.length (FR μ xs rest) (.loc μ.length) = some (.lv xs) := by
    unfold frz
    rw [MV.rd]
    exact look_lst (by omega) (FR_at μ xs rest) (rds_noL h)
  simp only [gc, FR_take, gcOk_self, if_true, r, Option.map_some]
end
abbrev g678 : G := .tp (.cons (.nm 6) (.cons (.nm 7) (.cons (.nm 8) .nil)))
abbrev shI : SS := (.cons (.ite (.cmp .eq (.var 6) (.var 2)) (.cons (.ex (.mth .append (.var 5) (.cons (.app false 30 (.cons (.app false 29 (.cons (.lst (.cons (.idx (.var 1) (.var 7)) (.cons (.var 8) .nil))) .nil) []) (.cons (.idx (.var 3) (.var 7)) .nil)) []) .nil))) .nil) .nil) (.cons (.ite (.cmp .eq (.var 7) (.var 2)) (.cons (.ex (.mth .append (.var 5) (.cons (.app false 30 (.cons (.app false 29 (.cons (.lst (.cons (.idx (.var 1) (.var 6)) (.cons (.var 8) .nil))) .nil) []) (.cons (.idx (.var 3) (.var 6)) .nil)) []) .nil))) .nil) .nil) .nil))
section
variable {n : Nat} {ws : List Wr} {D : Nat} {c : Nat → Rat} (z : Sz n ws D c)
include z
/-- a wire, at a node -/
theorem sh_step (d : Nat) (μ : Mem) (xs : List MV) (rest : Mem) (ps : List MV) {w : Wr} (hw : w ∈ ws) (v : Nat) (hl : ps.length < 1000) (x : MV) (o6 o7 o8 : Option MV) :
    stp (wdAt subT fldT none prT (d + 3) none) g678 shI (wv w) [some x, some (.lv (rv n c)), some (.int v), some (.lv (rv n (wt ws))), some (.loc μ.length), some (.loc (μ.length + 1 + rest.length)), o6, o7, o8] (FR μ xs (rest ++ [.lst ps])) = some (.nxt [some x, some (.lv (rv n c)), some (.int v), some (.lv (rv n (wt ws))), some (.loc μ.length), some (.loc (μ.length + 1 + rest.length)), some (.int w.a), some (.int w.b), some (fr w.q)], FR μ xs (rest ++ [.lst (ps ++ if w.a = v ∨ w.b = v then [fr (ct ws c v w)] else [])])) := by
  obtain ⟨h1, h2, h3⟩ := z.wn w hw
  have ha : w.a < n := by omega
  have hb := z.bd w hw
  have hls := FP_ls μ xs rest ps
  by_cases hva : w.a = v
  · subst hva
    have jb := fun μ => ix_rvl μ c h2
    have kb := fun μ => ix_rvl μ (wt ws) h2
    have tb := fun μ => r_ltimes2 d μ (z.c_bd h2) hb (by omega) (by omega) (by omega) (by omega)
    have ob := fun μ => r_lover d μ ((z.c_bd h2).mul hb 6020 6020 (by omega) (by omega)) (z.w_bd w.b) (z.st_len hw (.inr rfl)) (by omega) (by omega)
    have eb : c w.b * w.q / wt ws w.b = ct ws c w.a w := by unfold ct; rw [if_pos rfl]
    rw [eb] at ob
    have ap := FP_app μ xs rest ps (fr (ct ws c w.a w)) hl
    have nb : ((w.b : Int) == (w.a : Int)) = false := by simp; omega
    simp only [true_or, if_true]
    generalize FR μ xs (rest ++ [.lst (ps ++ [fr (ct ws c w.a w)])]) = F2 at *
    generalize FR μ xs (rest ++ [.lst ps]) = F1 at *
    generalize rv n (wt ws) = RW at *
    generalize rv n c = RC at *
    generalize ct ws c w.a w = CA at *
    generalize wt ws w.b = VB at *
    generalize c w.b = cb at *
    generalize cb * w.q = tb' at *
    generalize μ.length + 1 + rest.length = L at *
    simp only [stp, wv, wr]
    simp (implicitDefEqProofs := false) [execs, exec, ev, evs, evIt, asg, asgs, asgK, evCmp, ltD_int, outc, most, evBin, bopI, isCls, isCl, blO, intO, dat_int, eqv_int, gc_int, gc_bl, gc_fr, fx0, fx1, jb, kb, tb, ob, hls, ap, nb]
  · have na : ((w.a : Int) == (v : Int)) = false := by simp; omega
    by_cases hvb : w.b = v
    · subst hvb
      have jb := fun μ => ix_rvl μ c ha
      have kb := fun μ => ix_rvl μ (wt ws) ha
      have tb := fun μ => r_ltimes2 d μ (z.c_bd ha) hb (by omega) (by omega) (by omega) (by omega)
      have ob := fun μ => r_lover d μ ((z.c_bd ha).mul hb 6020 6020 (by omega) (by omega)) (z.w_bd w.a) (z.st_len hw (.inl rfl)) (by omega) (by omega)
      have eb : c w.a * w.q / wt ws w.a = ct ws c w.b w := by unfold ct; rw [if_neg hva, if_pos rfl]
      rw [eb] at ob
      have ap := FP_app μ xs rest ps (fr (ct ws c w.b w)) hl
      simp only [or_true, if_true]
      generalize FR μ xs (rest ++ [.lst (ps ++ [fr (ct ws c w.b w)])]) = F2 at *
      generalize FR μ xs (rest ++ [.lst ps]) = F1 at *
      generalize rv n (wt ws) = RW at *
      generalize rv n c = RC at *
      generalize ct ws c w.b w = CA at *
      generalize wt ws w.a = VB at *
      generalize c w.a = cb at *
      generalize cb * w.q = tb' at *
      generalize μ.length + 1 + rest.length = L at *
      simp only [stp, wv, wr]
      simp (implicitDefEqProofs := false) [execs, exec, ev, evs, evIt, asg, asgs, asgK, evCmp, ltD_int, outc, most, evBin, bopI, isCls, isCl, blO, intO, dat_int, eqv_int, gc_int, gc_bl, gc_fr, fx0, fx1, jb, kb, tb, ob, hls, ap, na]
    · have nb : ((w.b : Int) == (v : Int)) = false := by simp; omega
      simp only [hva, hvb, or_self, if_false, List.append_nil]
      generalize FR μ xs (rest ++ [.lst ps]) = F1 at *
      generalize rv n (wt ws) = RW at *
      generalize rv n c = RC at *
      simp only [stp, wv, wr]
      simp (implicitDefEqProofs := false) [execs, exec, ev, evs, evIt, asg, asgs, asgK, evCmp, ltD_int, outc, most, evBin, bopI, isCls, isCl, blO, intO, dat_int, eqv_int, gc_int, gc_bl, gc_fr, fx0, fx1, na, nb]
omit z in
theorem wat_snoc (pre : List Wr) (w : Wr) (v : Nat) : wat (pre ++ [w]) v = wat pre v ++ if w.a = v ∨ w.b = v then [w] else [] := by
  unfold wat
  rw [List.filter_append, List.filter_cons, List.filter_nil]
  by_cases h : w.a = v ∨ w.b = v <;> simp [h]
theorem sh_for (d : Nat) (μ : Mem) (xs : List MV) (rest : Mem) (A : List MV) (hA : A.length ≤ 1) (v : Nat) (x : MV) : ∀ (post pre : List Wr) (o6 o7 o8 : Option MV), ws = pre ++ post →
    ∃ o6' o7' o8', forL [] (stp (wdAt subT fldT none prT (d + 3) none) g678 shI) (post.map wv) [some x, some (.lv (rv n c)), some (.int v), some (.lv (rv n (wt ws))), some (.loc μ.length), some (.loc (μ.length + 1 + rest.length)), o6, o7, o8] (FR μ xs (rest ++ [.lst (A ++ (wat pre v).map fun w => fr (ct ws c v w))])) = some (.nxt [some x, some (.lv (rv n c)), some (.int v), some (.lv (rv n (wt ws))), some (.loc μ.length), some (.loc (μ.length + 1 + rest.length)), o6', o7', o8'], FR μ xs (rest ++ [.lst (A ++ (wat ws v).map fun w => fr (ct ws c v w))]))
  | [], pre, o6, o7, o8, h => ⟨o6, o7, o8, by
    rw [List.map_nil, forL_nil rfl]
    rw [List.append_nil] at h
    rw [← h]⟩
  | w :: post, pre, o6, o7, o8, h => by
    have hw : w ∈ ws := by rw [h]; simp
    have hl : (wat pre v).length ≤ pre.length := List.length_filter_le _ _
    have hpl : pre.length ≤ ws.length := by rw [h]; simp
    have hle := z.le
    have e1 := sh_step z d μ xs rest (A ++ (wat pre v).map fun w => fr (ct ws c v w)) hw v (by simp; omega) x o6 o7 o8
    have e3 : (A ++ (wat pre v).map fun w => fr (ct ws c v w)) ++ (if w.a = v ∨ w.b = v then [fr (ct ws c v w)] else []) = A ++ (wat (pre ++ [w]) v).map fun w => fr (ct ws c v w) := by
      rw [wat_snoc, List.map_append, List.append_assoc]
      split <;> rfl
    rw [e3] at e1
    obtain ⟨q6, q7, q8, e2⟩ := sh_for d μ xs rest A hA v x post (pre ++ [w]) (some (.int w.a)) (some (.int w.b)) (some (fr w.q)) (by rw [h]; simp)
    exact ⟨q6, q7, q8, (forL_nxt rfl e1).trans e2⟩
omit z in
/-- parts of 1 that are added up -/
theorem Ch_pt {E : Nat} (h0 : 0 < E) (hE : E ≤ 2 ^ 6000) : ∀ (qs : List Rat) (acc : Rat), 0 ≤ acc → Wh E acc → (∀ q ∈ qs, 0 ≤ q ∧ Wh E q) → acc + sm qs id ≤ 1 → Ch acc qs
  | [], _, _, _, _, _ => trivial
  | q :: qs, acc, ha, hw, hq, hs => by
    have hq0 := hq q List.mem_cons_self
    have hn := sm_nn (l := qs) (f := id) fun r hr => (hq r (List.mem_cons_of_mem _ hr)).1
    rw [sm] at hs
    simp only [id] at hs
    have b1 : Bd 6000 6000 acc := pt_bd ⟨ha, by grind, hw⟩ h0 hE
    have b2 : Bd 6000 6000 q := pt_bd ⟨hq0.1, by grind, hq0.2⟩ h0 hE
    exact ⟨⟨6000, 6000, 6000, 6000, b1, b2, by omega, by omega, by omega⟩, Ch_pt h0 hE qs (acc + q) (by grind) (hw.add hq0.2) (fun r hr => hq r (List.mem_cons_of_mem _ hr)) (by grind)⟩
/-- what comes to a node, as the law lists it -/
def pts (ws : List Wr) (c : Nat → Rat) (v : Nat) : List Rat := (if wt ws v = 0 then [c v] else []) ++ (wat ws v).map (ct ws c v)
omit z in
theorem pts_sum (ws : List Wr) (c : Nat → Rat) (v : Nat) : sm (pts ws c v) id = st ws c v := by
  unfold pts st
  rw [sm_app, sm_map]
  congr 1
  · unfold st0
    split
    · simp [sm, Rat.add_zero]
    · rfl
  · unfold wat
    rw [sm_filter]
    refine sm_congr fun w _ => ?_
    unfold ct
    by_cases h1 : w.a = v <;> by_cases h2 : w.b = v <;> simp [h1, h2]
theorem pts_ch {v : Nat} (hv : v < n) : Ch 0 (pts ws c v) := by
  refine Ch_pt (Nat.mul_pos z.d0 (ddq_pos z.wn)) z.d2 _ _ Rat.le_refl ⟨0, by simp⟩ (fun q hq => ?_) ?_
  · unfold pts at hq
    rcases List.mem_append.mp hq with h | h
    · split at h
      · simp only [List.mem_singleton] at h
        subst h
        exact ⟨z.cv.nn v hv, (z.cv.wh v hv).more _⟩
      · cases h
    · obtain ⟨w, hw, rfl⟩ := List.mem_map.mp h
      have hw := (List.mem_filter.mp hw).1
      exact ⟨ct_nn z.wn z.cv v hw, ct_wh z.wn z.cv v hw⟩
  · rw [pts_sum, Rat.zero_add]
    exact (cv_step z.wn z.cv).le hv
theorem sh_node (d p : Nat) (μ : Mem) (xs : List MV) (hx : xs.length < 1000) (rest : Mem) {v : Nat} (hv : v < n) (o2 o5 o6 o7 o8 : Option MV) :
    ∃ rest' o5' o6' o7' o8', stp (wdAt subT fldT none prT (d + 3) none) (.nm 2) shT (.int v) [some (nv n p ws), some (.lv (rv n c)), o2, some (.lv (rv n (wt ws))), some (.loc μ.length), o5, o6, o7, o8] (FR μ xs rest) = some (.nxt [some (nv n p ws), some (.lv (rv n c)), some (.int v), some (.lv (rv n (wt ws))), some (.loc μ.length), o5', o6', o7', o8'], FR μ (xs ++ [fr (st ws c v)]) rest') := by
  have f0 : exec (wdAt subT fldT none prT (d + 3) none) shT0 [some (nv n p ws), some (.lv (rv n c)), some (.int v), some (.lv (rv n (wt ws))), some (.loc μ.length), o5, o6, o7, o8] (FR μ xs rest) = some (.nxt [some (nv n p ws), some (.lv (rv n c)), some (.int v), some (.lv (rv n (wt ws))), some (.loc μ.length), some (.loc (μ.length + 1 + rest.length)), o6, o7, o8], FR μ xs (rest ++ [.lst ((if wt ws v = 0 then [fr (c v)] else []))])) := by
    have j := fun μ => ix_rvl μ c hv
    have k := fun μ => ix_rvl μ (wt ws) hv
    have l := FR_len μ xs rest
    have pu := FR_push μ xs rest
    have num0 : ((wt ws v).num == 0) = decide (wt ws v = 0) := by
      by_cases h : wt ws v = 0
      · rw [h]; rfl
      · have : (wt ws v).num ≠ 0 := fun e => h (Rat.num_eq_zero.mp e)
        simp [h, this]
    by_cases h : wt ws v = 0
    · simp only [h, decide_true] at num0
      simp only [h, if_true] at k ⊢
      have num0 : (((0 : Rat)).num == 0) = true := rfl
      generalize FR μ xs rest = F1 at *
      generalize rv n (wt ws) = RW at *
      generalize rv n c = RC at *
      generalize nv n p ws = N at *
      simp (implicitDefEqProofs := false) [execs, exec, ev, evs, evIt, asg, asgs, asgK, evCmp, ltD_int, outc, most, evBin, bopI, isCls, isCl, blO, intO, dat_int, eqv_int, gc_int, gc_bl, gc_fr, fx0, fx1, shT0, j, k, l, pu, num0]
    · simp only [h, decide_false] at num0
      simp only [h, if_false]
      generalize FR μ xs rest = F1 at *
      generalize rv n (wt ws) = RW at *
      generalize rv n c = RC at *
      generalize nv n p ws = N at *
      generalize wt ws v = V at *
      simp (implicitDefEqProofs := false) [execs, exec, ev, evs, evIt, asg, asgs, asgK, evCmp, ltD_int, outc, most, evBin, bopI, isCls, isCl, blO, intO, dat_int, eqv_int, gc_int, gc_bl, gc_fr, fx0, fx1, shT0, j, k, l, pu, num0]
  obtain ⟨q6, q7, q8, f1⟩ := sh_for z d μ xs rest (if wt ws v = 0 then [fr (c v)] else []) (by split <;> simp) v (nv n p ws) ws [] o6 o7 o8 rfl
  rw [show (wat [] v).map (fun w => fr (ct ws c v w)) = [] from rfl, List.append_nil] at f1
  have f1 : exec (wdAt subT fldT none prT (d + 3) none) shT1 [some (nv n p ws), some (.lv (rv n c)), some (.int v), some (.lv (rv n (wt ws))), some (.loc μ.length), some (.loc (μ.length + 1 + rest.length)), o6, o7, o8] (FR μ xs (rest ++ [.lst ((if wt ws v = 0 then [fr (c v)] else []))])) = _ := (fr_ev (g := g678) (b := shI) (show evIt (wdAt subT fldT none prT (d + 3) none) (.seq (.idx (.var 0) (.con (.int 2)))) [some (nv n p ws), some (.lv (rv n c)), some (.int v), some (.lv (rv n (wt ws))), some (.loc μ.length), some (.loc (μ.length + 1 + rest.length)), o6, o7, o8] (FR μ xs (rest ++ [.lst ((if wt ws v = 0 then [fr (c v)] else []))])) = some (.ok (ws.map wv, []), FR μ xs (rest ++ [.lst ((if wt ws v = 0 then [fr (c v)] else []))])) by
    clear f0
    generalize FR μ xs (rest ++ [.lst ((if wt ws v = 0 then [fr (c v)] else []))]) = F at *
    have i2 := nv2 F n p ws
    generalize nv n p ws = N at *
    generalize rv n c = RC at *
    generalize rv n (wt ws) = RW at *
    simp (implicitDefEqProofs := false) [execs, exec, ev, evs, evIt, asg, asgs, asgK, evCmp, ltD_int, outc, most, evBin, bopI, isCls, isCl, blO, intO, dat_int, eqv_int, gc_int, gc_bl, gc_fr, fx0, fx1, i2, sqOf, gdOf])).trans f1
  have hp : ((if wt ws v = 0 then [fr (c v)] else []) ++ (wat ws v).map fun w => fr (ct ws c v w)) = (pts ws c v).map fr := by
    unfold pts
    rw [List.map_append, List.map_map]
    split <;> rfl
  rw [hp] at f1
  have f2 : exec (wdAt subT fldT none prT (d + 3) none) shT2 [some (nv n p ws), some (.lv (rv n c)), some (.int v), some (.lv (rv n (wt ws))), some (.loc μ.length), some (.loc (μ.length + 1 + rest.length)), q6, q7, q8] (FR μ xs (rest ++ [.lst ((pts ws c v).map fr)])) = some (.nxt [some (nv n p ws), some (.lv (rv n c)), some (.int v), some (.lv (rv n (wt ws))), some (.loc μ.length), some (.loc (μ.length + 1 + rest.length)), q6, q7, q8], FR μ (xs ++ [fr (st ws c v)]) (rest ++ [.lst ((pts ws c v).map fr)])) := by
    have hs := r_lsum d (.loc (μ.length + 1 + rest.length)) (pts ws c v) (FR μ xs (rest ++ [.lst ((pts ws c v).map fr)])) (by simp only [sqOf, FP_at]) (by simp only [gdOk, gdOf, List.all_cons, List.all_nil, FP_at, decide_true, Bool.and_self]) (pts_ch z hv)
    rw [foldl_sm, pts_sum, Rat.zero_add] at hs
    have ls := FR_ls μ xs (rest ++ [.lst ((pts ws c v).map fr)])
    have ap := FR_app μ xs (rest ++ [.lst ((pts ws c v).map fr)]) (fr (st ws c v)) hx
    generalize rv n (wt ws) = RW at *
    generalize rv n c = RC at *
    generalize nv n p ws = N at *
    generalize FR μ (xs ++ [fr (st ws c v)]) _ = F2 at *
    generalize FR μ xs (rest ++ [.lst ((pts ws c v).map fr)]) = F1 at *
    generalize μ.length + 1 + rest.length = L at *
    generalize st ws c v = S at *
    simp (implicitDefEqProofs := false) [execs, exec, ev, evs, evIt, asg, asgs, asgK, evCmp, ltD_int, outc, most, evBin, bopI, isCls, isCl, blO, intO, dat_int, eqv_int, gc_int, gc_bl, gc_fr, fx0, fx1, shT2, hs, ls, ap]
  refine ⟨rest ++ [.lst ((pts ws c v).map fr)], some (.loc (μ.length + 1 + rest.length)), q6, q7, q8, ?_⟩
  have e0 : stp (wdAt subT fldT none prT (d + 3) none) (.nm 2) shT (.int v) [some (nv n p ws), some (.lv (rv n c)), o2, some (.lv (rv n (wt ws))), some (.loc μ.length), o5, o6, o7, o8] (FR μ xs rest) = execs (wdAt subT fldT none prT (d + 3) none) shT [some (nv n p ws), some (.lv (rv n c)), some (.int v), some (.lv (rv n (wt ws))), some (.loc μ.length), o5, o6, o7, o8] (FR μ xs rest) := rfl
  rw [e0]
  unfold shT
  rw [execs, f0, seqK_nxt, execs, f1, seqK_nxt, execs, f2, seqK_nxt]
  rfl
theorem sh_all (d p : Nat) (μ : Mem) : ∀ (m k : Nat) (rest : Mem) (o2 o5 o6 o7 o8 : Option MV), k + m = n →
    ∃ rest' o2' o5' o6' o7' o8', forL [] (stp (wdAt subT fldT none prT (d + 3) none) (.nm 2) shT) (iv (List.range' k m)) [some (nv n p ws), some (.lv (rv n c)), o2, some (.lv (rv n (wt ws))), some (.loc μ.length), o5, o6, o7, o8] (FR μ (rv k (st ws c)) rest) = some (.nxt [some (nv n p ws), some (.lv (rv n c)), o2', some (.lv (rv n (wt ws))), some (.loc μ.length), o5', o6', o7', o8'], FR μ (rv n (st ws c)) rest')
  | 0, k, rest, o2, o5, o6, o7, o8, h => ⟨rest, o2, o5, o6, o7, o8, by
    have : k = n := by omega
    subst this
    exact forL_nil rfl⟩
  | m + 1, k, rest, o2, o5, o6, o7, o8, h => by
    have hn := z.hn
    obtain ⟨r1, p5, p6, p7, p8, e1⟩ := sh_node z d p μ (rv k (st ws c)) (by rw [rv_len]; omega) rest (v := k) (by omega) o2 o5 o6 o7 o8
    have e3 : rv k (st ws c) ++ [fr (st ws c k)] = rv (k + 1) (st ws c) := by unfold rv; rw [List.range_succ, List.map_append]; rfl
    rw [e3] at e1
    obtain ⟨r2, q2, q5, q6, q7, q8, e2⟩ := sh_all d p μ m (k + 1) r1 (some (.int k)) p5 p6 p7 p8 (by omega)
    exact ⟨r2, q2, q5, q6, q7, q8, (forL_nxt rfl e1).trans e2⟩
theorem g_lshared (d p : Nat) (μ : Mem) : gc μ.length μ (den subT fldT none prT (d + 5) none 37 [nv n p ws, .lv (rv n c)] μ) = some (.ok (.lv (rv n (st ws c))), μ) := by
  rw [den_at (F := ⟨2, 9, b__law_shared⟩) rfl rfl (by decide)]
  have hn := z.hn
  have e0 : exec (wdAt subT fldT none prT (d + 4) none) shS0 [some (nv n p ws), some (.lv (rv n c)), none, none, none, none, none, none, none] μ = some (.nxt [some (nv n p ws), some (.lv (rv n c)), none, some (.lv (rv n (wt ws))), some (.loc μ.length), none, none, none, none], FR μ [] []) := by
    have e := g_lweights d (p := p) z.hn z.wn z.bd z.le μ
    unfold FR
    generalize rv n (wt ws) = RW at *
    generalize rv n c = RC at *
    generalize nv n p ws = N at *
    simp (implicitDefEqProofs := false) [execs, exec, ev, evs, evIt, asg, asgs, asgK, evCmp, ltD_int, outc, most, evBin, bopI, isCls, isCl, blO, intO, dat_int, eqv_int, gc_int, gc_bl, gc_fr, fx0, fx1, shS0, e]
  obtain ⟨r, o2, o5, o6, o7, o8, e1⟩ := sh_all z (d + 1) p μ n 0 [] none none none none none (by omega)
  have e1 : exec (wdAt subT fldT none prT (d + 4) none) shS1 [some (nv n p ws), some (.lv (rv n c)), none, some (.lv (rv n (wt ws))), some (.loc μ.length), none, none, none, none] (FR μ [] []) = _ := (fr_ev (g := .nm 2) (b := shT) (show evIt (wdAt subT fldT none prT (d + 4) none) (.rng (.cons (.idx (.var 0) (.con (.int 0))) .nil)) [some (nv n p ws), some (.lv (rv n c)), none, some (.lv (rv n (wt ws))), some (.loc μ.length), none, none, none, none] (FR μ [] []) = some (.ok (iv (List.range' 0 n), []), FR μ [] []) by
    have hr := rng_iv (show n ≤ 1000 by omega)
    rw [List.range_eq_range'] at hr
    have i0 := nv0 (FR μ [] []) n p ws
    generalize iv (List.range' 0 n) = r at *
    generalize rv n (wt ws) = RW at *
    generalize rv n c = RC at *
    generalize nv n p ws = N at *
    simp (implicitDefEqProofs := false) [execs, exec, ev, evs, evIt, asg, asgs, asgK, evCmp, ltD_int, outc, most, evBin, bopI, isCls, isCl, blO, intO, dat_int, eqv_int, gc_int, gc_bl, gc_fr, fx0, fx1, hr, i0])).trans e1
  have e2 : ∀ μ', exec (wdAt subT fldT none prT (d + 4) none) shS2 [some (nv n p ws), some (.lv (rv n c)), o2, some (.lv (rv n (wt ws))), some (.loc μ.length), o5, o6, o7, o8] μ' = some (.ret (.loc μ.length), μ') := fun μ' => by
    generalize rv n (wt ws) = RW at *
    generalize rv n c = RC at *
    simp (implicitDefEqProofs := false) [execs, exec, ev, evs, evIt, asg, asgs, asgK, evCmp, ltD_int, outc, most, evBin, bopI, isCls, isCl, blO, intO, dat_int, eqv_int, gc_int, gc_bl, gc_fr, fx0, fx1, shS2]
  show gc _ _ (outc (execs (wdAt subT fldT none prT (d + 4) none) shS [some (nv n p ws), some (.lv (rv n c)), none, none, none, none, none, none, none] μ)) = _
  unfold shS
  rw [execs, e0, seqK_nxt, execs, e1, seqK_nxt, execs, e2, seqK_ret]
  exact gc_FR _ _ (noL_rv _ _)
end
abbrev afB : SS := (.cons (.asg (.nm 3) (.app false 37 (.cons (.var 0) (.cons (.var 3) .nil)) [])) .nil)
theorem af_for (d p : Nat) {n : Nat} {ws : List Wr} {N : Nat} {D : Nat → Nat} {c : Nat → Nat → Rat} (hz : ∀ k, k < N → Sz n ws (D k) (c k) ∧ ∀ v, v < n → st ws (c k) v = c (k + 1) v) (μ : Mem) (x y : MV) (o5 : Option MV) : ∀ (m k : Nat) (o4 : Option MV), k + m = N →
    ∃ o4', forL [] (stp (wdAt subT fldT none prT (d + 5) none) (.nm 4) afB) (iv (List.range' k m)) [some (nv n p ws), some x, some y, some (.lv (rv n (c k))), o4, o5] μ = some (.nxt [some (nv n p ws), some x, some y, some (.lv (rv n (c N))), o4', o5], μ)
  | 0, k, o4, h => ⟨o4, by
    have : k = N := by omega
    subst this
    exact forL_nil rfl⟩
  | m + 1, k, o4, h => by
    obtain ⟨z, hs⟩ := hz k (by omega)
    have e := g_lshared z d p μ
    rw [rv_congr hs] at e
    have e1 : stp (wdAt subT fldT none prT (d + 5) none) (.nm 4) afB (.int k) [some (nv n p ws), some x, some y, some (.lv (rv n (c k))), o4, o5] μ = some (.nxt [some (nv n p ws), some x, some y, some (.lv (rv n (c (k + 1)))), some (.int k), o5], μ) := by
      generalize rv n (c k) = B at *
      generalize rv n (c (k + 1)) = C at *
      generalize nv n p ws = E at *
      simp only [stp]
      simp (implicitDefEqProofs := false) [execs, exec, ev, evs, evIt, asg, asgs, asgK, evCmp, ltD_int, outc, most, evBin, bopI, isCls, isCl, blO, intO, dat_int, eqv_int, gc_int, gc_bl, gc_fr, fx0, fx1, e]
    obtain ⟨o4', e2⟩ := af_for d p hz μ x y o5 m (k + 1) (some (.int k)) (by omega)
    exact ⟨o4', (forL_nxt rfl e1).trans e2⟩
theorem r_lafter (d p : Nat) {n : Nat} {ws : List Wr} (hn : n ≤ 100) {N : Nat} (hN : N ≤ 60) {D : Nat → Nat} {c : Nat → Nat → Rat} (hz : ∀ k, k < N → Sz n ws (D k) (c k) ∧ ∀ v, v < n → st ws (c k) v = c (k + 1) v) {i : Nat} (h0 : ∀ v, v < n → c 0 v = dl i v) (μ : Mem) :
    den subT fldT none prT (d + 6) none 38 [nv n p ws, .int i, .int N] μ = some (.ok (.tup (rv n (c N))), μ) := by
  rw [den_at (F := ⟨3, 6, b__law_after⟩) rfl rfl (by decide)]
  have f0 : exec (wdAt subT fldT none prT (d + 5) none) afS0 [some (nv n p ws), some (.int i), some (.int N), none, none, none] μ = some (.nxt [some (nv n p ws), some (.int i), some (.int N), some (.lv (rv n (c 0))), none, none], μ) := by
    have q := lcm_iv (gd := []) (μ := μ) (step := lcS (wdAt subT fldT none prT (d + 5) none) [5] (.nm 5) (.con (.bl true)) (.tup (.cons (.blt .int1 (.cons (.cmp .eq (.var 5) (.var 1)) .nil)) (.cons (.con (.int 1)) .nil))) [some (nv n p ws), some (.int i), some (.int N), none, none, none]) rfl (List.range n) (fun u => fr (dl i u)) (by simp; omega) (fun u hu => by
      generalize nv n p ws = E at *
      unfold dl
      by_cases h : u = i
      · subst h
        simp (implicitDefEqProofs := false) [execs, exec, ev, evs, evIt, asg, asgs, asgK, evCmp, ltD_int, outc, most, evBin, bopI, isCls, isCl, blO, intO, dat_int, eqv_int, gc_int, gc_bl, gc_fr, fx0, fx1, lcS, wipe, fr1, evBi]
      · have hb : ((u : Int) == (i : Int)) = false := by simp; omega
        simp (implicitDefEqProofs := false) [execs, exec, ev, evs, evIt, asg, asgs, asgK, evCmp, ltD_int, outc, most, evBin, bopI, isCls, isCl, blO, intO, dat_int, eqv_int, gc_int, gc_bl, gc_fr, fx0, fx1, lcS, wipe, fr0, h, hb, evBi])
    have hr := rng_iv (show n ≤ 1000 by omega)
    have i0 := nv0 μ n p ws
    have e := lcm_ev (W := wdAt subT fldT none prT (d + 5) none) (it := .rng (.cons (.idx (.var 0) (.con (.int 0))) .nil)) (gd := []) (xs := iv (List.range n)) (μ := μ) (by
      generalize nv n p ws = E at *
      generalize iv (List.range n) = r at *
      simp (implicitDefEqProofs := false) [execs, exec, ev, evs, evIt, asg, asgs, asgK, evCmp, ltD_int, outc, most, evBin, bopI, isCls, isCl, blO, intO, dat_int, eqv_int, gc_int, gc_bl, gc_fr, fx0, fx1, i0, hr]) q
    rw [show (List.range n).map (fun u => fr (dl i u)) = rv n (c 0) from (rv_congr h0).symm] at e
    unfold afS0
    rw [exec, e, thenE_ok]
    generalize nv n p ws = E at *
    generalize rv n (c 0) = A at *
    simp (implicitDefEqProofs := false) [execs, exec, ev, evs, evIt, asg, asgs, asgK, evCmp, ltD_int, outc, most, evBin, bopI, isCls, isCl, blO, intO, dat_int, eqv_int, gc_int, gc_bl, gc_fr, fx0, fx1, ]
  obtain ⟨o4, f1⟩ := af_for d p hz μ (.int i) (.int N) none N 0 none (by omega)
  have f1 : exec (wdAt subT fldT none prT (d + 5) none) afS1 [some (nv n p ws), some (.int i), some (.int N), some (.lv (rv n (c 0))), none, none] μ = _ := (fr_ev (g := .nm 4) (b := afB) (show evIt (wdAt subT fldT none prT (d + 5) none) (.rng (.cons (.var 2) .nil)) [some (nv n p ws), some (.int i), some (.int N), some (.lv (rv n (c 0))), none, none] μ = some (.ok (iv (List.range' 0 N), []), μ) by
    have hr := rng_iv (show N ≤ 1000 by omega)
    rw [List.range_eq_range'] at hr
    generalize iv (List.range' 0 N) = r at *
    simp (implicitDefEqProofs := false) [execs, exec, ev, evs, evIt, asg, asgs, asgK, evCmp, ltD_int, outc, most, evBin, bopI, isCls, isCl, blO, intO, dat_int, eqv_int, gc_int, gc_bl, gc_fr, fx0, fx1, hr])).trans f1
  have f2 : exec (wdAt subT fldT none prT (d + 5) none) afS2 [some (nv n p ws), some (.int i), some (.int N), some (.lv (rv n (c N))), o4, none] μ = some (.ret (.tup (rv n (c N))), μ) := by
    generalize nv n p ws = E at *
    generalize rv n (c N) = A at *
    simp (implicitDefEqProofs := false) [execs, exec, ev, evs, evIt, asg, asgs, asgK, evCmp, ltD_int, outc, most, evBin, bopI, isCls, isCl, blO, intO, dat_int, eqv_int, gc_int, gc_bl, gc_fr, fx0, fx1, afS2, bi_tup]
  show outc (execs (wdAt subT fldT none prT (d + 5) none) afS [some (nv n p ws), some (.int i), some (.int N), none, none, none] μ) = _
  unfold afS
  rw [execs, f0, seqK_nxt, execs, f1, seqK_nxt, execs, f2]
  rfl
end MI
end
section
set_option Elab.async false
set_option linter.all false
set_option maxRecDepth 100000
set_option maxHeartbeats 4000000
set_option exponentiation.threshold 20000
namespace MI
open PySem PySem.Spec PyProof.Rows L2
def anS0 : S := (.asg (.nm 1) (.bin .add (.con (.int 1)) (.app false 21 (.cons (.var 0) (.cons (.con (.int 6)) .nil)) [])))
def anS1 : S := (.ite (.cmp .eq (.app false 21 (.cons (.var 0) (.cons (.con (.int 2)) .nil)) []) (.con (.int 0))) (.cons (.ret (.app false 32 (.cons (.var 0) (.cons (.var 1) (.cons (.app false 21 (.cons (.var 0) (.cons (.bin .add (.var 1) (.con (.int 1))) .nil)) []) (.cons (.con (.int 9)) .nil)))) [])) .nil) .nil)
def anS2 : S := (.ret (.app false 33 (.cons (.var 0) (.cons (.var 1) (.cons (.bin .add (.con (.int 1)) (.app false 21 (.cons (.var 0) (.cons (.var 1) .nil)) [])) (.cons (.con (.int 9)) .nil)))) []))
def anS : SS := (.cons anS0 (.cons anS1 (.cons anS2 .nil)))
def gnS0 : S := (.asg (.tp (.cons (.nm 6) (.cons (.nm 5) .nil))) (.tup (.cons (.bin .add (.con (.int 7)) (.app false 21 (.cons (.var 0) (.cons (.con (.int 6)) .nil)) [])) (.cons (.chg (.lst .nil)) .nil))))
def gnS1 : S := (.fr (.nm 1) (.rng (.cons (.con (.int 1)) (.cons (.var 6) .nil))) (.cons (.ite (.cmp .gt (.app false 21 (.cons (.var 0) (.cons (.con (.int 8)) .nil)) []) (.con (.int 0))) (.cons (.ex (.mth .append (.var 5) (.cons (.tup (.cons (.app false 21 (.cons (.var 0) (.cons (.var 1) .nil)) []) (.cons (.var 1) (.cons (.app false 27 (.cons (.bin .add (.con (.int 1)) (.app false 21 (.cons (.var 0) (.cons (.con (.int 4)) .nil)) [])) (.cons (.bin .add (.con (.int 1)) (.app false 21 (.cons (.var 0) (.cons (.con (.int 3)) .nil)) [])) .nil)) []) .nil)))) .nil))) .nil) .nil) .nil))
def gnS2 : S := (.fr (.nm 2) (.rng (.cons (.app false 21 (.cons (.var 0) (.cons (.con (.int 7)) .nil)) []) .nil)) (.cons (.asg (.tp (.cons (.nm 7) (.cons (.nm 8) .nil))) (.tup (.cons (.app false 21 (.cons (.var 0) (.cons (.bin .sub (.var 6) (.con (.int 1))) .nil)) []) (.cons (.app false 27 (.cons (.bin .add (.con (.int 1)) (.app false 21 (.cons (.var 0) (.cons (.con (.int 3)) .nil)) [])) (.cons (.bin .add (.con (.int 1)) (.app false 21 (.cons (.var 0) (.cons (.con (.int 4)) .nil)) [])) .nil)) []) .nil)))) (.cons (.ex (.mth .append (.var 5) (.cons (.tup (.cons (.var 7) (.cons (.bin .add (.bin .add (.var 7) (.con (.int 1))) (.app false 21 (.cons (.var 0) (.cons (.bin .sub (.bin .sub (.var 6) (.con (.int 1))) (.var 7)) .nil)) [])) (.cons (.var 8) .nil)))) .nil))) .nil)))
def gnS3 : S := (.asg (.nm 3) (.tup (.cons (.var 6) (.cons (.con (.int 0)) (.cons (.blt .tup1 (.cons (.blt .srt1 (.cons (.var 5) .nil)) .nil)) .nil)))))
def gnS4 : S := (.asg (.nm 4) (.app false 25 (.cons (.var 0) (.cons (.var 6) .nil)) []))
def gnS5 : S := (.asg (.nm 5) (.chg (.lcm [7, 9, 8] (.seq (.idx (.var 3) (.con (.int 2)))) (.tp (.cons (.nm 7) (.cons (.nm 9) (.cons (.nm 8) .nil)))) (.con (.bl true)) (.tup (.cons (.blt .min2 (.cons (.idx (.var 4) (.var 7)) (.cons (.idx (.var 4) (.var 9)) .nil))) (.cons (.blt .max2 (.cons (.idx (.var 4) (.var 7)) (.cons (.idx (.var 4) (.var 9)) .nil))) (.cons (.var 8) .nil)))))))
def gnS6 : S := (.ret (.tup (.cons (.var 6) (.cons (.ife (.cmp .gt (.var 6) (.con (.int 7))) (.app false 21 (.cons (.var 0) (.cons (.con (.int 9)) .nil)) []) (.app false 21 (.cons (.var 0) (.cons (.con (.int 8)) .nil)) [])) (.cons (.blt .tup1 (.cons (.blt .srt1 (.cons (.var 5) .nil)) .nil)) .nil)))))
def gnS : SS := (.cons gnS0 (.cons gnS1 (.cons gnS2 (.cons gnS3 (.cons gnS4 (.cons gnS5 (.cons gnS6 .nil)))))))
/-- what is known of a drawn net: chances along it stay small -/
structure Fit (n p : Nat) (ws : List Wr) : Prop where
  g : Good n p ws
  n0 : 0 < n
  dd : ddn n ws ≤ 2 ^ 600
theorem good_wn {n p : Nat} {ws : List Wr} (g : Good n p ws) : WN n ws := fun w hw => ⟨(g.ok w hw).1, (g.ok w hw).2.1, (g.ok w hw).2.2.1⟩
theorem q_le {q : Rat} {t : Nat} (h : Bd t t q) (h0 : 0 < q) : q ≤ ((2 ^ t : Nat) : Rat) := by
  have hn := num_pos' h0
  have h1 : q.num ≤ ((2 ^ t : Nat) : Int) := by have := h.1; omega
  have h2 := q.den_pos
  rw [Rat.le_iff]
  simp only [Rat.num_natCast, Rat.den_natCast]
  have h3 : q.num * ((1 : Nat) : Int) ≤ ((2 ^ t : Nat) : Int) * (q.den : Int) := by
    have : ((2 ^ t : Nat) : Int) * 1 ≤ ((2 ^ t : Nat) : Int) * (q.den : Int) := Int.mul_le_mul_of_nonneg_left (by omega) (by omega)
    omega
  exact h3
theorem fit_of {n p : Nat} {ws : List Wr} (g : Good n p ws) (h0 : 0 < n) {t : Nat} (hb : ∀ w ∈ ws, Bd t t w.q) (hl : ws.length ≤ 32) (hs : 2 * t * ws.length + n * (t + 5) ≤ 600) : Fit n p ws :=
  ⟨g, h0, Nat.le_trans (ddq_le (good_wn g) hl (fun w hw => q_le (hb w hw) (g.ok w hw).2.2.1) (fun w hw => (hb w hw).2)) (Nat.pow_le_pow_right (by decide) hs)⟩
theorem p9000 {k : Int} (h : k.natAbs ≤ 1000) : k.natAbs < 2 ^ 9000 := Nat.lt_of_le_of_lt (show k.natAbs ≤ 2 ^ 10 by omega) (Nat.pow_lt_pow_right (by decide) (by decide))
section
variable (d : Nat) {cs : List Int} {s : Nat} (hc : cs.length = 64) (hs : s < 2 ^ 36) (gs : List Int)
include hc hs
theorem g_any : ∃ (n p : Nat) (ws : List Wr) (s' : Nat) (gs' : List Int), Fit n p ws ∧ s' ≤ s + 900 ∧ gc (List.length (M cs s gs [])) (M cs s gs []) (den subT fldT none prT (d + 5) none 35 [.loc 0] (M cs s gs [])) = some (.ok (nv n p ws), M cs s' gs' []) := by
  rw [den_at (F := ⟨1, 2, b__law_any_net⟩) rfl rfl (by decide)]
  obtain ⟨v1, g1, p1, q1, e1⟩ := g_draw (d + 2) 6 (by decide) (by decide) hc (show s < 2 ^ 40 by omega) gs []
  obtain ⟨v2, g2, p2, q2, e2⟩ := g_draw (d + 2) 2 (by decide) (by decide) hc (show s + 1 < 2 ^ 40 by omega) g1 []
  obtain ⟨k, rfl⟩ : ∃ k : Nat, v1 = (k : Int) := ⟨v1.toNat, by omega⟩
  have hk : (1 : Int) + (k : Int) = ((1 + k : Nat) : Int) := by omega
  have f0 : exec (wdAt subT fldT none prT (d + 4) none) anS0 [some (.loc 0), none] (M cs s gs []) = some (.nxt [some (.loc 0), some (.int ((1 + k : Nat) : Int))], M cs (s + 1) g1 []) := by
    rw [← hk]
    simp (implicitDefEqProofs := false) [execs, exec, ev, evs, evIt, asg, asgs, asgK, evCmp, ltD_int, outc, most, evBin, bopI, isCls, isCl, blO, intO, dat_int, eqv_int, gc_int, gc_bl, gc_fr, fx0, fx1, anS0, e1]
  generalize hn : 1 + k = n at *
  show ∃ (n p : Nat) (ws : List Wr) (s' : Nat) (gs' : List Int), Fit n p ws ∧ s' ≤ s + 900 ∧ gc _ _ (outc (execs (wdAt subT fldT none prT (d + 4) none) anS [some (.loc 0), none] (M cs s gs []))) = _
  by_cases h2 : v2 = 0
  · subst h2
    obtain ⟨v3, g3, p3, q3, e3⟩ := g_draw (d + 2) ((n : Int) + 1) (by omega) (p9000 (by omega)) hc (show s + 1 + 1 < 2 ^ 40 by omega) g2 []
    obtain ⟨p, rfl⟩ : ∃ k : Nat, v3 = (k : Int) := ⟨v3.toNat, by omega⟩
    obtain ⟨ws, s', g4, k1, k2, k3, e4⟩ := r_lnet d hc (show s + 1 + 1 + 1 < 2 ^ 37 by omega) g3 (n := n) (p := p) (w := 9) (by omega) (by omega) (by omega) (by omega)
    have e4 : gc (List.length (M cs (s + 1 + 1 + 1) g3 [])) (M cs (s + 1 + 1 + 1) g3 []) (den subT fldT none prT (d + 4) none 32 [.loc 0, .int n, .int p, .int 9] (M cs (s + 1 + 1 + 1) g3 [])) = _ := e4
    have f1 : exec (wdAt subT fldT none prT (d + 4) none) anS1 [some (.loc 0), some (.int n)] (M cs (s + 1) g1 []) = some (.ret (nv n p ws), M cs s' g4 []) := by
      generalize nv n p ws = N at *
      simp (implicitDefEqProofs := false) [execs, exec, ev, evs, evIt, asg, asgs, asgK, evCmp, ltD_int, outc, most, evBin, bopI, isCls, isCl, blO, intO, dat_int, eqv_int, gc_int, gc_bl, gc_fr, fx0, fx1, anS1, e2, e3, e4]
    refine ⟨n, p, ws, s', g4, fit_of k1 (by omega) (t := 20) (fun w hw => (k1.ok w hw).2.2.2) (by omega) ?_, by omega, ?_⟩
    · have : 2 * 20 * ws.length ≤ 360 := by omega
      omega
    · unfold anS
      rw [execs, f0, seqK_nxt, execs, f1, seqK_ret]
      exact gc_M cs s gs [] _ (noL_nv _ _ _) s' g4
  · have hb2 : (v2 == 0) = false := by simpa using h2
    obtain ⟨v3, g3, p3, q3, e3⟩ := g_draw (d + 2) (n : Int) (by omega) (p9000 (by omega)) hc (show s + 1 + 1 < 2 ^ 40 by omega) g2 []
    obtain ⟨p0, rfl⟩ : ∃ k : Nat, v3 = (k : Int) := ⟨v3.toNat, by omega⟩
    obtain ⟨ws, s', g4, k1, k2, k3, e4⟩ := r_held d hc (show s + 1 + 1 + 1 < 2 ^ 37 by omega) g3 (n := n) (p := 1 + p0) (w := 9) (by omega) (by omega) (by omega) (by omega) (by omega) (by omega)
    have e4 : gc (List.length (M cs (s + 1 + 1 + 1) g3 [])) (M cs (s + 1 + 1 + 1) g3 []) (den subT fldT none prT (d + 4) none 33 [.loc 0, .int n, .int ((1 + p0 : Nat) : Int), .int 9] (M cs (s + 1 + 1 + 1) g3 [])) = _ := e4
    have f1 : exec (wdAt subT fldT none prT (d + 4) none) anS1 [some (.loc 0), some (.int n)] (M cs (s + 1) g1 []) = some (.nxt [some (.loc 0), some (.int n)], M cs (s + 1 + 1) g2 []) := by
      simp (implicitDefEqProofs := false) [execs, exec, ev, evs, evIt, asg, asgs, asgK, evCmp, ltD_int, outc, most, evBin, bopI, isCls, isCl, blO, intO, dat_int, eqv_int, gc_int, gc_bl, gc_fr, fx0, fx1, anS1, e2, hb2]
    have hp : (1 : Int) + (p0 : Int) = ((1 + p0 : Nat) : Int) := by omega
    have f2 : exec (wdAt subT fldT none prT (d + 4) none) anS2 [some (.loc 0), some (.int n)] (M cs (s + 1 + 1) g2 []) = some (.ret (nv n (1 + p0) ws), M cs s' g4 []) := by
      rw [← hp] at e4
      generalize nv n (1 + p0) ws = N at *
      simp (implicitDefEqProofs := false) [execs, exec, ev, evs, evIt, asg, asgs, asgK, evCmp, ltD_int, outc, most, evBin, bopI, isCls, isCl, blO, intO, dat_int, eqv_int, gc_int, gc_bl, gc_fr, fx0, fx1, anS2, e3, e4]
    refine ⟨n, 1 + p0, ws, s', g4, fit_of k1 (by omega) (t := 20) (fun w hw => (k1.ok w hw).2.2.2) (by omega) ?_, by omega, ?_⟩
    · have : 2 * 20 * ws.length ≤ 360 := by omega
      omega
    · unfold anS
      rw [execs, f0, seqK_nxt, execs, f1, seqK_nxt, execs, f2, seqK_ret]
      exact gc_M cs s gs [] _ (noL_nv _ _ _) s' g4
end
/-! the great net -/
def WO2 (n : Nat) (ws : List Wr) : Prop := WOk n ws ∧ ∀ w ∈ ws, Bd 2 2 w.q
theorem WO2.snoc {n : Nat} {ws : List Wr} {w : Wr} (h : WO2 n ws) (g : w.a < w.b ∧ w.b < n ∧ 0 < w.q ∧ Bd 2 2 w.q) : WO2 n (ws ++ [w]) :=
  ⟨h.1.snoc ⟨g.1, g.2.1, g.2.2.1, g.2.2.2.mono (by omega) (by omega)⟩, fun u hu => by
    rcases List.mem_append.mp hu with hu | hu
    · exact h.2 u hu
    · simp only [List.mem_singleton] at hu; subst hu; exact g.2.2.2⟩
abbrev gnA : SS := (.cons (.ite (.cmp .gt (.app false 21 (.cons (.var 0) (.cons (.con (.int 8)) .nil)) []) (.con (.int 0))) (.cons (.ex (.mth .append (.var 5) (.cons (.tup (.cons (.app false 21 (.cons (.var 0) (.cons (.var 1) .nil)) []) (.cons (.var 1) (.cons (.app false 27 (.cons (.bin .add (.con (.int 1)) (.app false 21 (.cons (.var 0) (.cons (.con (.int 4)) .nil)) [])) (.cons (.bin .add (.con (.int 1)) (.app false 21 (.cons (.var 0) (.cons (.con (.int 3)) .nil)) [])) .nil)) []) .nil)))) .nil))) .nil) .nil) .nil)
abbrev gnB : SS := (.cons (.asg (.tp (.cons (.nm 7) (.cons (.nm 8) .nil))) (.tup (.cons (.app false 21 (.cons (.var 0) (.cons (.bin .sub (.var 6) (.con (.int 1))) .nil)) []) (.cons (.app false 27 (.cons (.bin .add (.con (.int 1)) (.app false 21 (.cons (.var 0) (.cons (.con (.int 3)) .nil)) [])) (.cons (.bin .add (.con (.int 1)) (.app false 21 (.cons (.var 0) (.cons (.con (.int 4)) .nil)) [])) .nil)) []) .nil)))) (.cons (.ex (.mth .append (.var 5) (.cons (.tup (.cons (.var 7) (.cons (.bin .add (.bin .add (.var 7) (.con (.int 1))) (.app false 21 (.cons (.var 0) (.cons (.bin .sub (.bin .sub (.var 6) (.con (.int 1))) (.var 7)) .nil)) [])) (.cons (.var 8) .nil)))) .nil))) .nil))
abbrev gnE (n : Nat) (o1 o2 o3 o4 o7 o8 o9 : Option MV) : Env := [some (.loc 0), o1, o2, o3, o4, some (.loc 2), some (.int n), o7, o8, o9]
theorem gna_step (d : Nat) {cs : List Int} (hc : cs.length = 64) {s : Nat} (hs : s < 2 ^ 38) (gs : List Int) {n k : Nat} (hk : 0 < k) (hk2 : k < n) (hn2 : n ≤ 1000) {ws : List Wr} (hw : WO2 n ws) (hl : ws.length < 1000) (o1 o2 o3 o4 o7 o8 o9 : Option MV) :
    ∃ (ws' : List Wr) (s' : Nat) (gs' : List Int), WO2 n ws' ∧ ws'.length ≤ ws.length + 1 ∧ s' ≤ s + 5 ∧ stp (wdAt subT fldT none prT (d + 3) none) (.nm 1) gnA (.int k) (gnE n o1 o2 o3 o4 o7 o8 o9) (M cs s gs [.lst (ws.map wv)]) = some (.nxt (gnE n (some (.int k)) o2 o3 o4 o7 o8 o9), M cs s' gs' [.lst (ws'.map wv)]) := by
  obtain ⟨v0, g0, p0, q0, e0⟩ := g_draw (d + 1) 8 (by decide) (by decide) hc (show s < 2 ^ 40 by omega) gs [.lst (ws.map wv)]
  by_cases h0 : 0 < v0
  · obtain ⟨v1, g1, p1, q1, e1⟩ := g_draw (d + 1) (k : Int) (by omega) (p9000 (by omega)) hc (show s + 1 < 2 ^ 40 by omega) g0 [.lst (ws.map wv)]
    obtain ⟨v2, g2, p2, q2, e2⟩ := g_draw (d + 1) 4 (by decide) (by decide) hc (show s + 1 + 1 < 2 ^ 40 by omega) g1 [.lst (ws.map wv)]
    obtain ⟨v3, g3, p3, q3, e3⟩ := g_draw (d + 1) 3 (by decide) (by decide) hc (show s + 1 + 1 + 1 < 2 ^ 40 by omega) g2 [.lst (ws.map wv)]
    obtain ⟨a, rfl⟩ : ∃ k : Nat, v1 = (k : Int) := ⟨v1.toNat, by omega⟩
    obtain ⟨z1, z2⟩ := dvi_draw (a := 2) p2 p3 q2 (show v3 < 4 by omega) (by decide)
    have f := e_lratio (d + 1) (Rat.divInt (1 + v2) (1 + v3)) (M cs (s + 1 + 1 + 1 + 1) g3 [.lst (ws.map wv)]) rfl (by omega) (m := 20) (n := 20) (by omega) (by omega) (by omega)
    generalize Rat.divInt (1 + v2) (1 + v3) = q at *
    have ha := M_app cs (s + 1 + 1 + 1 + 1) g3 (ws.map wv) (wv ⟨a, k, q⟩) (by simpa using hl)
    have hl2 := M_ls cs (s + 1) g0 (ws.map wv)
    refine ⟨ws ++ [⟨a, k, q⟩], s + 1 + 1 + 1 + 1, g3, hw.snoc ⟨by show a < k; omega, hk2, z1, z2⟩, by simp, by omega, ?_⟩
    simp only [wv, wr] at ha
    simp only [stp, List.map_append, List.map_cons, List.map_nil, wv, wr]
    simp (implicitDefEqProofs := false) [execs, exec, ev, evs, evIt, asg, asgs, asgK, evCmp, ltD_int, outc, most, evBin, bopI, isCls, isCl, blO, intO, dat_int, eqv_int, gc_int, gc_bl, gc_fr, fx0, fx1, e0, h0, e1, e2, e3, f, hl2, ha]
  · refine ⟨ws, s + 1, g0, hw, by omega, by omega, ?_⟩
    simp only [stp]
    simp (implicitDefEqProofs := false) [execs, exec, ev, evs, evIt, asg, asgs, asgK, evCmp, ltD_int, outc, most, evBin, bopI, isCls, isCl, blO, intO, dat_int, eqv_int, gc_int, gc_bl, gc_fr, fx0, fx1, e0, h0]
theorem gna_for (d : Nat) {cs : List Int} (hc : cs.length = 64) {n : Nat} (hn2 : n ≤ 1000) (o2 o3 o4 o7 o8 o9 : Option MV) : ∀ (ks : List Nat) (ws : List Wr) (s : Nat) (gs : List Int) (o1 : Option MV), (∀ k ∈ ks, 0 < k ∧ k < n) → WO2 n ws → ws.length + ks.length ≤ 1000 → s + 5 * ks.length < 2 ^ 38 →
    ∃ (ws' : List Wr) (s' : Nat) (gs' : List Int) (o1' : Option MV), WO2 n ws' ∧ ws'.length ≤ ws.length + ks.length ∧ s' ≤ s + 5 * ks.length ∧ forL [] (stp (wdAt subT fldT none prT (d + 3) none) (.nm 1) gnA) (iv ks) (gnE n o1 o2 o3 o4 o7 o8 o9) (M cs s gs [.lst (ws.map wv)]) = some (.nxt (gnE n o1' o2 o3 o4 o7 o8 o9), M cs s' gs' [.lst (ws'.map wv)])
  | [], ws, s, gs, o1, _, hw, _, _ => ⟨ws, s, gs, o1, hw, by simp, by simp, forL_nil rfl⟩
  | x :: xs, ws, s, gs, o1, hx, hw, hl, hs => by
    simp only [List.length_cons] at hl hs
    have hx1 := hx x List.mem_cons_self
    obtain ⟨w1, s1, g1, h1, h2, h3, e⟩ := gna_step d hc (show s < 2 ^ 38 by omega) gs hx1.1 hx1.2 hn2 hw (by omega) o1 o2 o3 o4 o7 o8 o9
    obtain ⟨ws', s2, g2, q1, k1, k2, k3, e2⟩ := gna_for d hc hn2 o2 o3 o4 o7 o8 o9 xs w1 s1 g1 (some (.int x)) (fun k hk => hx k (List.mem_cons_of_mem _ hk)) h1 (by omega) (by omega)
    refine ⟨ws', s2, g2, q1, k1, by simp only [List.length_cons]; omega, by simp only [List.length_cons]; omega, (forL_nxt rfl e).trans e2⟩
theorem gnb_step (d : Nat) {cs : List Int} (hc : cs.length = 64) {s : Nat} (hs : s < 2 ^ 38) (gs : List Int) {n : Nat} (hn : 1 < n) (hn2 : n ≤ 1000) {ws : List Wr} (hw : WO2 n ws) (hl : ws.length < 1000) (o1 o2 o3 o4 o7 o8 o9 : Option MV) (x : MV) :
    ∃ (ws' : List Wr) (s' : Nat) (gs' : List Int) (o7' o8' : Option MV), WO2 n ws' ∧ ws'.length = ws.length + 1 ∧ s' ≤ s + 5 ∧ stp (wdAt subT fldT none prT (d + 3) none) (.nm 2) gnB x (gnE n o1 o2 o3 o4 o7 o8 o9) (M cs s gs [.lst (ws.map wv)]) = some (.nxt (gnE n o1 (some x) o3 o4 o7' o8' o9), M cs s' gs' [.lst (ws'.map wv)]) := by
  obtain ⟨v0, g0, p0, q0, e0⟩ := g_draw (d + 1) ((n : Int) - 1) (by omega) (p9000 (by omega)) hc (show s < 2 ^ 40 by omega) gs [.lst (ws.map wv)]
  obtain ⟨v1, g1, p1, q1, e1⟩ := g_draw (d + 1) 3 (by decide) (by decide) hc (show s + 1 < 2 ^ 40 by omega) g0 [.lst (ws.map wv)]
  obtain ⟨v2, g2, p2, q2, e2⟩ := g_draw (d + 1) 4 (by decide) (by decide) hc (show s + 1 + 1 < 2 ^ 40 by omega) g1 [.lst (ws.map wv)]
  obtain ⟨a, rfl⟩ : ∃ k : Nat, v0 = (k : Int) := ⟨v0.toNat, by omega⟩
  obtain ⟨v3, g3, p3, q3, e3⟩ := g_draw (d + 1) ((n : Int) - 1 - (a : Int)) (by omega) (p9000 (by omega)) hc (show s + 1 + 1 + 1 < 2 ^ 40 by omega) g2 [.lst (ws.map wv)]
  obtain ⟨b, rfl⟩ : ∃ k : Nat, v3 = (k : Int) := ⟨v3.toNat, by omega⟩
  obtain ⟨z1, z2⟩ := dvi_draw (a := 2) p1 p2 (show v1 < 4 by omega) q2 (by decide)
  have f := e_lratio (d + 1) (Rat.divInt (1 + v1) (1 + v2)) (M cs (s + 1 + 1 + 1) g2 [.lst (ws.map wv)]) rfl (by omega) (m := 20) (n := 20) (by omega) (by omega) (by omega)
  generalize Rat.divInt (1 + v1) (1 + v2) = q at *
  have ha := M_app cs (s + 1 + 1 + 1 + 1) g3 (ws.map wv) (wv ⟨a, a + 1 + b, q⟩) (by simpa using hl)
  have hl2 := M_ls cs (s + 1 + 1 + 1) g2 (ws.map wv)
  refine ⟨ws ++ [⟨a, a + 1 + b, q⟩], s + 1 + 1 + 1 + 1, g3, some (.int a), some (fr q), hw.snoc ⟨by show a < a + 1 + b; omega, by show a + 1 + b < n; omega, z1, z2⟩, by simp, by omega, ?_⟩
  have hab : ((a + 1 + b : Nat) : Int) = (a : Int) + 1 + (b : Int) := by omega
  simp only [wv, wr, hab] at ha
  simp only [stp, List.map_append, List.map_cons, List.map_nil, wv, wr, hab]
  simp (implicitDefEqProofs := false) [execs, exec, ev, evs, evIt, asg, asgs, asgK, evCmp, ltD_int, outc, most, evBin, bopI, isCls, isCl, blO, intO, dat_int, eqv_int, gc_int, gc_bl, gc_fr, fx0, fx1, e0, e1, e2, e3, f, hl2, ha]
theorem gnb_for (d : Nat) {cs : List Int} (hc : cs.length = 64) {n : Nat} (hn : 1 < n) (hn2 : n ≤ 1000) (o1 o3 o4 o9 : Option MV) : ∀ (xs : List MV) (ws : List Wr) (s : Nat) (gs : List Int) (o2 o7 o8 : Option MV), WO2 n ws → ws.length + xs.length ≤ 1000 → s + 5 * xs.length < 2 ^ 38 →
    ∃ (ws' : List Wr) (s' : Nat) (gs' : List Int) (o2' o7' o8' : Option MV), WO2 n ws' ∧ ws'.length = ws.length + xs.length ∧ s' ≤ s + 5 * xs.length ∧ forL [] (stp (wdAt subT fldT none prT (d + 3) none) (.nm 2) gnB) xs (gnE n o1 o2 o3 o4 o7 o8 o9) (M cs s gs [.lst (ws.map wv)]) = some (.nxt (gnE n o1 o2' o3 o4 o7' o8' o9), M cs s' gs' [.lst (ws'.map wv)])
  | [], ws, s, gs, o2, o7, o8, hw, _, _ => ⟨ws, s, gs, o2, o7, o8, hw, by simp, by simp, forL_nil rfl⟩
  | x :: xs, ws, s, gs, o2, o7, o8, hw, hl, hs => by
    simp only [List.length_cons] at hl hs
    obtain ⟨w1, s1, g1, p7, p8, h1, h2, h3, e⟩ := gnb_step d hc (show s < 2 ^ 38 by omega) gs hn hn2 hw (by omega) o1 o2 o3 o4 o7 o8 o9 x
    obtain ⟨ws', s2, g2, q2, q7, q8, k1, k2, k3, e2⟩ := gnb_for d hc hn hn2 o1 o3 o4 o9 xs w1 s1 g1 (some x) p7 p8 h1 (by omega) (by omega)
    refine ⟨ws', s2, g2, q2, q7, q8, k1, by simp only [List.length_cons]; omega, by simp only [List.length_cons]; omega, (forL_nxt rfl e).trans e2⟩
end MI
end
section
set_option Elab.async false
set_option linter.all false
set_option maxRecDepth 100000
set_option maxHeartbeats 4000000
set_option exponentiation.threshold 20000
namespace MI
open PySem PySem.Spec PyProof.Rows L2
theorem ren2 {n : Nat} {ord : List Nat} (hl : ord.length = n) (hn : ord.Nodup) (hb : ∀ k ∈ ord, k < n) {ws : List Wr} (h : WO2 n ws) : WO2 n (ws.map (ren ord)) :=
  ⟨ren_ok hl hn hb h.1, fun w hw => by
    obtain ⟨u, hu, rfl⟩ := List.mem_map.mp hw
    exact h.2 u hu⟩
theorem sort2 {n : Nat} {ws : List Wr} (h : WO2 n ws) : WO2 n (sortW ws) :=
  ⟨fun w hw => h.1 w ((sortW_perm ws).mem_iff.mp hw), fun w hw => h.2 w ((sortW_perm ws).mem_iff.mp hw)⟩
theorem g_great (d : Nat) {cs : List Int} {s : Nat} (hc : cs.length = 64) (hs : s < 2 ^ 36) (gs : List Int) : ∃ (n p : Nat) (ws : List Wr) (s' : Nat) (gs' : List Int), Fit n p ws ∧ s' ≤ s + 900 ∧ gc (List.length (M cs s gs [])) (M cs s gs []) (den subT fldT none prT (d + 5) none 36 [.loc 0] (M cs s gs [])) = some (.ok (nv n p ws), M cs s' gs' []) := by
  rw [den_at (F := ⟨1, 10, b__law_great_net⟩) rfl rfl (by decide)]
  obtain ⟨v0, g0, p0, q0, e0⟩ := g_draw (d + 2) 6 (by decide) (by decide) hc (show s < 2 ^ 40 by omega) gs []
  obtain ⟨k0, rfl⟩ : ∃ k : Nat, v0 = (k : Int) := ⟨v0.toNat, by omega⟩
  have hk : (7 : Int) + (k0 : Int) = ((7 + k0 : Nat) : Int) := by omega
  have f0 : exec (wdAt subT fldT none prT (d + 4) none) gnS0 [some (.loc 0), none, none, none, none, none, none, none, none, none] (M cs s gs []) = some (.nxt (gnE (7 + k0) none none none none none none none), M cs (s + 1) g0 [.lst []]) := by
    have hM : M cs (s + 1) g0 [] ++ [.lst []] = M cs (s + 1) g0 [.lst []] := rfl
    have hL : (M cs (s + 1) g0 []).length = 2 := rfl
    unfold gnE
    rw [← hk]
    generalize M cs (s + 1) g0 [] = A at *
    simp (implicitDefEqProofs := false) [execs, exec, ev, evs, evIt, asg, asgs, asgK, evCmp, ltD_int, outc, most, evBin, bopI, isCls, isCl, blO, intO, dat_int, eqv_int, gc_int, gc_bl, gc_fr, fx0, fx1, gnS0, e0, hM, hL]
  generalize hn : 7 + k0 = n at *
  -- wires
  obtain ⟨ws1, s1, g1, o1, a1, a2, a3, f1⟩ := gna_for (d + 1) hc (n := n) (by omega) none none none none none none ((List.range (n - 1)).map (1 + ·)) [] (s + 1) g0 none (fun k hk => by
    obtain ⟨j, hj, rfl⟩ := List.mem_map.mp hk
    have := List.mem_range.mp hj
    omega) ⟨by simp [WOk], by simp⟩ (by simp; omega) (by simp; omega)
  simp only [List.length_nil, List.length_map, List.length_range, Nat.zero_add] at a2 a3
  have f1 : exec (wdAt subT fldT none prT (d + 4) none) gnS1 (gnE n none none none none none none none) (M cs (s + 1) g0 [.lst []]) = some (.nxt (gnE n o1 none none none none none none), M cs s1 g1 [.lst (ws1.map wv)]) := by
    have hr := rng_iv2 (show 1 ≤ 1000 by omega) (show n ≤ 1000 by omega)
    exact (fr_ev (g := .nm 1) (b := gnA) (show evIt (wdAt subT fldT none prT (d + 4) none) (.rng (.cons (.con (.int 1)) (.cons (.var 6) .nil))) (gnE n none none none none none none none) (M cs (s + 1) g0 [.lst []]) = some (.ok (iv ((List.range (n - 1)).map (1 + ·)), []), M cs (s + 1) g0 [.lst []]) by
      have hr : rngOf [.int 1, .int n] = some (iv ((List.range (n - 1)).map (1 + ·))) := hr
      generalize iv ((List.range (n - 1)).map (1 + ·)) = r at *
      simp (implicitDefEqProofs := false) [execs, exec, ev, evs, evIt, asg, asgs, asgK, evCmp, ltD_int, outc, most, evBin, bopI, isCls, isCl, blO, intO, dat_int, eqv_int, gc_int, gc_bl, gc_fr, fx0, fx1, hr])).trans f1
  obtain ⟨v2, g2, p2, q2, e2⟩ := g_draw (d + 2) 7 (by decide) (by decide) hc (show s1 < 2 ^ 40 by omega) g1 [.lst (ws1.map wv)]
  obtain ⟨k2, rfl⟩ : ∃ k : Nat, v2 = (k : Int) := ⟨v2.toNat, by omega⟩
  obtain ⟨ws2, s2, g3, o2, o7, o8, b1, b2, b3, f2⟩ := gnb_for (d + 1) hc (n := n) (by omega) (by omega) o1 none none none (iv (List.range k2)) ws1 (s1 + 1) g2 none none none a1 (by simp; omega) (by simp; omega)
  simp only [List.length_map, List.length_range] at b2 b3
  have f2 : exec (wdAt subT fldT none prT (d + 4) none) gnS2 (gnE n o1 none none none none none none) (M cs s1 g1 [.lst (ws1.map wv)]) = some (.nxt (gnE n o1 o2 none none o7 o8 none), M cs s2 g3 [.lst (ws2.map wv)]) := by
    have hr := rng_iv (show k2 ≤ 1000 by omega)
    exact (fr_ev (g := .nm 2) (b := gnB) (show evIt (wdAt subT fldT none prT (d + 4) none) (.rng (.cons (.app false 21 (.cons (.var 0) (.cons (.con (.int 7)) .nil)) []) .nil)) (gnE n o1 none none none none none none) (M cs s1 g1 [.lst (ws1.map wv)]) = some (.ok (iv (List.range k2), []), M cs (s1 + 1) g2 [.lst (ws1.map wv)]) by
      generalize iv (List.range k2) = r at *
      simp (implicitDefEqProofs := false) [execs, exec, ev, evs, evIt, asg, asgs, asgK, evCmp, ltD_int, outc, most, evBin, bopI, isCls, isCl, blO, intO, dat_int, eqv_int, gc_int, gc_bl, gc_fr, fx0, fx1, e2, hr])).trans f2
  have f3 : exec (wdAt subT fldT none prT (d + 4) none) gnS3 (gnE n o1 o2 none none o7 o8 none) (M cs s2 g3 [.lst (ws2.map wv)]) = some (.nxt (gnE n o1 o2 (some (nv n 0 (sortW ws2))) none o7 o8 none), M cs s2 g3 [.lst (ws2.map wv)]) := by
    have z := M_srt cs s2 g3 ws2 (by omega)
    unfold nv
    generalize M cs s2 g3 [.lst (ws2.map wv)] = μ at *
    generalize (sortW ws2).map wv = A at *
    simp (implicitDefEqProofs := false) [execs, exec, ev, evs, evIt, asg, asgs, asgK, evCmp, ltD_int, outc, most, evBin, bopI, isCls, isCl, blO, intO, dat_int, eqv_int, gc_int, gc_bl, gc_fr, fx0, fx1, gnS3, z, bi_tup]
  obtain ⟨ord, g4, r1, e4⟩ := r_order (d + 1) hc (show s2 < 2 ^ 38 by omega) g3 ws2 (n := n) (by omega)
  have f4 : exec (wdAt subT fldT none prT (d + 4) none) gnS4 (gnE n o1 o2 (some (nv n 0 (sortW ws2))) none o7 o8 none) (M cs s2 g3 [.lst (ws2.map wv)]) = some (.nxt (gnE n o1 o2 (some (nv n 0 (sortW ws2))) (some (.lv (iv ord))) o7 o8 none), M cs (s2 + n) g4 [.lst (ws2.map wv)]) := by
    generalize nv n 0 (sortW ws2) = N at *
    generalize iv ord = A at *
    simp (implicitDefEqProofs := false) [execs, exec, ev, evs, evIt, asg, asgs, asgK, evCmp, ltD_int, outc, most, evBin, bopI, isCls, isCl, blO, intO, dat_int, eqv_int, gc_int, gc_bl, gc_fr, fx0, fx1, gnS4, e4]
  have hlo : ord.length = n := by rw [r1.length_eq]; simp
  have hnd : ord.Nodup := r1.nodup_iff.mpr List.nodup_range
  have hon : ∀ k ∈ ord, k < n := fun k hk => List.mem_range.mp (r1.mem_iff.mp hk)
  have hs2 := sort2 b1
  have hls : (sortW ws2).length = ws2.length := (sortW_perm ws2).length_eq
  have f5 : exec (wdAt subT fldT none prT (d + 4) none) gnS5 (gnE n o1 o2 (some (nv n 0 (sortW ws2))) (some (.lv (iv ord))) o7 o8 none) (M cs (s2 + n) g4 [.lst (ws2.map wv)]) = some (.nxt [some (.loc 0), o1, o2, some (nv n 0 (sortW ws2)), some (.lv (iv ord)), some (.loc 3), some (.int n), o7, o8, none], M cs (s2 + n) g4 [.lst (ws2.map wv), .lst (((sortW ws2).map (ren ord)).map wv)]) := by
    have q := lcmL_gen (f := wv) (g := fun w => some (wv (ren ord w))) (gd := []) (step := lcS (wdAt subT fldT none prT (d + 4) none) [7, 9, 8] (.tp (.cons (.nm 7) (.cons (.nm 9) (.cons (.nm 8) .nil)))) (.con (.bl true)) (.tup (.cons (.blt .min2 (.cons (.idx (.var 4) (.var 7)) (.cons (.idx (.var 4) (.var 9)) .nil))) (.cons (.blt .max2 (.cons (.idx (.var 4) (.var 7)) (.cons (.idx (.var 4) (.var 9)) .nil))) (.cons (.var 8) .nil)))) (gnE n o1 o2 (some (nv n 0 (sortW ws2))) (some (.lv (iv ord))) o7 o8 none)) (μ := M cs (s2 + n) g4 [.lst (ws2.map wv)]) rfl (sortW ws2) [] (fun u hu => by
      obtain ⟨h1, h2, _, _⟩ := hs2.1 u hu
      have i1 := ix_iv (M cs (s2 + n) g4 [.lst (ws2.map wv)]) (show u.a < ord.length by omega)
      have i2 := ix_iv (M cs (s2 + n) g4 [.lst (ws2.map wv)]) (show u.b < ord.length by omega)
      have m1 := fun μ => min_two μ (ord.getD u.a 0) (ord.getD u.b 0)
      have m2 := fun μ => max_two μ (ord.getD u.a 0) (ord.getD u.b 0)
      simp only [wv, wr, ren]
      generalize ord.getD u.a 0 = x at *
      generalize ord.getD u.b 0 = y at *
      generalize min x y = mi at *
      generalize max x y = mx at *
      generalize nv n 0 (sortW ws2) = N at *
      generalize iv ord = A at *
      generalize M cs _ _ _ = μ at *
      simp (implicitDefEqProofs := false) [execs, exec, ev, evs, evIt, asg, asgs, asgK, evCmp, ltD_int, outc, most, evBin, bopI, isCls, isCl, blO, intO, dat_int, eqv_int, gc_int, gc_bl, gc_fr, fx0, fx1, lcS, wipe, i1, i2, m1, m2]) (lt_most (by simp (implicitDefEqProofs := false); omega))
    have e := lcm_ev (W := wdAt subT fldT none prT (d + 4) none) (it := .seq (.idx (.var 3) (.con (.int 2)))) (ρ := gnE n o1 o2 (some (nv n 0 (sortW ws2))) (some (.lv (iv ord))) o7 o8 none) (xs := (sortW ws2).map wv) (gd := []) (μ := M cs (s2 + n) g4 [.lst (ws2.map wv)]) (by
      have i2 := nv2 (M cs (s2 + n) g4 [.lst (ws2.map wv)]) n 0 (sortW ws2)
      generalize nv n 0 (sortW ws2) = N at *
      generalize iv ord = A at *
      generalize M cs _ _ _ = μ at *
      simp (implicitDefEqProofs := false) [execs, exec, ev, evs, evIt, asg, asgs, asgK, evCmp, ltD_int, outc, most, evBin, bopI, isCls, isCl, blO, intO, dat_int, eqv_int, gc_int, gc_bl, gc_fr, fx0, fx1, i2, sqOf, gdOf]) q
    have hx : ([] ++ List.filterMap (fun w => some (wv (ren ord w))) (sortW ws2)) = ((sortW ws2).map (ren ord)).map wv := by
      rw [List.nil_append, List.filterMap_eq_map', List.map_map]; rfl
    rw [hx] at e
    have hM : M cs (s2 + n) g4 [.lst (ws2.map wv)] ++ [.lst (((sortW ws2).map (ren ord)).map wv)] = M cs (s2 + n) g4 [.lst (ws2.map wv), .lst (((sortW ws2).map (ren ord)).map wv)] := rfl
    have hL : (M cs (s2 + n) g4 [.lst (ws2.map wv)]).length = 3 := rfl
    unfold gnS5
    rw [exec, ev, e]
    generalize nv n 0 (sortW ws2) = N at *
    generalize iv ord = A at *
    generalize ((sortW ws2).map (ren ord)).map wv = B at *
    generalize M cs (s2 + n) g4 [.lst (ws2.map wv)] = μ at *
    simp (implicitDefEqProofs := false) [execs, exec, ev, evs, evIt, asg, asgs, asgK, evCmp, ltD_int, outc, most, evBin, bopI, isCls, isCl, blO, intO, dat_int, eqv_int, gc_int, gc_bl, gc_fr, fx0, fx1, hM, hL]
  have hs3 := ren2 hlo hnd hon hs2
  have hl3 : ((sortW ws2).map (ren ord)).length ≤ 17 := by rw [List.length_map, hls]; omega
  generalize (sortW ws2).map (ren ord) = ws3 at *
  have hs4 := sort2 hs3
  have hl4 : (sortW ws3).length ≤ 17 := by rw [(sortW_perm ws3).length_eq]; exact hl3
  suffices hh : ∃ (p : Nat) (s' : Nat) (gs' : List Int), p ≤ 8 ∧ p ≤ n ∧ s' ≤ s + 900 ∧ exec (wdAt subT fldT none prT (d + 4) none) gnS6 [some (.loc 0), o1, o2, some (nv n 0 (sortW ws2)), some (.lv (iv ord)), some (.loc 3), some (.int n), o7, o8, none] (M cs (s2 + n) g4 [.lst (ws2.map wv), .lst (ws3.map wv)]) = some (.ret (nv n p (sortW ws3)), M cs s' gs' [.lst (ws2.map wv), .lst (ws3.map wv)]) by
    obtain ⟨p, s', g', h1, h2, h3, f6⟩ := hh
    refine ⟨n, p, sortW ws3, s', g', fit_of (good_sort hs3.1 (by omega) h2 h1 (by omega)) (by omega) (t := 2) hs4.2 (by omega) (by omega), h3, ?_⟩
    show gc _ _ (outc (execs (wdAt subT fldT none prT (d + 4) none) gnS [some (.loc 0), none, none, none, none, none, none, none, none, none] (M cs s gs []))) = _
    unfold gnS
    rw [execs, f0, seqK_nxt, execs, f1, seqK_nxt, execs, f2, seqK_nxt, execs, f3, seqK_nxt, execs, f4, seqK_nxt, execs, f5, seqK_nxt, execs, f6, seqK_ret]
    exact gc_Mg cs s gs _ _ (noL_nv _ _ _) s' g'
  have z : ∀ s' g', evBi (M cs s' g' [.lst (ws2.map wv), .lst (ws3.map wv)]) .srt1 [.loc 3] = some (.lv ((sortW ws3).map wv)) := fun s' g' => srt_at (k := 3) (ws := ws3) (by omega) rfl
  by_cases h7 : 7 < n
  · obtain ⟨v5, g5, p5, q5, e5⟩ := g_draw (d + 2) 9 (by decide) (by decide) hc (show s2 + n < 2 ^ 40 by omega) g4 [.lst (ws2.map wv), .lst (ws3.map wv)]
    obtain ⟨p, rfl⟩ : ∃ k : Nat, v5 = (k : Int) := ⟨v5.toNat, by omega⟩
    refine ⟨p, s2 + n + 1, g5, by omega, by omega, by omega, ?_⟩
    have z := z (s2 + n + 1) g5
    have h7' : (7 : Int) < n := by omega
    unfold nv
    generalize (sortW ws3).map wv = A at *
    generalize iv ord = B at *
    generalize (sortW ws2).map wv = C at *
    generalize M cs (s2 + n) g4 [.lst (ws2.map wv), .lst (ws3.map wv)] = μ at *
    generalize M cs (s2 + n + 1) g5 [.lst (ws2.map wv), .lst (ws3.map wv)] = μ1 at *
    simp (implicitDefEqProofs := false) [execs, exec, ev, evs, evIt, asg, asgs, asgK, evCmp, ltD_int, outc, most, evBin, bopI, isCls, isCl, blO, intO, dat_int, eqv_int, gc_int, gc_bl, gc_fr, fx0, fx1, gnS6, h7', e5, z, bi_tup]
  · obtain ⟨v5, g5, p5, q5, e5⟩ := g_draw (d + 2) 8 (by decide) (by decide) hc (show s2 + n < 2 ^ 40 by omega) g4 [.lst (ws2.map wv), .lst (ws3.map wv)]
    obtain ⟨p, rfl⟩ : ∃ k : Nat, v5 = (k : Int) := ⟨v5.toNat, by omega⟩
    refine ⟨p, s2 + n + 1, g5, by omega, by omega, by omega, ?_⟩
    have z := z (s2 + n + 1) g5
    have h7' : ¬ (7 : Int) < n := by omega
    unfold nv
    generalize (sortW ws3).map wv = A at *
    generalize iv ord = B at *
    generalize (sortW ws2).map wv = C at *
    generalize M cs (s2 + n) g4 [.lst (ws2.map wv), .lst (ws3.map wv)] = μ at *
    generalize M cs (s2 + n + 1) g5 [.lst (ws2.map wv), .lst (ws3.map wv)] = μ1 at *
    simp (implicitDefEqProofs := false) [execs, exec, ev, evs, evIt, asg, asgs, asgK, evCmp, ltD_int, outc, most, evBin, bopI, isCls, isCl, blO, intO, dat_int, eqv_int, gc_int, gc_bl, gc_fr, fx0, fx1, gnS6, h7', e5, z, bi_tup]
end MI
end
section
set_option Elab.async false
set_option linter.all false
set_option maxRecDepth 100000
set_option maxHeartbeats 4000000
set_option exponentiation.threshold 20000
namespace MI
open PySem PySem.Spec PyProof.Rows L2
def lrS0 : S := (.ite (.nt (.app false 24 (.cons (.lst (.cons (.app false 14 (.cons (.var 1) .nil) []) (.cons (.apk 14 (.cons (.var 1) .nil) [.inl 0]) .nil))) (.cons (.bin .mul (.lst (.cons (.blt .tup1 (.cons (.app false 34 (.cons (.var 1) .nil) []) .nil)) .nil)) (.con (.int 2))) .nil)) [])) (.cons (.ret (.con (.bl false))) .nil) .nil)
def lrS1 : S := (.asg (.tp (.cons (.nm 5) (.cons (.nm 6) .nil))) (.tup (.cons (.app false 21 (.cons (.var 0) (.cons (.idx (.var 1) (.con (.int 0))) .nil)) []) (.cons (.app false 21 (.cons (.var 0) (.cons (.con (.int 10)) .nil)) []) .nil))))
def lrS2 : S := (.asg (.nm 2) (.app false 38 (.cons (.var 1) (.cons (.var 5) (.cons (.var 6) .nil))) []))
def lrS3 : S := (.asg (.nm 3) (.lst (.cons (.app false 17 (.cons (.var 1) (.cons (.var 5) (.cons (.var 6) .nil))) []) (.cons (.apk 17 (.cons (.var 6) (.cons (.var 5) (.cons (.var 1) .nil))) [.inl 2, .inl 1, .inl 0]) .nil))))
def lrS4 : S := (.ite (.nt (.app false 24 (.cons (.bin .add (.var 3) (.lst (.cons (.apk 18 (.cons (.var 5) (.cons (.var 1) .nil)) [.inl 1, .inl 0]) .nil))) (.cons (.lst (.cons (.var 2) (.cons (.var 2) (.cons (.app false 38 (.cons (.var 1) (.cons (.var 5) (.cons (.con (.int 1)) .nil))) []) .nil)))) .nil)) [])) (.cons (.ret (.con (.bl false))) .nil) .nil)
def lrS5 : S := (.asg (.tp (.cons (.nm 7) (.cons (.nm 8) .nil))) (.tup (.cons (.app false 34 (.cons (.var 1) .nil) []) (.cons (.app false 21 (.cons (.var 0) (.cons (.idx (.var 1) (.con (.int 0))) .nil)) []) .nil))))
def lrS6 : S := (.asg (.nm 4) (.idx (.app false 17 (.cons (.var 1) (.cons (.var 8) (.cons (.var 6) .nil))) []) (.var 5)))
def lrS7 : S := (.ite (.cmp .ne (.app false 29 (.cons (.lst (.cons (.idx (.var 7) (.var 5)) (.cons (.idx (.var 2) (.var 8)) .nil))) .nil) []) (.app false 29 (.cons (.lst (.cons (.idx (.var 7) (.var 8)) (.cons (.var 4) .nil))) .nil) [])) (.cons (.ret (.con (.bl false))) .nil) .nil)
def lrS8 : S := (.ret (.cmp .eq (.app false 28 (.cons (.var 2) .nil) []) (.tup (.cons (.con (.int 1)) (.cons (.con (.int 1)) .nil)))))
def lrS : SS := (.cons lrS0 (.cons lrS1 (.cons lrS2 (.cons lrS3 (.cons lrS4 (.cons lrS5 (.cons lrS6 (.cons lrS7 (.cons lrS8 .nil)))))))))
noncomputable abbrev W13 : Wd := wdAt subT fldT none prT 13 none
section
variable {n p : Nat} {ws : List Wr} (f : Fit n p ws)
include f
theorem fit_sz {i : Nat} (hi : i < n) {k : Nat} (hk : k < 9) : Sz n ws (ddn n ws ^ k) (sk ws k (dl i)) where
  wn := good_wn f.g
  bd := fun w hw => (f.g.ok w hw).2.2.2
  le := f.g.hw
  hn := by have := f.g.hn; omega
  cv := cv_sk (good_wn f.g) hi k
  d0 := Nat.pow_pos (ddq_pos (good_wn f.g))
  d1 := by
    have h : ddn n ws ^ k ≤ (2 ^ 600) ^ k := Nat.pow_le_pow_left f.dd k
    rw [← Nat.pow_mul] at h
    exact Nat.le_trans h (Nat.pow_le_pow_right (by decide) (by omega))
  d2 := by
    have h : ddn n ws ^ (k + 1) ≤ (2 ^ 600) ^ (k + 1) := Nat.pow_le_pow_left f.dd (k + 1)
    rw [← Nat.pow_mul] at h
    rw [← Nat.pow_succ]
    exact Nat.le_trans h (Nat.pow_le_pow_right (by decide) (by omega))
theorem fit_hz {i : Nat} (hi : i < n) {N : Nat} (hN : N ≤ 9) : ∀ k, k < N → Sz n ws (ddn n ws ^ k) (sk ws k (dl i)) ∧ ∀ v, v < n → st ws (sk ws k (dl i)) v = sk ws (k + 1) (dl i) v :=
  fun k hk => ⟨fit_sz f hi (by omega), fun v _ => rfl⟩
theorem fit_D {k : Nat} (hk : k ≤ 9) : 0 < ddn n ws ^ k ∧ ddn n ws ^ k ≤ 2 ^ 6000 := by
  refine ⟨Nat.pow_pos (ddq_pos (good_wn f.g)), ?_⟩
  have h : ddn n ws ^ k ≤ (2 ^ 600) ^ k := Nat.pow_le_pow_left f.dd k
  rw [← Nat.pow_mul] at h
  exact Nat.le_trans h (Nat.pow_le_pow_right (by decide) (by omega))
theorem fit_bd {i : Nat} (hi : i < n) {k : Nat} (hk : k ≤ 9) {v : Nat} (hv : v < n) : Bd 6000 6000 (sk ws k (dl i) v) := by
  have h := cv_sk (good_wn f.g) hi k
  exact pt_bd ⟨h.nn v hv, h.le hv, h.wh v hv⟩ (fit_D f hk).1 (fit_D f hk).2
theorem fit_wbd (u : Nat) : Bd 840 800 (wt ws u) := (wt_bd (fun w hw => (f.g.ok w hw).2.2.2) u).mono (by have := f.g.hw; omega) (by have := f.g.hw; omega)
end
theorem Pl_rv (n : Nat) (hn : n ≤ 100) (c : Nat → Rat) : Pl 2 (.tup (rv n c)) := ⟨by rw [rv_len]; omega, fun x hx => by
  obtain ⟨u, _, rfl⟩ := List.mem_map.mp hx
  exact Pl_fr _⟩
theorem noL_tr (n : Nat) (c : Nat → Rat) : (MV.tup (rv n c)).noL = true := by simp only [MV.noL, noL_rv]
theorem lk_lv {n : Nat} {xs : List MV} (h : ∀ x ∈ xs, Pl n x) (hl : xs.length ≤ 1000) (d : Nat) (μ : Mem) (hn : n + 1 ≤ d) : den subT fldT none prT (d + 1) none 24 [.lv xs, .lv xs] μ = some (.ok (.bl true), μ) :=
  r_like (n + 1) (.lv xs) ⟨hl, h⟩ d μ hn
section
variable {cs : List Int} (hc : cs.length = 64)
include hc
theorem r_right {n p : Nat} {ws : List Wr} (f : Fit n p ws) {s : Nat} (hs : s < 2 ^ 36) (gs : List Int) :
    ∃ (gs' : List Int), gc (List.length (M cs s gs [])) (M cs s gs []) (den subT fldT none prT 14 none 40 [.loc 0, nv n p ws] (M cs s gs [])) = some (.ok (.bl true), M cs (s + 3) gs' []) := by
  have hn0 := f.n0
  have hn := f.g.hn
  have hw := good_wn f.g
  have hb := fun w hw => (f.g.ok w hw).2.2.2
  have lw := fun μ => g_lweights 9 (p := p) (show n ≤ 100 by omega) hw hb f.g.hw μ
  obtain ⟨v1, g1, p1, q1, e1⟩ := g_draw 11 (n : Int) (by omega) (p9000 (by omega)) hc (show s < 2 ^ 40 by omega) gs []
  obtain ⟨v2, g2, p2, q2, e2⟩ := g_draw 11 10 (by decide) (by decide) hc (show s + 1 < 2 ^ 40 by omega) g1 []
  obtain ⟨v3, g3, p3, q3, e3⟩ := g_draw 11 (n : Int) (by omega) (p9000 (by omega)) hc (show s + 1 + 1 < 2 ^ 40 by omega) g2 []
  obtain ⟨i, rfl⟩ : ∃ k : Nat, v1 = (k : Int) := ⟨v1.toNat, by omega⟩
  obtain ⟨N, rfl⟩ : ∃ k : Nat, v2 = (k : Int) := ⟨v2.toNat, by omega⟩
  obtain ⟨j, rfl⟩ : ∃ k : Nat, v3 = (k : Int) := ⟨v3.toNat, by omega⟩
  have hi : i < n := by omega
  have hj : j < n := by omega
  have hN : N ≤ 9 := by omega
  refine ⟨g3, ?_⟩
  rw [den_at (F := ⟨2, 9, b__law_right⟩) rfl rfl (by decide)]
  have i0 := fun μ => nv0 μ n p ws
  have f0 : exec W13 lrS0 [some (.loc 0), some (nv n p ws), none, none, none, none, none, none, none] (M cs s gs []) = some (.nxt [some (.loc 0), some (nv n p ws), none, none, none, none, none, none, none], M cs s gs []) := by
    have a1 := r_node_weights 7 f.g (M cs s gs [])
    have a2 := gc_same (μ := M cs s gs []) (noL_tr n (wt ws))
    have a3 := lw (M cs s gs [])
    have a4 := lk_lv (n := 2) (xs := [.tup (rv n (wt ws)), .tup (rv n (wt ws))]) (fun x hx => by
      have hx : x = .tup (rv n (wt ws)) := by simpa using hx
      subst hx
      exact Pl_rv n (by omega) _) (by simp) 12 (M cs s gs []) (by omega)
    generalize rv n (wt ws) = R at *
    generalize nv n p ws = E at *
    generalize M cs s gs [] = μ at *
    simp (implicitDefEqProofs := false) [execs, exec, ev, evs, evIt, asg, asgs, asgK, evCmp, ltD_int, outc, most, evBin, bopI, isCls, isCl, blO, intO, dat_int, eqv_int, gc_int, gc_bl, gc_fr, fx0, fx1, lrS0, a1, a2, a3, a4, selA, lsOf, bi_tup, List.replicate]
  have f1 : exec W13 lrS1 [some (.loc 0), some (nv n p ws), none, none, none, none, none, none, none] (M cs s gs []) = some (.nxt [some (.loc 0), some (nv n p ws), none, none, none, some (.int i), some (.int N), none, none], M cs (s + 1 + 1) g2 []) := by
    generalize nv n p ws = E at *
    simp (implicitDefEqProofs := false) [execs, exec, ev, evs, evIt, asg, asgs, asgK, evCmp, ltD_int, outc, most, evBin, bopI, isCls, isCl, blO, intO, dat_int, eqv_int, gc_int, gc_bl, gc_fr, fx0, fx1, lrS1, i0, e1, e2]
  have hz := fit_hz f hi hN
  have due := fun μ => r_lafter 7 p (show n ≤ 100 by omega) (show N ≤ 60 by omega) (D := fun k => ddn n ws ^ k) (c := fun k => sk ws k (dl i)) hz (fun v _ => rfl) μ
  have cha := fun μ => r_chances 7 f.g (show N ≤ 60 by omega) (D := fun k => ddn n ws ^ k) (c := fun k => sk ws k (dl i)) hz hi (fun v _ => rfl) μ
  have chb := fun μ => r_chances 7 f.g (show N ≤ 60 by omega) (D := fun k => ddn n ws ^ k) (c := fun k => sk ws k (dl j)) (fit_hz f hj hN) hj (fun v _ => rfl) μ
  have due1 := fun μ => r_lafter 7 p (show n ≤ 100 by omega) (show 1 ≤ 60 by omega) (D := fun k => ddn n ws ^ k) (c := fun k => sk ws k (dl i)) (fit_hz f hi (show 1 ≤ 9 by omega)) (fun v _ => rfl) μ
  have ch1 := fun μ => r_step1 6 μ (noL_tr n (sk ws 1 (dl i))) (r_chances 6 f.g (show 1 ≤ 60 by omega) (D := fun k => ddn n ws ^ k) (c := fun k => sk ws k (dl i)) (fit_hz f hi (show 1 ≤ 9 by omega)) hi (fun v _ => rfl) μ)
  have gN := fun μ => gc_same (μ := μ) (noL_tr n (sk ws N (dl i)))
  have gB := fun μ => gc_same (μ := μ) (noL_tr n (sk ws N (dl j)))
  have g1' := fun μ => gc_same (μ := μ) (noL_tr n (sk ws 1 (dl i)))
  have f2 : exec W13 lrS2 [some (.loc 0), some (nv n p ws), none, none, none, some (.int i), some (.int N), none, none] (M cs (s + 1 + 1) g2 []) = some (.nxt [some (.loc 0), some (nv n p ws), some (.tup (rv n (sk ws N (dl i)))), none, none, some (.int i), some (.int N), none, none], M cs (s + 1 + 1) g2 []) := by
    have a1 := due (M cs (s + 1 + 1) g2 [])
    generalize M cs (s + 1 + 1) g2 [] = μ at *
    have gN := gN μ
    clear cha chb due1 ch1 due
    generalize rv n (sk ws N (dl i)) = R at *
    generalize nv n p ws = E at *
    simp (implicitDefEqProofs := false) [execs, exec, ev, evs, evIt, asg, asgs, asgK, evCmp, ltD_int, outc, most, evBin, bopI, isCls, isCl, blO, intO, dat_int, eqv_int, gc_int, gc_bl, gc_fr, fx0, fx1, lrS2, a1, gN]
  have f3 : exec W13 lrS3 [some (.loc 0), some (nv n p ws), some (.tup (rv n (sk ws N (dl i)))), none, none, some (.int i), some (.int N), none, none] (M cs (s + 1 + 1) g2 []) = some (.nxt [some (.loc 0), some (nv n p ws), some (.tup (rv n (sk ws N (dl i)))), some (.lv [.tup (rv n (sk ws N (dl i))), .tup (rv n (sk ws N (dl i)))]), none, some (.int i), some (.int N), none, none], M cs (s + 1 + 1) g2 []) := by
    have a1 := cha (M cs (s + 1 + 1) g2 [])
    generalize M cs (s + 1 + 1) g2 [] = μ at *
    have gN := gN μ
    clear cha chb due1 ch1 due
    generalize rv n (sk ws N (dl i)) = R at *
    generalize nv n p ws = E at *
    simp (implicitDefEqProofs := false) [execs, exec, ev, evs, evIt, asg, asgs, asgK, evCmp, ltD_int, outc, most, evBin, bopI, isCls, isCl, blO, intO, dat_int, eqv_int, gc_int, gc_bl, gc_fr, fx0, fx1, lrS3, a1, gN, selA]
  have f4 : exec W13 lrS4 [some (.loc 0), some (nv n p ws), some (.tup (rv n (sk ws N (dl i)))), some (.lv [.tup (rv n (sk ws N (dl i))), .tup (rv n (sk ws N (dl i)))]), none, some (.int i), some (.int N), none, none] (M cs (s + 1 + 1) g2 []) = some (.nxt [some (.loc 0), some (nv n p ws), some (.tup (rv n (sk ws N (dl i)))), some (.lv [.tup (rv n (sk ws N (dl i))), .tup (rv n (sk ws N (dl i)))]), none, some (.int i), some (.int N), none, none], M cs (s + 1 + 1) g2 []) := by
    have a1 := ch1 (M cs (s + 1 + 1) g2 [])
    have a2 := due1 (M cs (s + 1 + 1) g2 [])
    have a3 := g1' (M cs (s + 1 + 1) g2 [])
    have a4 := lk_lv (n := 2) (xs := [.tup (rv n (sk ws N (dl i))), .tup (rv n (sk ws N (dl i))), .tup (rv n (sk ws 1 (dl i)))]) (fun x hx => by
      simp only [List.mem_cons, List.not_mem_nil, or_false] at hx
      rcases hx with rfl | rfl | rfl <;> exact Pl_rv n (by omega) _) (by simp) 12 (M cs (s + 1 + 1) g2 []) (by omega)
    have a2 : den subT fldT none prT 13 none 38 [nv n p ws, .int i, .int 1] (M cs (s + 1 + 1) g2 []) = _ := a2
    clear cha chb due1 ch1 due gN
    generalize M cs (s + 1 + 1) g2 [] = μ at *
    generalize rv n (sk ws N (dl i)) = R at *
    generalize rv n (sk ws 1 (dl i)) = R1 at *
    generalize nv n p ws = E at *
    simp (implicitDefEqProofs := false) [execs, exec, ev, evs, evIt, asg, asgs, asgK, evCmp, ltD_int, outc, most, evBin, bopI, isCls, isCl, blO, intO, dat_int, eqv_int, gc_int, gc_bl, gc_fr, fx0, fx1, lrS4, a1, a2, a3, a4, selA, lsOf]
  have f5 : exec W13 lrS5 [some (.loc 0), some (nv n p ws), some (.tup (rv n (sk ws N (dl i)))), some (.lv [.tup (rv n (sk ws N (dl i))), .tup (rv n (sk ws N (dl i)))]), none, some (.int i), some (.int N), none, none] (M cs (s + 1 + 1) g2 []) = some (.nxt [some (.loc 0), some (nv n p ws), some (.tup (rv n (sk ws N (dl i)))), some (.lv [.tup (rv n (sk ws N (dl i))), .tup (rv n (sk ws N (dl i)))]), none, some (.int i), some (.int N), some (.lv (rv n (wt ws))), some (.int j)], M cs (s + 1 + 1 + 1) g3 []) := by
    have a1 := lw (M cs (s + 1 + 1) g2 [])
    clear cha chb due1 ch1 due gN
    generalize M cs (s + 1 + 1) g2 [] = μ at *
    generalize rv n (sk ws N (dl i)) = R at *
    generalize rv n (wt ws) = R1 at *
    generalize nv n p ws = E at *
    simp (implicitDefEqProofs := false) [execs, exec, ev, evs, evIt, asg, asgs, asgK, evCmp, ltD_int, outc, most, evBin, bopI, isCls, isCl, blO, intO, dat_int, eqv_int, gc_int, gc_bl, gc_fr, fx0, fx1, lrS5, a1, i0, e3]
  have f6 : exec W13 lrS6 [some (.loc 0), some (nv n p ws), some (.tup (rv n (sk ws N (dl i)))), some (.lv [.tup (rv n (sk ws N (dl i))), .tup (rv n (sk ws N (dl i)))]), none, some (.int i), some (.int N), some (.lv (rv n (wt ws))), some (.int j)] (M cs (s + 1 + 1 + 1) g3 []) = some (.nxt [some (.loc 0), some (nv n p ws), some (.tup (rv n (sk ws N (dl i)))), some (.lv [.tup (rv n (sk ws N (dl i))), .tup (rv n (sk ws N (dl i)))]), some (fr (sk ws N (dl j) i)), some (.int i), some (.int N), some (.lv (rv n (wt ws))), some (.int j)], M cs (s + 1 + 1 + 1) g3 []) := by
    have a1 := chb (M cs (s + 1 + 1 + 1) g3 [])
    have a2 := gB (M cs (s + 1 + 1 + 1) g3 [])
    have a3 := ix_rvt (M cs (s + 1 + 1 + 1) g3 []) (sk ws N (dl j)) hi
    clear cha chb due1 ch1 due gN
    generalize M cs (s + 1 + 1 + 1) g3 [] = μ at *
    generalize rv n (sk ws N (dl i)) = R at *
    generalize rv n (sk ws N (dl j)) = R2 at *
    generalize rv n (wt ws) = R1 at *
    generalize nv n p ws = E at *
    simp (implicitDefEqProofs := false) [execs, exec, ev, evs, evIt, asg, asgs, asgK, evCmp, ltD_int, outc, most, evBin, bopI, isCls, isCl, blO, intO, dat_int, eqv_int, gc_int, gc_bl, gc_fr, fx0, fx1, lrS6, a1, a2, a3]
  have f7 : exec W13 lrS7 [some (.loc 0), some (nv n p ws), some (.tup (rv n (sk ws N (dl i)))), some (.lv [.tup (rv n (sk ws N (dl i))), .tup (rv n (sk ws N (dl i)))]), some (fr (sk ws N (dl j) i)), some (.int i), some (.int N), some (.lv (rv n (wt ws))), some (.int j)] (M cs (s + 1 + 1 + 1) g3 []) = some (.nxt [some (.loc 0), some (nv n p ws), some (.tup (rv n (sk ws N (dl i)))), some (.lv [.tup (rv n (sk ws N (dl i))), .tup (rv n (sk ws N (dl i)))]), some (fr (sk ws N (dl j) i)), some (.int i), some (.int N), some (.lv (rv n (wt ws))), some (.int j)], M cs (s + 1 + 1 + 1) g3 []) := by
    have a1 := ix_rvl (M cs (s + 1 + 1 + 1) g3 []) (wt ws) hi
    have a2 := ix_rvl (M cs (s + 1 + 1 + 1) g3 []) (wt ws) hj
    have a3 := ix_rvt (M cs (s + 1 + 1 + 1) g3 []) (sk ws N (dl i)) hj
    have a4 := r_ltimes2 10 (M cs (s + 1 + 1 + 1) g3 []) (fit_wbd f i) (fit_bd f hi hN hj) (by omega) (by omega) (by omega) (by omega)
    have a5 := r_ltimes2 10 (M cs (s + 1 + 1 + 1) g3 []) (fit_wbd f j) (fit_bd f hj hN hi) (by omega) (by omega) (by omega) (by omega)
    rw [← sk_rev hw N hi hj] at a5
    have a6 := ne_fr (M cs (s + 1 + 1 + 1) g3 []) (wt ws i * sk ws N (dl i) j) (wt ws i * sk ws N (dl i) j)
    simp only [decide_true, Bool.not_true] at a6
    clear cha chb due1 ch1 due gN
    generalize M cs (s + 1 + 1 + 1) g3 [] = μ at *
    generalize rv n (sk ws N (dl i)) = R at *
    generalize rv n (wt ws) = R1 at *
    generalize nv n p ws = E at *
    generalize wt ws i * sk ws N (dl i) j = P at *
    generalize wt ws i = A1 at *
    generalize wt ws j = A2 at *
    generalize sk ws N (dl i) j = A3 at *
    generalize sk ws N (dl j) i = A4 at *
    simp (implicitDefEqProofs := false) [lrS7, execs, exec, ev, evs, most, gc_fr, a1, a2, a3, a4, a5, a6]
  have f8 : exec W13 lrS8 [some (.loc 0), some (nv n p ws), some (.tup (rv n (sk ws N (dl i)))), some (.lv [.tup (rv n (sk ws N (dl i))), .tup (rv n (sk ws N (dl i)))]), some (fr (sk ws N (dl j) i)), some (.int i), some (.int N), some (.lv (rv n (wt ws))), some (.int j)] (M cs (s + 1 + 1 + 1) g3 []) = some (.ret (.bl true), M cs (s + 1 + 1 + 1) g3 []) := by
    have hcv := cv_sk hw hi N
    have hx : rv n (sk ws N (dl i)) = ((List.range n).map (sk ws N (dl i))).map fr := by rw [List.map_map]; rfl
    have hch : Ch 0 ((List.range n).map (sk ws N (dl i))) := Ch_pt (fit_D f hN).1 (fit_D f hN).2 _ _ Rat.le_refl ⟨0, by simp⟩ (fun q hq => by
      obtain ⟨u, hu, rfl⟩ := List.mem_map.mp hq
      exact ⟨hcv.nn u (List.mem_range.mp hu), hcv.wh u (List.mem_range.mp hu)⟩) (by
      rw [sm_map, Rat.zero_add]
      show sm (List.range n) (sk ws N (dl i)) ≤ 1
      rw [hcv.one]
      exact Rat.le_refl)
    have a1 := r_lsum 10 (.tup (rv n (sk ws N (dl i)))) ((List.range n).map (sk ws N (dl i))) (M cs (s + 1 + 1 + 1) g3 []) (by rw [hx] <;> rfl) rfl hch
    rw [foldl_sm, sm_map, Rat.zero_add] at a1
    rw [show (sm (List.range n) fun a => id (sk ws N (dl i) a)) = 1 from hcv.one] at a1
    have a6 := cmp_fr (M cs (s + 1 + 1 + 1) g3 []) 1 1
    simp only [decide_true] at a6
    clear cha chb due1 ch1 due gN hx hch hcv
    generalize M cs (s + 1 + 1 + 1) g3 [] = μ at *
    generalize rv n (sk ws N (dl i)) = R at *
    generalize rv n (wt ws) = R1 at *
    generalize nv n p ws = E at *
    simp (implicitDefEqProofs := false) [lrS8, execs, exec, ev, evs, most, gc_fr, fr1, a1, a6]
  show gc _ _ (outc (execs W13 lrS [some (.loc 0), some (nv n p ws), none, none, none, none, none, none, none] (M cs s gs []))) = _
  unfold lrS
  rw [execs, f0, seqK_nxt, execs, f1, seqK_nxt, execs, f2, seqK_nxt, execs, f3, seqK_nxt, execs, f4, seqK_nxt, execs, f5, seqK_nxt, execs, f6, seqK_nxt, execs, f7, seqK_nxt, execs, f8, seqK_ret]
  exact gc_M cs s gs [] (.bl true) rfl (s + 1 + 1 + 1) g3
end
end MI
end
section
set_option Elab.async false
set_option linter.all false
set_option maxRecDepth 100000
set_option maxHeartbeats 4000000
set_option exponentiation.threshold 20000
namespace MI
open PySem PySem.Spec PyProof.Rows L2
theorem plS (n : Nat) (s : Str) (h : (PyData.str s).canLay0 = true) : Pl n (.str s) := by cases n <;> exact h
theorem plBo (n : Nat) (b : Bool) : Pl n (.bl b) := by cases n <;> trivial
theorem plIn (n : Nat) (i : Int) : Pl n (.int i) := by cases n <;> trivial
theorem Pl_pair {n : Nat} {u v : MV} (h : Pl n u) (g : Pl n v) : Pl (n + 1) (.tup [u, v]) := ⟨by simp, fun w hw => by simp at hw; rcases hw with rfl | rfl <;> first | exact h | exact g⟩
theorem toDs_mem {n : Nat} (ih : ∀ v, Pl n v → ∃ d, v.toD = some d ∧ d.canLay0 = true ∧ d.depth ≤ n + 2 ∧ v.noL = true) : ∀ xs : List MV, (∀ x ∈ xs, Pl n x) → ∃ ds, MV.toDs xs = some ds ∧ PyData.canLayAll0 ds = true ∧ PyData.depthAll ds ≤ n + 2 ∧ ds.length = xs.length ∧ MV.noLs xs = true
  | [], _ => ⟨[], rfl, rfl, by simp [PyData.depthAll], rfl, rfl⟩
  | x :: xs, h => by
    obtain ⟨d, a1, a2, a3, a4⟩ := ih x (h x List.mem_cons_self)
    obtain ⟨ds, b1, b2, b3, b4, b5⟩ := toDs_mem ih xs fun y hy => h y (List.mem_cons_of_mem _ hy)
    refine ⟨d :: ds, by simp only [MV.toDs, a1, b1, Option.bind_some, Option.map_some], by simp only [PyData.canLayAll0, a2, b2, Bool.and_self], by simp only [PyData.depthAll]; omega, by simp [b4], by simp only [MV.noLs, a4, b5, Bool.and_self]⟩
theorem toD_pl : ∀ (n : Nat) (v : MV), Pl n v → ∃ d, v.toD = some d ∧ d.canLay0 = true ∧ d.depth ≤ n + 2 ∧ v.noL = true
  | n, .non, _ => ⟨.none, rfl, rfl, by simp [PyData.depth], rfl⟩
  | n, .bl b, _ => ⟨.bool b, rfl, rfl, by simp [PyData.depth], rfl⟩
  | n, .int i, _ => ⟨.int i, rfl, rfl, by simp [PyData.depth], rfl⟩
  | n, .str s, h => ⟨.str s, rfl, by cases n <;> exact h, by simp [PyData.depth], rfl⟩
  | 0, .tup xs, h => h.elim
  | 0, .lv xs, h => h.elim
  | n + 1, .tup xs, h => by
    obtain ⟨ds, b1, b2, b3, b4, b5⟩ := toDs_mem (toD_pl n) xs h.2
    exact ⟨.tuple ds, by simp only [MV.toD, b1, Option.map_some], by simp only [PyData.canLay0, b2], by simp only [PyData.depth]; omega, by simp only [MV.noL, b5]⟩
  | n + 1, .lv xs, h => by
    obtain ⟨ds, b1, b2, b3, b4, b5⟩ := toDs_mem (toD_pl n) xs h.2
    exact ⟨.list ds, by simp only [MV.toD, b1, Option.map_some], by simp only [PyData.canLay0, b2], by simp only [PyData.depth]; omega, by simp only [MV.noL, b5]⟩
  | n, .loc _, h => by cases n <;> exact h.elim
  | n, .exo _ _, h => by cases n <;> exact h.elim
  | n, .thk _, h => by cases n <;> exact h.elim
  | n, .fl _, h => by cases n <;> exact h.elim
theorem dat_pl {n : Nat} {v : MV} (h : Pl n v) (hn : n ≤ 50) (μ : Mem) : ∃ d, v.toD = some d ∧ dat μ v = some d := by
  obtain ⟨d, a1, a2, a3, a4⟩ := toD_pl n v h
  have h3 : d.depth ≤ 64 := by omega
  refine ⟨d, a1, ?_⟩
  simp only [dat, frz, rd_noL a4, Option.bind_some, a1, SeqAt.shaped, a2, h3, decide_true, Bool.and_self, if_true]
def noT : MV → Bool
  | .non | .bl _ | .int _ | .str _ | .lv _ => true
  | _ => false
theorem r_rowN (d : Nat) (v l : MV) (h : noT v = true) (μ : Mem) : den subT fldT none prT (d + 1) none 1 [v, l] μ = some (.ok (.bl false), μ) := by
  rw [den_at (F := ⟨2, 2, b_is_row⟩) rfl rfl (by decide)]
  cases v <;> first | (simp [noT] at h; done) | simp (implicitDefEqProofs := false) [execs, exec, ev, evs, evIt, asg, asgs, asgK, evCmp, ltD, outc, most, evBi, evBin, bopI, dcOf, sqOf, isCls, isCl, blO, intO, dat_int, eqv_int, gc_int, gc_bl, gc_fr, fx0, fx1, b_is_row]
theorem r_wholeO (d : Nat) (v a b : MV) (h : v = .bl true ∨ v = .non) (μ : Mem) : den subT fldT none prT (d + 1) none 0 [v, a, b] μ = some (.ok (.bl false), μ) := by
  rw [den_at (F := ⟨3, 3, b_is_whole⟩) rfl rfl (by decide)]
  rcases h with rfl | rfl <;> simp (implicitDefEqProofs := false) [execs, exec, ev, evs, evIt, asg, asgs, asgK, evCmp, ltD, outc, most, evBi, evBin, bopI, dcOf, sqOf, isCls, isCl, blO, intO, dat_int, eqv_int, gc_int, gc_bl, gc_fr, fx0, fx1, b_is_whole]
theorem str_form : (PyData.str "form").canLay0 = true := by decide +kernel
theorem str_ports : (PyData.str "ports").canLay0 = true := by decide +kernel
theorem str_0 : (PyData.str "0").canLay0 = true := by decide +kernel
theorem str_net : (PyData.str "net").canLay0 = true := by decide +kernel
theorem str_number : (PyData.str "number").canLay0 = true := by decide +kernel
theorem r_need_bad (d : Nat) (b f : MV) (μ : Mem) (hf : Pl 0 f) (h : den subT fldT none prT (d + 4) none 10 [b] μ = some (.ok (.tup [f]), μ)) : den subT fldT none prT (d + 5) none 11 [b] μ = some (.error (2, f), μ) := by
  rw [den_at (F := ⟨1, 2, b_need_net⟩) rfl rfl (by decide)]
  have hp : Pl 1 (.tup [f]) := ⟨by simp, fun x hx => by simp at hx; subst hx; exact hf⟩
  obtain ⟨dd, h1, h2⟩ := dat_pl hp (by omega) μ
  obtain ⟨d1, a1, _, _, a4⟩ := toD_pl 1 _ hp
  have hn : gc (List.length μ) μ (some (.ok (.tup [f]), μ)) = some (.ok (.tup [f]), μ) := gc_same a4
  have h3 : PyData.eqv dd (.tuple []) = false := by
    simp only [MV.toD, MV.toDs] at h1
    cases hx : f.toD with
    | none => simp [hx] at h1
    | some y => simp [hx] at h1; subst h1; simp [PyData.eqv, PyData.eqvAll]
  have h4 : evIdx μ (.tup [f]) (.int 0) = some f := by simp [evIdx, dcOf, sqOf, L2.atI, L2.ixN]
  simp (implicitDefEqProofs := false) [execs, exec, ev, evs, evIt, asg, asgs, asgK, evCmp, ltD_int, outc, most, evBin, bopI, isCls, isCl, blO, intO, dat_int, eqv_int, gc_int, gc_bl, gc_fr, fx0, fx1, b_need_net, h, hn, h2, dat_tn, h3, h4]
theorem nf_0 (d : Nat) (μ : Mem) : den subT fldT none prT (d + 4) none 10 [.non] μ = some (.ok (.tup [.str "form"]), μ) := by
  rw [den_at (F := ⟨1, 3, b_net_fault⟩) rfl rfl (by decide)]
  have e := r_rowN (d + 2) .non (.int 3) rfl μ
  simp (implicitDefEqProofs := false) [execs, exec, ev, evs, evIt, asg, asgs, asgK, evCmp, ltD_int, outc, most, evBin, bopI, isCls, isCl, blO, intO, dat_int, eqv_int, gc_int, gc_bl, gc_fr, fx0, fx1, b_net_fault, e]
end MI
end
section
set_option Elab.async false
set_option linter.all false
set_option maxRecDepth 100000
set_option maxHeartbeats 4000000
set_option exponentiation.threshold 20000
namespace MI
open PySem PySem.Spec PyProof.Rows L2
def reS0 : S := (.asg (.tp (.cons (.nm 5) (.cons (.nm 6) .nil))) (.tup (.cons (.app false 23 (.cons (.var 0) (.cons (.lst (.cons (.neg (.con (.int 1))) (.cons (.idx (.var 1) (.con (.int 0))) (.cons (.con (.bl true)) (.cons (.con .non) (.cons (.con (.str "0")) (.cons (.tup (.cons (.con (.int 0)) .nil)) .nil))))))) .nil)) []) (.cons (.app false 23 (.cons (.var 0) (.cons (.lst (.cons (.neg (.con (.int 1))) (.cons (.con (.int 61)) (.cons (.con (.bl false)) (.cons (.con .non) (.cons (.tup (.cons (.con (.int 3)) .nil)) .nil)))))) .nil)) []) .nil))))
def reS1 : S := (.asg (.nm 2) (.lst (.cons (.tup (.cons (.con .non) (.cons (.con (.str "form")) .nil))) (.cons (.tup (.cons (.tup (.cons (.con (.int 49)) (.cons (.con (.int 0)) (.cons (.tup .nil) .nil)))) (.cons (.con (.str "nodes")) .nil))) (.cons (.tup (.cons (.tup (.cons (.con (.int 2)) (.cons (.con (.int 3)) (.cons (.tup .nil) .nil)))) (.cons (.con (.str "ports")) .nil))) (.cons (.tup (.cons (.tup (.cons (.con (.int 2)) (.cons (.con (.int 1)) (.cons (.tup (.cons (.tup (.cons (.con (.int 0)) (.cons (.con (.int 1)) (.cons (.tup (.cons (.con (.int 0)) (.cons (.con (.int 1)) .nil))) .nil)))) .nil)) .nil)))) (.cons (.con (.int 0)) .nil))) .nil))))))
def reS2 : S := (.asg (.tp (.cons (.nm 7) (.cons (.nm 8) .nil))) (.app false 23 (.cons (.var 0) (.cons (.var 2) .nil)) []))
def reS3 : S := (.asg (.nm 3) (.lst (.cons (.hrd 39 (.app false 14 (.cons (.var 7) .nil) [])) (.cons (.hrd 39 (.app false 17 (.cons (.var 7) (.cons (.var 5) (.cons (.var 6) .nil))) [])) (.cons (.hrd 39 (.app false 17 (.cons (.var 1) (.cons (.var 5) (.cons (.var 6) .nil))) [])) (.cons (.hrd 39 (.app false 17 (.cons (.var 1) (.cons (.con (.int 0)) (.cons (.var 6) .nil))) [])) (.cons (.hrd 39 (.app false 18 (.cons (.var 1) (.cons (.var 5) .nil)) [])) (.cons (.hrd 39 (.app false 18 (.cons (.tup (.cons (.con (.int 0)) (.cons (.con (.int 0)) (.cons (.tup .nil) .nil)))) (.cons (.con (.int 0)) .nil)) [])) .nil))))))))
def reS4 : S := (.asg (.nm 4) (.lst (.cons (.lst (.cons (.con (.str "net")) (.cons (.var 8) .nil))) (.cons (.lst (.cons (.con (.str "net")) (.cons (.var 8) .nil))) (.cons (.lst (.cons (.con (.str "nodes")) (.cons (.var 5) .nil))) (.cons (.lst (.cons (.con (.str "number")) (.cons (.var 6) .nil))) (.cons (.lst (.cons (.con (.str "nodes")) (.cons (.var 5) .nil))) .nil)))))))
def reS5 : S := (.ret (.app false 24 (.cons (.var 3) (.cons (.bin .add (.var 4) (.lst (.cons (.lst (.cons (.con (.str "nodes")) (.cons (.con (.int 0)) .nil))) .nil))) .nil)) []))
def reS : SS := (.cons reS0 (.cons reS1 (.cons reS2 (.cons reS3 (.cons reS4 (.cons reS5 .nil))))))
theorem str_nodes : (PyData.str "nodes").canLay0 = true := by decide +kernel
/-! the def that hears -/
theorem heard_e (d : Nat) (h : Mem → R MV) (c : Nat) (t : Str) (v : MV) (μ : Mem) (e : h μ = some (.error (c, v), μ)) (hc : (c = 2 ∧ t = "net") ∨ (c = 3 ∧ t = "number") ∨ (c = 4 ∧ t = "nodes")) : den subT fldT none prT (d + 1) (some (0, h)) 39 [.thk 0] μ = some (.ok (.lv [.str t, v]), μ) := by
  rw [den_at (F := ⟨1, 3, b__law_heard⟩) rfl rfl (by decide)]
  rcases hc with ⟨rfl, rfl⟩ | ⟨rfl, rfl⟩ | ⟨rfl, rfl⟩ <;>
  simp (implicitDefEqProofs := false) [b__law_heard, execs, exec, ev, evs, asg, asgs, e, asgK, outc, most, evCmp, hsel, subT, fldT]
theorem hrd_of (d : Nat) (e' : E) (ρ : Env) (μ : Mem) {v : MV} (hv : v.noL = true) (h1 : den subT fldT none prT (d + 1) (some (0, fun μ => ev (wdAt subT fldT none prT (d + 1) none) e' ρ μ)) 39 [.thk 0] μ = some (.ok v, μ)) : ev (wdAt subT fldT none prT (d + 1) none) (.hrd 39 e') ρ μ = some (.ok v, μ) := by
  rw [ev]
  show (match den subT fldT none prT (d + 1) (some (0, fun μ => ev (wdAt subT fldT none prT (d + 1) none) e' ρ μ)) 39 [.thk 0] μ with
    | some (.ok v, μ') => gc μ.length μ (some (.ok v, μ'))
    | _ => none) = _
  rw [h1]
  exact gc_same hv
theorem hrd_e (d : Nat) (e' : E) (ρ : Env) (μ : Mem) {c : Nat} {t : Str} {v : MV} (hv : v.noL = true) (hc : (c = 2 ∧ t = "net") ∨ (c = 3 ∧ t = "number") ∨ (c = 4 ∧ t = "nodes")) (h : ev (wdAt subT fldT none prT (d + 1) none) e' ρ μ = some (.error (c, v), μ)) : ev (wdAt subT fldT none prT (d + 1) none) (.hrd 39 e') ρ μ = some (.ok (.lv [.str t, v]), μ) :=
  hrd_of d e' ρ μ (by simp [MV.noL, MV.noLs, hv]) (heard_e d _ c t v μ h hc)
/-! what is odd -/
def oddL (n : Int) : List MV := [.int (-1), .int n, .bl true, .non, .str "0", .tup [.int 0]]
def farL : List MV := [.int (-1), .int 61, .bl false, .non, .tup [.int 3]]
theorem pl_oddN {n : Int} {o : MV} (h : o ∈ oddL n) : Pl 1 o := by
  simp only [oddL, List.mem_cons, List.not_mem_nil, or_false] at h
  rcases h with rfl | rfl | rfl | rfl | rfl | rfl
  · exact plIn 1 _
  · exact plIn 1 _
  · exact plBo 1 _
  · trivial
  · exact plS 1 _ str_0
  · exact ⟨by simp, fun x hx => by simp at hx; subst hx; trivial⟩
theorem pl_far {o : MV} (h : o ∈ farL) : Pl 1 o := by
  simp only [farL, List.mem_cons, List.not_mem_nil, or_false] at h
  rcases h with rfl | rfl | rfl | rfl | rfl
  · exact plIn 1 _
  · exact plIn 1 _
  · exact plBo 1 _
  · trivial
  · exact ⟨by simp, fun x hx => by simp at hx; subst hx; trivial⟩
theorem noL_pl {n : Nat} {v : MV} (h : Pl n v) : v.noL = true := by
  obtain ⟨_, _, _, _, a⟩ := toD_pl n v h
  exact a
theorem odd_no (d : Nat) {n : Int} {o : MV} (h : o ∈ oddL n) (μ : Mem) : den subT fldT none prT (d + 1) none 0 [o, .int 0, .int (n - 1)] μ = some (.ok (.bl false), μ) := by
  simp only [oddL, List.mem_cons, List.not_mem_nil, or_false] at h
  rcases h with rfl | rfl | rfl | rfl | rfl | rfl
  · rw [r_whole2]; simp
  · rw [r_whole2]
    have : decide (n ≤ n - 1) = false := by simp; omega
    rw [this, Bool.and_false]
  · exact r_wholeO d _ _ _ (.inl rfl) μ
  · exact r_wholeO d _ _ _ (.inr rfl) μ
  · rw [den_at (F := ⟨3, 3, b_is_whole⟩) rfl rfl (by decide)]
    simp (implicitDefEqProofs := false) [execs, exec, ev, evs, evIt, asg, asgs, asgK, evCmp, ltD_int, outc, most, evBin, bopI, isCls, isCl, blO, intO, dat_int, eqv_int, gc_int, gc_bl, gc_fr, fx0, fx1, b_is_whole]
  · rw [den_at (F := ⟨3, 3, b_is_whole⟩) rfl rfl (by decide)]
    simp (implicitDefEqProofs := false) [execs, exec, ev, evs, evIt, asg, asgs, asgK, evCmp, ltD_int, outc, most, evBin, bopI, isCls, isCl, blO, intO, dat_int, eqv_int, gc_int, gc_bl, gc_fr, fx0, fx1, b_is_whole]
theorem far_no (d : Nat) {o : MV} (h : o ∈ farL) (μ : Mem) : den subT fldT none prT (d + 1) none 0 [o, .int 0, .int 60] μ = some (.ok (.bl false), μ) := by
  simp only [farL, List.mem_cons, List.not_mem_nil, or_false] at h
  rcases h with rfl | rfl | rfl | rfl | rfl
  · rw [r_whole2]; simp
  · rw [r_whole2]; simp
  · rw [den_at (F := ⟨3, 3, b_is_whole⟩) rfl rfl (by decide)]
    simp (implicitDefEqProofs := false) [execs, exec, ev, evs, evIt, asg, asgs, asgK, evCmp, ltD_int, outc, most, evBin, bopI, isCls, isCl, blO, intO, dat_int, eqv_int, gc_int, gc_bl, gc_fr, fx0, fx1, b_is_whole]
  · exact r_wholeO d _ _ _ (.inr rfl) μ
  · rw [den_at (F := ⟨3, 3, b_is_whole⟩) rfl rfl (by decide)]
    simp (implicitDefEqProofs := false) [execs, exec, ev, evs, evIt, asg, asgs, asgK, evCmp, ltD_int, outc, most, evBin, bopI, isCls, isCl, blO, intO, dat_int, eqv_int, gc_int, gc_bl, gc_fr, fx0, fx1, b_is_whole]
def bad1 : MV := .tup [.int 49, .int 0, .tup []]
def bad2 : MV := .tup [.int 2, .int 3, .tup []]
def bad3 : MV := .tup [.int 2, .int 1, .tup [.tup [.int 0, .int 1, .tup [.int 0, .int 1]]]]
theorem nf_1 (d : Nat) (μ : Mem) : den subT fldT none prT (d + 4) none 10 [bad1] μ = some (.ok (.tup [.str "nodes"]), μ) := by
  rw [den_at (F := ⟨1, 3, b_net_fault⟩) rfl rfl (by decide)]
  have e1 := r_row (d + 2) [.int 49, .int 0, .tup []] 3 μ
  have e2 := r_row0 (d + 2) [] μ
  have e3 := r_whole2 (d + 2) 49 0 48 μ
  simp (implicitDefEqProofs := false) [execs, exec, ev, evs, evIt, asg, asgs, asgK, evCmp, ltD_int, outc, most, evBin, bopI, isCls, isCl, blO, intO, dat_int, eqv_int, gc_int, gc_bl, gc_fr, fx0, fx1, b_net_fault, bad1, e1, e2, e3, ix30, ix31, ix32]
theorem nf_2 (d : Nat) (μ : Mem) : den subT fldT none prT (d + 4) none 10 [bad2] μ = some (.ok (.tup [.str "ports"]), μ) := by
  rw [den_at (F := ⟨1, 3, b_net_fault⟩) rfl rfl (by decide)]
  have e1 := r_row (d + 2) [.int 2, .int 3, .tup []] 3 μ
  have e2 := r_row0 (d + 2) [] μ
  have e3 := r_whole2 (d + 2) 2 0 48 μ
  have e4 := r_whole2 (d + 2) 3 0 2 μ
  have m : evBi μ .min2 [.int 2, .int 8] = some (.int 2) := min_two μ 2 8
  simp (implicitDefEqProofs := false) [execs, exec, ev, evs, evIt, asg, asgs, asgK, evCmp, ltD_int, outc, most, evBin, bopI, isCls, isCl, blO, intO, dat_int, eqv_int, gc_int, gc_bl, gc_fr, fx0, fx1, b_net_fault, bad2, e1, e2, e3, e4, ix30, ix31, ix32, m]
theorem wi_0 (d : Nat) (μ : Mem) : den subT fldT none prT (d + 3) none 9 [.int 2, .tup [.int 0, .int 1, .tup [.int 0, .int 1]]] μ = some (.ok (.bl false), μ) := by
  rw [den_at (F := ⟨2, 2, b_is_wire⟩) rfl rfl (by decide)]
  have e1 := r_row (d + 1) [.int 0, .int 1, .tup [.int 0, .int 1]] 3 μ
  have e2 := r_whole2 (d + 1) 0 0 1 μ
  have e3 := r_whole2 (d + 1) 1 0 1 μ
  have e4 := r_isfr d 0 μ
  have e4 : den subT fldT none prT (d + 2) none 3 [.tup [.int 0, .int 1]] μ = _ := e4
  simp (implicitDefEqProofs := false) [execs, exec, ev, evs, evIt, asg, asgs, asgK, evCmp, ltD_int, outc, most, evBin, bopI, isCls, isCl, blO, intO, dat_int, eqv_int, gc_int, gc_bl, gc_fr, fx0, fx1, b_is_wire, e1, e2, e3, e4, ix30, ix31, ix32, idx_p0]
theorem nf_3 (d : Nat) (μ : Mem) : den subT fldT none prT (d + 4) none 10 [bad3] μ = some (.ok (.tup [.int 0]), μ) := by
  rw [den_at (F := ⟨1, 3, b_net_fault⟩) rfl rfl (by decide)]
  have e1 := r_row (d + 2) [.int 2, .int 1, .tup [.tup [.int 0, .int 1, .tup [.int 0, .int 1]]]] 3 μ
  have e2 := r_row0 (d + 2) [.tup [.int 0, .int 1, .tup [.int 0, .int 1]]] μ
  have e3 := r_whole2 (d + 2) 2 0 48 μ
  have e4 := r_whole2 (d + 2) 1 0 2 μ
  have m : evBi μ .min2 [.int 2, .int 8] = some (.int 2) := min_two μ 2 8
  have e5 := wi_0 d μ
  have l := len_tv μ [.tup [.int 0, .int 1, .tup [.int 0, .int 1]]]
  simp (implicitDefEqProofs := false) [execs, exec, ev, evs, evIt, asg, asgs, asgK, evCmp, ltD_int, outc, most, evBin, bopI, isCls, isCl, blO, intO, dat_int, eqv_int, gc_int, gc_bl, gc_fr, fx0, fx1, b_net_fault, bad3, e1, e2, e3, e4, e5, ix30, ix31, ix32, m, l, sqOf, gdOf, enumF, forL, gdOk]
def badF : List (MV × MV) := [(.non, .str "form"), (bad1, .str "nodes"), (bad2, .str "ports"), (bad3, .int 0)]
theorem pl_badF {b f : MV} (h : (b, f) ∈ badF) : Pl 0 f := by
  simp only [badF, List.mem_cons, List.not_mem_nil, or_false, Prod.mk.injEq] at h
  rcases h with ⟨rfl, rfl⟩ | ⟨rfl, rfl⟩ | ⟨rfl, rfl⟩ | ⟨rfl, rfl⟩
  · exact plS 0 _ str_form
  · exact plS 0 _ str_nodes
  · exact plS 0 _ str_ports
  · exact plIn 0 _
theorem r_bad (d : Nat) (b f : MV) (h : (b, f) ∈ badF) (μ : Mem) : den subT fldT none prT (d + 5) none 11 [b] μ = some (.error (2, f), μ) := by
  have hp := pl_badF h
  simp only [badF, List.mem_cons, List.not_mem_nil, or_false, Prod.mk.injEq] at h
  rcases h with ⟨rfl, rfl⟩ | ⟨rfl, rfl⟩ | ⟨rfl, rfl⟩ | ⟨rfl, rfl⟩
  · exact r_need_bad d _ _ μ hp (nf_0 d μ)
  · exact r_need_bad d _ _ μ hp (nf_1 d μ)
  · exact r_need_bad d _ _ μ hp (nf_2 d μ)
  · exact r_need_bad d _ _ μ hp (nf_3 d μ)
theorem nw_bad (d : Nat) (b f : MV) (h : (b, f) ∈ badF) (μ : Mem) : den subT fldT none prT (d + 6) none 14 [b] μ = some (.error (2, f), μ) := by
  rw [den_at (F := ⟨1, 1, b_node_weights⟩) rfl rfl (by decide)]
  have e := r_bad d b f h μ
  have g := gc_er (c := 2) (μ := μ) (noL_pl (pl_badF h))
  simp (implicitDefEqProofs := false) [execs, exec, ev, evs, evIt, asg, asgs, asgK, evCmp, ltD_int, outc, most, evBin, bopI, isCls, isCl, blO, intO, dat_int, eqv_int, gc_int, gc_bl, gc_fr, fx0, fx1, b_node_weights, e, g]
theorem ca_bad (d : Nat) (b f x y : MV) (h : (b, f) ∈ badF) (μ : Mem) : den subT fldT none prT (d + 6) none 17 [b, x, y] μ = some (.error (2, f), μ) := by
  rw [den_at (F := ⟨3, 7, b_chances_after⟩) rfl rfl (by decide)]
  have e := r_bad d b f h μ
  have g := gc_er (c := 2) (μ := μ) (noL_pl (pl_badF h))
  simp (implicitDefEqProofs := false) [execs, exec, ev, evs, evIt, asg, asgs, asgK, evCmp, ltD_int, outc, most, evBin, bopI, isCls, isCl, blO, intO, dat_int, eqv_int, gc_int, gc_bl, gc_fr, fx0, fx1, b_chances_after, e, g]
theorem nn_odd (d : Nat) {n p : Nat} {ws : List Wr} {o : MV} (h : o ∈ oddL n) (μ : Mem) : den subT fldT none prT (d + 2) none 15 [nv n p ws, o] μ = some (.error (4, o), μ) := by
  rw [den_at (F := ⟨2, 2, b_need_node⟩) rfl rfl (by decide)]
  have e := odd_no d h μ
  have i0 := nv0 μ n p ws
  generalize nv n p ws = N at *
  simp (implicitDefEqProofs := false) [execs, exec, ev, evs, evIt, asg, asgs, asgK, evCmp, ltD_int, outc, most, evBin, bopI, isCls, isCl, blO, intO, dat_int, eqv_int, gc_int, gc_bl, gc_fr, fx0, fx1, b_need_node, e, i0]
theorem ca_odd (d : Nat) {n p : Nat} {ws : List Wr} (g : Good n p ws) {o y : MV} (h : o ∈ oddL n) (μ : Mem) : den subT fldT none prT (d + 6) none 17 [nv n p ws, o, y] μ = some (.error (4, o), μ) := by
  rw [den_at (F := ⟨3, 7, b_chances_after⟩) rfl rfl (by decide)]
  have e1 := r_need_net d g μ
  have g1 := gc_same (μ := μ) (noL_nv n p ws)
  have e2 := nn_odd (d + 3) (p := p) (ws := ws) h μ
  have g2 := gc_er (c := 4) (μ := μ) (noL_pl (pl_oddN h))
  generalize nv n p ws = N at *
  simp (implicitDefEqProofs := false) [execs, exec, ev, evs, evIt, asg, asgs, asgK, evCmp, ltD_int, outc, most, evBin, bopI, isCls, isCl, blO, intO, dat_int, eqv_int, gc_int, gc_bl, gc_fr, fx0, fx1, b_chances_after, e1, g1, e2, g2]
theorem ca_far (d : Nat) {n p : Nat} {ws : List Wr} (g : Good n p ws) (h0 : 0 < n) {o : MV} (h : o ∈ farL) (μ : Mem) : den subT fldT none prT (d + 6) none 17 [nv n p ws, .int 0, o] μ = some (.error (3, o), μ) := by
  rw [den_at (F := ⟨3, 7, b_chances_after⟩) rfl rfl (by decide)]
  have e1 := r_need_net d g μ
  have g1 := gc_same (μ := μ) (noL_nv n p ws)
  have e2 := r_need_node (d + 3) (p := p) (ws := ws) h0 μ
  have e2 : den subT fldT none prT (d + 3 + 2) none 15 [nv n p ws, .int 0] μ = some (.ok (.int 0), μ) := e2
  have e3 := far_no (d + 4) h μ
  generalize nv n p ws = N at *
  simp (implicitDefEqProofs := false) [execs, exec, ev, evs, evIt, asg, asgs, asgK, evCmp, ltD_int, outc, most, evBin, bopI, isCls, isCl, blO, intO, dat_int, eqv_int, gc_int, gc_bl, gc_fr, fx0, fx1, b_chances_after, e1, g1, e2, e3]
theorem sc_odd (d : Nat) {n p : Nat} {ws : List Wr} (g : Good n p ws) {o : MV} (h : o ∈ oddL n) (μ : Mem) : den subT fldT none prT (d + 7) none 18 [nv n p ws, o] μ = some (.error (4, o), μ) := by
  rw [den_at (F := ⟨2, 2, b_step_chances⟩) rfl rfl (by decide)]
  have e1 := ca_odd d g (y := .int 1) h μ
  have g2 := gc_er (c := 4) (μ := μ) (noL_pl (pl_oddN h))
  generalize nv n p ws = N at *
  simp (implicitDefEqProofs := false) [execs, exec, ev, evs, evIt, asg, asgs, asgK, evCmp, ltD_int, outc, most, evBin, bopI, isCls, isCl, blO, intO, dat_int, eqv_int, gc_int, gc_bl, gc_fr, fx0, fx1, b_step_chances, e1, g2]
theorem good_0 : Good 0 0 [] := ⟨by omega, by omega, by omega, by simp, by simp, .nil⟩
theorem sc_0 (d : Nat) (μ : Mem) : den subT fldT none prT (d + 7) none 18 [.tup [.int 0, .int 0, .tup []], .int 0] μ = some (.error (4, .int 0), μ) :=
  sc_odd d good_0 (o := .int 0) (by simp [oddL]) μ
theorem nw_0 (d : Nat) (μ : Mem) : den subT fldT none prT (d + 6) none 14 [.tup [.int 0, .int 0, .tup []]] μ = some (.ok (.tup []), μ) := r_node_weights d good_0 μ
noncomputable abbrev reX0 : E := .hrd 39 (.app false 14 (.cons (.var 7) .nil) [])
theorem re3_ok {n p : Nat} {ws : List Wr} (g : Good n p ws) (h0 : 0 < n) {o fa b f : MV} (ho : o ∈ oddL n) (hf : fa ∈ farL) (hb : (b, f) ∈ badF) (o2 o4 : Option MV) (μ : Mem) :
    exec W13 reS3 [some (.loc 0), some (nv n p ws), o2, none, o4, some o, some fa, some b, some f] μ = some (.nxt [some (.loc 0), some (nv n p ws), o2, some (.lv [.lv [.str "net", f], .lv [.str "net", f], .lv [.str "nodes", o], .lv [.str "number", fa], .lv [.str "nodes", o], .lv [.str "nodes", .int 0]]), o4, some o, some fa, some b, some f], μ) := by
  have nf := noL_pl (pl_badF hb)
  have no := noL_pl (pl_oddN ho)
  have nfa := noL_pl (pl_far hf)
  have x0 := hrd_e 12 (.app false 14 (.cons (.var 7) .nil) []) [some (.loc 0), some (nv n p ws), o2, none, o4, some o, some fa, some b, some f] μ nf (.inl ⟨rfl, rfl⟩) (app_err _ _ _ _ _ [b] nf (by generalize nv n p ws = N; simp (implicitDefEqProofs := false) [execs, exec, ev, evs, evIt, asg, asgs, asgK, evCmp, ltD_int, outc, most, evBin, bopI, isCls, isCl, blO, intO, dat_int, eqv_int, gc_int, gc_bl, gc_fr, fx0, fx1, ]) (nw_bad 7 b f hb μ))
  have x1 := hrd_e 12 (.app false 17 (.cons (.var 7) (.cons (.var 5) (.cons (.var 6) .nil))) []) [some (.loc 0), some (nv n p ws), o2, none, o4, some o, some fa, some b, some f] μ nf (.inl ⟨rfl, rfl⟩) (app_err _ _ _ _ _ [b, o, fa] nf (by generalize nv n p ws = N; simp (implicitDefEqProofs := false) [execs, exec, ev, evs, evIt, asg, asgs, asgK, evCmp, ltD_int, outc, most, evBin, bopI, isCls, isCl, blO, intO, dat_int, eqv_int, gc_int, gc_bl, gc_fr, fx0, fx1, ]) (ca_bad 7 b f o fa hb μ))
  have x2 := hrd_e 12 (.app false 17 (.cons (.var 1) (.cons (.var 5) (.cons (.var 6) .nil))) []) [some (.loc 0), some (nv n p ws), o2, none, o4, some o, some fa, some b, some f] μ no (.inr (.inr ⟨rfl, rfl⟩)) (app_err _ _ _ _ _ [nv n p ws, o, fa] no (by generalize nv n p ws = N; simp (implicitDefEqProofs := false) [execs, exec, ev, evs, evIt, asg, asgs, asgK, evCmp, ltD_int, outc, most, evBin, bopI, isCls, isCl, blO, intO, dat_int, eqv_int, gc_int, gc_bl, gc_fr, fx0, fx1, ]) (ca_odd 7 g (y := fa) ho μ))
  have x3 := hrd_e 12 (.app false 17 (.cons (.var 1) (.cons (.con (.int 0)) (.cons (.var 6) .nil))) []) [some (.loc 0), some (nv n p ws), o2, none, o4, some o, some fa, some b, some f] μ nfa (.inr (.inl ⟨rfl, rfl⟩)) (app_err _ _ _ _ _ [nv n p ws, .int 0, fa] nfa (by generalize nv n p ws = N; simp (implicitDefEqProofs := false) [execs, exec, ev, evs, evIt, asg, asgs, asgK, evCmp, ltD_int, outc, most, evBin, bopI, isCls, isCl, blO, intO, dat_int, eqv_int, gc_int, gc_bl, gc_fr, fx0, fx1, ]) (ca_far 7 g h0 hf μ))
  have x4 := hrd_e 12 (.app false 18 (.cons (.var 1) (.cons (.var 5) .nil)) []) [some (.loc 0), some (nv n p ws), o2, none, o4, some o, some fa, some b, some f] μ no (.inr (.inr ⟨rfl, rfl⟩)) (app_err _ _ _ _ _ [nv n p ws, o] no (by generalize nv n p ws = N; simp (implicitDefEqProofs := false) [execs, exec, ev, evs, evIt, asg, asgs, asgK, evCmp, ltD_int, outc, most, evBin, bopI, isCls, isCl, blO, intO, dat_int, eqv_int, gc_int, gc_bl, gc_fr, fx0, fx1, ]) (sc_odd 6 g ho μ))
  have x5 := hrd_e 12 (.app false 18 (.cons (.tup (.cons (.con (.int 0)) (.cons (.con (.int 0)) (.cons (.tup .nil) .nil)))) (.cons (.con (.int 0)) .nil)) []) [some (.loc 0), some (nv n p ws), o2, none, o4, some o, some fa, some b, some f] μ (v := .int 0) rfl (.inr (.inr ⟨rfl, rfl⟩)) (app_err _ _ _ _ _ [.tup [.int 0, .int 0, .tup []], .int 0] rfl (by generalize nv n p ws = N; simp (implicitDefEqProofs := false) [execs, exec, ev, evs, evIt, asg, asgs, asgK, evCmp, ltD_int, outc, most, evBin, bopI, isCls, isCl, blO, intO, dat_int, eqv_int, gc_int, gc_bl, gc_fr, fx0, fx1, ]) (sc_0 6 μ))
  unfold reS3
  generalize (E.hrd 39 (.app false 14 (.cons (.var 7) .nil) [])) = X0 at x0 ⊢
  generalize (E.hrd 39 (.app false 17 (.cons (.var 7) (.cons (.var 5) (.cons (.var 6) .nil))) [])) = X1 at x1 ⊢
  generalize (E.hrd 39 (.app false 17 (.cons (.var 1) (.cons (.var 5) (.cons (.var 6) .nil))) [])) = X2 at x2 ⊢
  generalize (E.hrd 39 (.app false 17 (.cons (.var 1) (.cons (.con (.int 0)) (.cons (.var 6) .nil))) [])) = X3 at x3 ⊢
  generalize (E.hrd 39 (.app false 18 (.cons (.var 1) (.cons (.var 5) .nil)) [])) = X4 at x4 ⊢
  generalize (E.hrd 39 (.app false 18 (.cons (.tup (.cons (.con (.int 0)) (.cons (.con (.int 0)) (.cons (.tup .nil) .nil)))) (.cons (.con (.int 0)) .nil)) [])) = X5 at x5 ⊢
  generalize nv n p ws = N at *
  simp (implicitDefEqProofs := false) [execs, exec, ev, evs, evIt, asg, asgs, asgK, evCmp, ltD_int, outc, most, evBin, bopI, isCls, isCl, blO, intO, dat_int, eqv_int, gc_int, gc_bl, gc_fr, fx0, fx1, x0, x1, x2, x3, x4, x5]
theorem Pl_pl {n : Nat} {u v : MV} (h : Pl n u) (g : Pl n v) : Pl (n + 1) (.lv [u, v]) := ⟨by simp, fun w hw => by simp at hw; rcases hw with rfl | rfl <;> first | exact h | exact g⟩
section
variable {cs : List Int} (hc : cs.length = 64)
include hc
theorem r_refused {n p : Nat} {ws : List Wr} (f : Fit n p ws) {s : Nat} (hs : s < 2 ^ 35) (gs : List Int) :
    ∃ (gs' : List Int), gc (List.length (M cs s gs [])) (M cs s gs []) (den subT fldT none prT 14 none 41 [.loc 0, nv n p ws] (M cs s gs [])) = some (.ok (.bl true), M cs (s + 3) gs' []) := by
  rw [den_at (F := ⟨2, 9, b__law_refused_right⟩) rfl rfl (by decide)]
  obtain ⟨k, hk, g1, e1⟩ := r_of 10 hc (show s < 2 ^ 38 by omega) gs (oddL n) (by simp [oddL]) (by simp [oddL]) rfl
  have ho : (oddL n)[k] ∈ oddL n := List.getElem_mem hk
  generalize (oddL n)[k] = o at e1 ho
  obtain ⟨j, hj, g2, e2⟩ := r_of 10 hc (show s + 1 < 2 ^ 38 by omega) g1 farL (by simp [farL]) (by simp [farL]) rfl
  have hf : farL[j] ∈ farL := List.getElem_mem hj
  generalize farL[j] = fa at e2 hf
  obtain ⟨i, hi, g3, e3⟩ := r_of 10 hc (show s + 1 + 1 < 2 ^ 38 by omega) g2 (badF.map fun x => .tup [x.1, x.2]) (by simp [badF]) (by simp [badF]) rfl
  have hi' : i < badF.length := by simpa using hi
  have hb : (badF[i].1, badF[i].2) ∈ badF := List.getElem_mem hi'
  rw [List.getElem_map] at e3
  generalize badF[i].1 = b at e3 hb
  generalize badF[i].2 = fl at e3 hb
  refine ⟨g3, ?_⟩
  have i0 := fun μ => nv0 μ n p ws
  have f0 : exec W13 reS0 [some (.loc 0), some (nv n p ws), none, none, none, none, none, none, none] (M cs s gs []) = some (.nxt [some (.loc 0), some (nv n p ws), none, none, none, some o, some fa, none, none], M cs (s + 1 + 1) g2 []) := by
    unfold oddL at e1
    unfold farL at e2
    generalize nv n p ws = N at *
    simp (implicitDefEqProofs := false) [execs, exec, ev, evs, evIt, asg, asgs, asgK, evCmp, ltD_int, outc, most, evBin, bopI, isCls, isCl, blO, intO, dat_int, eqv_int, gc_int, gc_bl, gc_fr, fx0, fx1, reS0, i0, e1, e2]
  have f1 : ∀ μ, exec W13 reS1 [some (.loc 0), some (nv n p ws), none, none, none, some o, some fa, none, none] μ = some (.nxt [some (.loc 0), some (nv n p ws), some (.lv (badF.map fun x => .tup [x.1, x.2])), none, none, some o, some fa, none, none], μ) := fun μ => by
    show _ = some (Fl.nxt [some (.loc 0), some (nv n p ws), some (.lv [.tup [.non, .str "form"], .tup [.tup [.int 49, .int 0, .tup []], .str "nodes"], .tup [.tup [.int 2, .int 3, .tup []], .str "ports"], .tup [.tup [.int 2, .int 1, .tup [.tup [.int 0, .int 1, .tup [.int 0, .int 1]]]], .int 0]]), none, none, some o, some fa, none, none], μ)
    generalize nv n p ws = N at *
    simp (implicitDefEqProofs := false) [execs, exec, ev, evs, evIt, asg, asgs, asgK, evCmp, ltD_int, outc, most, evBin, bopI, isCls, isCl, blO, intO, dat_int, eqv_int, gc_int, gc_bl, gc_fr, fx0, fx1, reS1]
  have f2 : exec W13 reS2 [some (.loc 0), some (nv n p ws), some (.lv (badF.map fun x => .tup [x.1, x.2])), none, none, some o, some fa, none, none] (M cs (s + 1 + 1) g2 []) = some (.nxt [some (.loc 0), some (nv n p ws), some (.lv (badF.map fun x => .tup [x.1, x.2])), none, none, some o, some fa, some b, some fl], M cs (s + 1 + 1 + 1) g3 []) := by
    generalize (badF.map fun x => MV.tup [x.1, x.2]) = B at *
    generalize nv n p ws = N at *
    simp (implicitDefEqProofs := false) [execs, exec, ev, evs, evIt, asg, asgs, asgK, evCmp, ltD_int, outc, most, evBin, bopI, isCls, isCl, blO, intO, dat_int, eqv_int, gc_int, gc_bl, gc_fr, fx0, fx1, reS2, e3]
  have f3 := re3_ok f.g f.n0 ho hf hb (some (.lv (badF.map fun x => .tup [x.1, x.2]))) none (M cs (s + 1 + 1 + 1) g3 [])
  have f4 : ∀ T μ, exec W13 reS4 [some (.loc 0), some (nv n p ws), some (.lv (badF.map fun x => .tup [x.1, x.2])), some T, none, some o, some fa, some b, some fl] μ = some (.nxt [some (.loc 0), some (nv n p ws), some (.lv (badF.map fun x => .tup [x.1, x.2])), some T, some (.lv [.lv [.str "net", fl], .lv [.str "net", fl], .lv [.str "nodes", o], .lv [.str "number", fa], .lv [.str "nodes", o]]), some o, some fa, some b, some fl], μ) := fun T μ => by
    generalize (badF.map fun x => MV.tup [x.1, x.2]) = B at *
    generalize nv n p ws = N at *
    simp (implicitDefEqProofs := false) [execs, exec, ev, evs, evIt, asg, asgs, asgK, evCmp, ltD_int, outc, most, evBin, bopI, isCls, isCl, blO, intO, dat_int, eqv_int, gc_int, gc_bl, gc_fr, fx0, fx1, reS4]
  have hp1 : Pl 2 (.lv [.str "net", fl]) := Pl_pl (plS 1 _ str_net) (Pl_up (pl_badF hb))
  have hp2 : Pl 2 (.lv [.str "nodes", o]) := Pl_pl (plS 1 _ str_nodes) (pl_oddN ho)
  have hp3 : Pl 2 (.lv [.str "number", fa]) := Pl_pl (plS 1 _ str_number) (pl_far hf)
  have hp4 : Pl 2 (.lv [.str "nodes", .int 0]) := Pl_pl (plS 1 _ str_nodes) (plIn 1 0)
  have kk := lk_lv (n := 2) (xs := [.lv [.str "net", fl], .lv [.str "net", fl], .lv [.str "nodes", o], .lv [.str "number", fa], .lv [.str "nodes", o], .lv [.str "nodes", .int 0]]) (fun x hx => by
    simp only [List.mem_cons, List.not_mem_nil, or_false] at hx
    rcases hx with rfl | rfl | rfl | rfl | rfl | rfl
    · exact hp1
    · exact hp1
    · exact hp2
    · exact hp3
    · exact hp2
    · exact hp4) (by simp) 12 (M cs (s + 1 + 1 + 1) g3 []) (by omega)
  have f5 : exec W13 reS5 [some (.loc 0), some (nv n p ws), some (.lv (badF.map fun x => .tup [x.1, x.2])), some (.lv [.lv [.str "net", fl], .lv [.str "net", fl], .lv [.str "nodes", o], .lv [.str "number", fa], .lv [.str "nodes", o], .lv [.str "nodes", .int 0]]), some (.lv [.lv [.str "net", fl], .lv [.str "net", fl], .lv [.str "nodes", o], .lv [.str "number", fa], .lv [.str "nodes", o]]), some o, some fa, some b, some fl] (M cs (s + 1 + 1 + 1) g3 []) = some (.ret (.bl true), M cs (s + 1 + 1 + 1) g3 []) := by
    generalize (badF.map fun x => MV.tup [x.1, x.2]) = B at *
    generalize nv n p ws = N at *
    generalize M cs (s + 1 + 1 + 1) g3 [] = μ at *
    simp (implicitDefEqProofs := false) [execs, exec, ev, evs, evIt, asg, asgs, asgK, evCmp, ltD_int, outc, most, evBin, bopI, isCls, isCl, blO, intO, dat_int, eqv_int, gc_int, gc_bl, gc_fr, fx0, fx1, reS5, kk, lsOf]
  show gc _ _ (outc (execs W13 reS [some (.loc 0), some (nv n p ws), none, none, none, none, none, none, none] (M cs s gs []))) = _
  unfold reS
  rw [execs, f0, seqK_nxt, execs, f1, seqK_nxt, execs, f2, seqK_nxt, execs, f3, seqK_nxt, execs, f4, seqK_nxt, execs, f5, seqK_ret]
  exact gc_M cs s gs [] (.bl true) rfl (s + 1 + 1 + 1) g3
end
end MI
end
section
set_option Elab.async false
set_option linter.all false
set_option maxRecDepth 100000
set_option maxHeartbeats 4000000
set_option exponentiation.threshold 20000
namespace MI
open PySem PySem.Spec PyProof.Rows L2
def laS0 : S := (.asg (.nm 1) (.app true 22 (.cons (.var 0) .nil) []))
def laS1 : S := (.fr (.nm 2) (.rng (.cons (.con (.int 4)) .nil)) (.cons (.asg (.nm 4) (.app false 35 (.cons (.var 1) .nil) [])) (.cons (.ite (.nt (.app false 40 (.cons (.var 1) (.cons (.var 4) .nil)) [])) (.cons (.ret (.con (.bl false))) .nil) .nil) .nil)))
def laS2 : S := (.ite (.an (.cmp .eq (.app false 21 (.cons (.var 1) (.cons (.con (.int 3)) .nil)) []) (.con (.int 0))) (.nt (.app false 40 (.cons (.var 1) (.cons (.app false 36 (.cons (.var 1) .nil) []) .nil)) []))) (.cons (.ret (.con (.bl false))) .nil) .nil)
def laS3 : S := (.asg (.nm 3) (.tup (.cons (.con (.int 2)) (.cons (.app false 21 (.cons (.var 1) (.cons (.con (.int 3)) .nil)) []) (.cons (.tup (.cons (.tup (.cons (.con (.int 0)) (.cons (.con (.int 1)) (.cons (.app false 31 (.cons (.var 1) .nil) []) .nil)))) .nil)) .nil)))))
def laS4 : S := (.ite (.nt (.app false 24 (.cons (.app false 17 (.cons (.var 3) (.cons (.con (.int 0)) (.cons (.bin .sub (.con (.int 60)) (.bin .mul (.app false 21 (.cons (.var 1) (.cons (.con (.int 2)) .nil)) []) (.con (.int 2)))) .nil))) []) (.cons (.tup (.cons (.tup (.cons (.con (.int 1)) (.cons (.con (.int 1)) .nil))) (.cons (.tup (.cons (.con (.int 0)) (.cons (.con (.int 1)) .nil))) .nil))) .nil)) [])) (.cons (.ret (.con (.bl false))) .nil) .nil)
def laS5 : S := (.ret (.an (.app false 24 (.cons (.app false 14 (.cons (.tup (.cons (.con (.int 0)) (.cons (.con (.int 0)) (.cons (.tup .nil) .nil)))) .nil) []) (.cons (.tup .nil) .nil)) []) (.app false 41 (.cons (.var 1) (.cons (.var 4) .nil)) [])))
def laS : SS := (.cons laS0 (.cons laS1 (.cons laS2 (.cons laS3 (.cons laS4 (.cons laS5 .nil))))))
noncomputable abbrev W14 : Wd := wdAt subT fldT none prT 14 none
abbrev laB : SS := (.cons (.asg (.nm 4) (.app false 35 (.cons (.var 1) .nil) [])) (.cons (.ite (.nt (.app false 40 (.cons (.var 1) (.cons (.var 4) .nil)) [])) (.cons (.ret (.con (.bl false))) .nil) .nil) .nil))
/-- the walk along two nodes -/
theorem pair_st {q : Rat} (hq : 0 < q) (k v : Nat) (hv : v < 2) : st [⟨0, 1, q⟩] (dl (k % 2)) v = dl ((k + 1) % 2) v := by
  have h0 : q ≠ 0 := by grind
  have w0 : wt [⟨0, 1, q⟩] 0 = q := by simp [wt, sm, Rat.add_zero]
  have w1 : wt [⟨0, 1, q⟩] 1 = q := by simp [wt, sm, Rat.add_zero]
  have hd : q / q = 1 := by rw [Rat.div_def]; exact Rat.mul_inv_cancel _ h0
  have h2 : k % 2 = 0 ∨ k % 2 = 1 := by omega
  have hv2 : v = 0 ∨ v = 1 := by omega
  have z : (0 : Rat) / q = 0 := by rw [Rat.div_def, Rat.zero_mul]
  rcases h2 with h2 | h2
  · have h3 : (k + 1) % 2 = 1 := by omega
    rw [h2, h3]
    rcases hv2 with rfl | rfl
    · simp [st, st0, ct, sm, dl, w0, w1, h0, z, Rat.add_zero, Rat.zero_mul]
    · simp [st, st0, ct, sm, dl, w0, w1, h0, hd, Rat.add_zero, Rat.zero_add, Rat.one_mul]
  · have h3 : (k + 1) % 2 = 0 := by omega
    rw [h2, h3]
    rcases hv2 with rfl | rfl
    · simp [st, st0, ct, sm, dl, w0, w1, h0, hd, Rat.add_zero, Rat.zero_add, Rat.one_mul]
    · simp [st, st0, ct, sm, dl, w0, w1, h0, z, Rat.add_zero, Rat.zero_mul]
theorem pair_good {q : Rat} (hq : 0 < q) (hb : Bd 20 20 q) {p : Nat} (hp : p ≤ 2) : Good 2 p [⟨0, 1, q⟩] :=
  ⟨by omega, hp, by omega, by simp, fun w hw => by
    simp only [List.mem_singleton] at hw
    subst hw
    exact ⟨by show 0 < 1; omega, by show 1 < 2; omega, hq, hb⟩, by simp⟩
theorem pair_sz {q : Rat} (hq : 0 < q) (hb : Bd 20 20 q) (k : Nat) : Sz 2 [⟨0, 1, q⟩] 1 (dl (k % 2)) where
  wn := good_wn (pair_good hq hb (p := 0) (by omega))
  bd := fun w hw => by
    simp only [List.mem_singleton] at hw
    subst hw
    exact hb
  le := by simp
  hn := by omega
  cv := cv_dl (by omega)
  d0 := by omega
  d1 := Nat.one_le_two_pow
  d2 := by
    have f := fit_of (pair_good hq hb (p := 0) (by omega)) (by omega) (t := 20) (fun w hw => by
      simp only [List.mem_singleton] at hw
      subst hw
      exact hb) (by simp) (by simp)
    rw [Nat.one_mul]
    exact Nat.le_trans f.dd (Nat.pow_le_pow_right (by decide) (by omega))
theorem rv_pair : rv 2 (dl 0) = [fr 1, fr 0] := by
  have e : List.range 2 = [0, 1] := rfl
  simp [rv, e, dl]
section
variable {cs : List Int} (hc : cs.length = 64)
include hc
theorem la_turn {s : Nat} (hs : s < 2 ^ 35) (gs : List Int) (x : MV) (o0 o2 o3 o4 : Option MV) :
    ∃ (n p : Nat) (ws : List Wr) (s' : Nat) (gs' : List Int), Fit n p ws ∧ s' ≤ s + 1000 ∧ stp W14 (.nm 2) laB x [o0, some (.loc 0), o2, o3, o4] (M cs s gs []) = some (.nxt [o0, some (.loc 0), some x, o3, some (nv n p ws)], M cs s' gs' []) := by
  obtain ⟨n, p, ws, s1, g1, f, h1, e1⟩ := g_any 9 hc (show s < 2 ^ 36 by omega) gs
  obtain ⟨g2, e2⟩ := r_right hc f (show s1 < 2 ^ 36 by omega) g1
  refine ⟨n, p, ws, s1 + 3, g2, f, by omega, ?_⟩
  generalize nv n p ws = N at *
  simp (implicitDefEqProofs := false) [execs, exec, ev, evs, evIt, asg, asgs, asgK, evCmp, ltD_int, outc, most, evBin, bopI, isCls, isCl, blO, intO, dat_int, eqv_int, gc_int, gc_bl, gc_fr, fx0, fx1, stp, e1, e2]
theorem answers_in (x : MV) {s : Nat} (hs : s = 0) (gs : List Int) : ∃ μ, outc (execs W14 (.cons laS1 (.cons laS2 (.cons laS3 (.cons laS4 (.cons laS5 .nil))))) [some x, some (.loc 0), none, none, none] (M cs s gs [])) = some (.ok (.bl true), μ) := by
  subst hs
  obtain ⟨n1, p1, w1, s1, g1, f1, h1, e1⟩ := la_turn hc (show 0 < 2 ^ 35 by omega) gs (.int ((0 : Nat) : Int)) (some x) none none none
  obtain ⟨n2, p2, w2, s2, g2, f2, h2, e2⟩ := la_turn hc (show s1 < 2 ^ 35 by omega) g1 (.int ((1 : Nat) : Int)) (some x) (some (.int ((0 : Nat) : Int))) none (some (nv n1 p1 w1))
  obtain ⟨n3, p3, w3, s3, g3, f3, h3, e3⟩ := la_turn hc (show s2 < 2 ^ 35 by omega) g2 (.int ((2 : Nat) : Int)) (some x) (some (.int ((1 : Nat) : Int))) none (some (nv n2 p2 w2))
  obtain ⟨n, p, ws, s4, g4, f4, h4, e4⟩ := la_turn hc (show s3 < 2 ^ 35 by omega) g3 (.int ((3 : Nat) : Int)) (some x) (some (.int ((2 : Nat) : Int))) none (some (nv n3 p3 w3))
  have F1 : exec W14 laS1 [some x, some (.loc 0), none, none, none] (M cs 0 gs []) = some (.nxt [some x, some (.loc 0), some (.int ((3 : Nat) : Int)), none, some (nv n p ws)], M cs s4 g4 []) := by
    have q := (forL_nxt (gd := []) (xs := [.int ((1 : Nat) : Int), .int ((2 : Nat) : Int), .int ((3 : Nat) : Int)]) rfl e1).trans ((forL_nxt (gd := []) (xs := [.int ((2 : Nat) : Int), .int ((3 : Nat) : Int)]) rfl e2).trans ((forL_nxt (gd := []) (xs := [.int ((3 : Nat) : Int)]) rfl e3).trans ((forL_nxt (gd := []) (xs := []) rfl e4).trans (forL_nil rfl))))
    refine (fr_ev (g := .nm 2) (b := laB) (show evIt W14 (.rng (.cons (.con (.int 4)) .nil)) [some x, some (.loc 0), none, none, none] (M cs 0 gs []) = some (.ok ([.int ((0 : Nat) : Int), .int ((1 : Nat) : Int), .int ((2 : Nat) : Int), .int ((3 : Nat) : Int)], []), M cs 0 gs []) from ?_)).trans q
    have hr : rngOf [.int 4] = some [.int ((0 : Nat) : Int), .int ((1 : Nat) : Int), .int ((2 : Nat) : Int), .int ((3 : Nat) : Int)] := rng_iv (n := 4) (by omega)
    generalize ([.int ((0 : Nat) : Int), .int ((1 : Nat) : Int), .int ((2 : Nat) : Int), .int ((3 : Nat) : Int)] : List MV) = r at *
    simp (implicitDefEqProofs := false) [execs, exec, ev, evs, evIt, asg, asgs, asgK, evCmp, ltD_int, outc, most, evBin, bopI, isCls, isCl, blO, intO, dat_int, eqv_int, gc_int, gc_bl, gc_fr, fx0, fx1, hr]
  have F2 : ∃ (s5 : Nat) (g5 : List Int), s5 ≤ s4 + 2000 ∧ exec W14 laS2 [some x, some (.loc 0), some (.int ((3 : Nat) : Int)), none, some (nv n p ws)] (M cs s4 g4 []) = some (.nxt [some x, some (.loc 0), some (.int ((3 : Nat) : Int)), none, some (nv n p ws)], M cs s5 g5 []) := by
    obtain ⟨v, g5, a1, a2, e5⟩ := g_draw 12 3 (by decide) (by decide) hc (show s4 < 2 ^ 40 by omega) g4 []
    by_cases h0 : v = 0
    · subst h0
      obtain ⟨n', p', ws', s6, g6, f6, h6, e6⟩ := g_great 9 hc (show s4 + 1 < 2 ^ 36 by omega) g5
      obtain ⟨g7, e7⟩ := r_right hc f6 (show s6 < 2 ^ 36 by omega) g6
      refine ⟨s6 + 3, g7, by omega, ?_⟩
      generalize nv n p ws = N at *
      generalize nv n' p' ws' = N' at *
      simp (implicitDefEqProofs := false) [execs, exec, ev, evs, evIt, asg, asgs, asgK, evCmp, ltD_int, outc, most, evBin, bopI, isCls, isCl, blO, intO, dat_int, eqv_int, gc_int, gc_bl, gc_fr, fx0, fx1, laS2, e5, e6, e7]
    · have hb : (v == 0) = false := by simpa using h0
      refine ⟨s4 + 1, g5, by omega, ?_⟩
      generalize nv n p ws = N at *
      simp (implicitDefEqProofs := false) [execs, exec, ev, evs, evIt, asg, asgs, asgK, evCmp, ltD_int, outc, most, evBin, bopI, isCls, isCl, blO, intO, dat_int, eqv_int, gc_int, gc_bl, gc_fr, fx0, fx1, laS2, e5, hb]
  obtain ⟨s5, g5, h5, F2⟩ := F2
  obtain ⟨v3, g6, a1, a2, e6⟩ := g_draw 12 3 (by decide) (by decide) hc (show s5 < 2 ^ 40 by omega) g5 []
  obtain ⟨P, rfl⟩ : ∃ k : Nat, v3 = (k : Int) := ⟨v3.toNat, by omega⟩
  obtain ⟨q, s7, g7, hq, hbq, h7, e7⟩ := r_strength 11 hc (show s5 + 1 < 2 ^ 39 by omega) g6 []
  have e7' := gc_M cs (s5 + 1) g6 [] (fr q) (noL_fr q) s7 g7
  have F3 : exec W14 laS3 [some x, some (.loc 0), some (.int ((3 : Nat) : Int)), none, some (nv n p ws)] (M cs s5 g5 []) = some (.nxt [some x, some (.loc 0), some (.int ((3 : Nat) : Int)), some (nv 2 P [⟨0, 1, q⟩]), some (nv n p ws)], M cs s7 g7 []) := by
    rw [show nv 2 P [⟨0, 1, q⟩] = .tup [.int 2, .int P, .tup [.tup [.int 0, .int 1, fr q]]] from rfl]
    generalize nv n p ws = N at *
    simp (implicitDefEqProofs := false) [execs, exec, ev, evs, evIt, asg, asgs, asgK, evCmp, ltD_int, outc, most, evBin, bopI, isCls, isCl, blO, intO, dat_int, eqv_int, gc_int, gc_bl, gc_fr, fx0, fx1, laS3, e6, e7, e7']
  obtain ⟨v8, g8, b1, b2, e8⟩ := g_draw 12 2 (by decide) (by decide) hc (show s7 < 2 ^ 40 by omega) g7 []
  have F4 : exec W14 laS4 [some x, some (.loc 0), some (.int ((3 : Nat) : Int)), some (nv 2 P [⟨0, 1, q⟩]), some (nv n p ws)] (M cs s7 g7 []) = some (.nxt [some x, some (.loc 0), some (.int ((3 : Nat) : Int)), some (nv 2 P [⟨0, 1, q⟩]), some (nv n p ws)], M cs (s7 + 1) g8 []) := by
    obtain ⟨N, hN, hN2, hN3⟩ : ∃ N : Nat, 60 - v8 * 2 = (N : Int) ∧ N ≤ 60 ∧ N % 2 = 0 := ⟨(60 - v8 * 2).toNat, by omega, by omega, by omega⟩
    have hz : ∀ k, k < N → Sz 2 [⟨0, 1, q⟩] 1 (dl (k % 2)) ∧ ∀ v, v < 2 → st [⟨0, 1, q⟩] (dl (k % 2)) v = dl ((k + 1) % 2) v := fun k _ => ⟨pair_sz hq hbq k, fun v hv => pair_st hq k v hv⟩
    have e9 := r_chances 8 (pair_good hq hbq (show P ≤ 2 by omega)) hN2 (D := fun _ => 1) (c := fun k => dl (k % 2)) hz (i := 0) (by omega) (fun v _ => rfl) (M cs (s7 + 1) g8 [])
    rw [hN3, rv_pair] at e9
    have g9 := gc_same (μ := M cs (s7 + 1) g8 []) (v := .tup [fr 1, fr 0]) rfl
    have hp : Pl 2 (.tup [fr 1, fr 0]) := Pl_pair (Pl_fr 1) (Pl_fr 0)
    have kk := r_like 2 _ hp 13 (M cs (s7 + 1) g8 []) (by decide)
    have e9 : den subT fldT none prT 14 none 17 [nv 2 P [⟨0, 1, q⟩], .int 0, .int (60 - v8 * 2)] (M cs (s7 + 1) g8 []) = some (.ok (.tup [fr 1, fr 0]), M cs (s7 + 1) g8 []) := by rw [hN]; exact e9
    have km : mulOk v8 2 = true := by simp [mulOk]
    generalize nv n p ws = N at *
    generalize nv 2 P [⟨0, 1, q⟩] = N2 at *
    simp (implicitDefEqProofs := false) [execs, exec, ev, evs, evIt, asg, asgs, asgK, evCmp, ltD_int, outc, most, evBin, bopI, isCls, isCl, blO, intO, dat_int, eqv_int, gc_int, gc_bl, gc_fr, fx0, fx1, laS4, e8, km, e9, g9, fr0, fr1, kk]
  obtain ⟨g9, e9⟩ := r_refused hc f4 (show s7 + 1 < 2 ^ 35 by omega) g8
  have F5 : exec W14 laS5 [some x, some (.loc 0), some (.int ((3 : Nat) : Int)), some (nv 2 P [⟨0, 1, q⟩]), some (nv n p ws)] (M cs (s7 + 1) g8 []) = some (.ret (.bl true), M cs (s7 + 1 + 3) g9 []) := by
    have z1 := nw_0 8 (M cs (s7 + 1) g8 [])
    have z2 := gc_same (μ := M cs (s7 + 1) g8 []) (v := .tup []) rfl
    have hp : Pl 1 (.tup []) := ⟨by simp, by simp⟩
    have z3 := r_like 1 _ hp 13 (M cs (s7 + 1) g8 []) (by decide)
    generalize nv n p ws = N at *
    generalize nv 2 P [⟨0, 1, q⟩] = N2 at *
    simp (implicitDefEqProofs := false) [execs, exec, ev, evs, evIt, asg, asgs, asgK, evCmp, ltD_int, outc, most, evBin, bopI, isCls, isCl, blO, intO, dat_int, eqv_int, gc_int, gc_bl, gc_fr, fx0, fx1, laS5, z1, z2, z3, e9]
  refine ⟨M cs (s7 + 1 + 3) g9 [], ?_⟩
  rw [execs, F1, seqK_nxt, execs, F2, seqK_nxt, execs, F3, seqK_nxt, execs, F4, seqK_nxt, execs, F5, seqK_ret]
  rfl
end
theorem answers : Answers := by
  intro ns hl hb x hx
  have hx' : ∀ μ, sqOf μ x = some (ns.map .int) := fun μ => by rcases hx with rfl | rfl <;> rfl
  have hg : ∀ xs, gdOf x xs = [] := fun xs => by rcases hx with rfl | rfl <;> rfl
  obtain ⟨cs, gs, hc, e1⟩ := r_begun 12 x ns hx' hg hl
  obtain ⟨μ, e⟩ := answers_in hc x (s := 0) rfl gs
  refine ⟨μ, ?_⟩
  have f1 : exec W14 laS0 [some x, none, none, none, none] [] = some (.nxt [some x, some (.loc 0), none, none, none], M cs 0 gs []) := by simp (implicitDefEqProofs := false) [execs, exec, ev, evs, evIt, asg, asgs, asgK, evCmp, ltD_int, outc, most, evBin, bopI, isCls, isCl, blO, intO, dat_int, eqv_int, gc_int, gc_bl, gc_fr, fx0, fx1, laS0, e1]
  unfold topDen
  rw [if_pos ⟨rfl, by decide⟩]
  show outc (execs W14 laS [some x, none, none, none, none] []) = _
  unfold laS
  rw [execs, f1, seqK_nxt]
  exact e
end MI
end
section
set_option Elab.async false
set_option linter.all false
set_option maxRecDepth 100000
set_option maxHeartbeats 0
open PySem PySem.W PySem.Calls PyProof.Rows
theorem MI.holds (A : MI.Answers) : PySem.Challenge.rw_portstell_k60_walks_step_by_step.Holds := by
  w_on; o_law
  refine HandSHeadRun.head_any (r := MI.hdW) (q := view MI.hdW.prog [58]) (H := MI.hdK) (ob := MI.hdO) (M := 4000) (loose := MI.hdL) (d := HandSHeadRun.topDef MI.hdW.prog 58) (kwd := []) MI.hdO_eq
    (by kernel_rfl) (fun s => by kernel_rfl) MI.hd_run (by kernel_rfl) (by kernel_rfl) (by kernel_rfl) (by rfl) (by first | assumption | decide +kernel) (by decide +kernel) ⟨rfl, rfl, rfl, rfl, rfl, by decide +kernel⟩ ?hw ?hc
  case hw => w_witness2
  case hc =>
    refine LamX.walk_ofTsE (l := PySem.Challenge.rw_portstell_k60_walks_step_by_step) (n := 63) (k := 45) (x := "script") (CX := fun w => L2.CX MI.hdW.prog w) rfl (by decide) (by kernel_rfl) ⟨rfl, by decide, by decide⟩ ?F (fun _ _ _ _ _ z => ?_)
    · intro w mg fa h Y G hmg0
      obtain ⟨K, KX, c⟩ := Y
      have hmg : mg ("law" : PySem.Str) = some (.ref fa) := by
        have e : (HandSHeadRun.topDef MI.hdW.prog 58).name = ("law" : PySem.Str) := by kernel_rfl
        rw [← e]
        exact hmg0
      exact ⟨K, KX, MI.law_at A KX G hmg c⟩
    · obtain ⟨_, _, _, _, _, _, _, _, _, _, _, _, _, _, _, _, q⟩ := z
end
theorem PySem.Challenge.cw_portstell_k60_walks_step_by_step_holds : PySem.Challenge.rw_portstell_k60_walks_step_by_step.Holds :=
  MI.holds MI.answers
