import PyProof.Rows.All
import PySem.Challenge.RW_portstell_k15_forests_judged
import Wide.All
import OpenK.AllK
import Wide.FinOn
import HandS.ForMost
import HandS.Wide
import HandS.IsInst
import HandS.Walk
import KE.DataCmp
import HandS.Exc
import HandS.Lambda
import HandS.TupAny
import HandS.TupMul
import HandS.Conv
import HandS.CallSlots
import KE.GoesEnum
import HandS.Zip
import HandS.NoneIn
import HandS.Small
import HandS.Defaults
import HandS.WordsExc
import OpenK.KMore
import KE.KExcIs
import KE.KTryMore
import KE.KExcSuper
import KE.KSuper
import HandS.HeadWalk
import KE.SortCalls
import KE.SortData
import KE.LtData
import HandS.More
import HandS.SetKeys
import HandS.HeadHook4
import HandS.Head2
section
set_option Elab.async false
set_option linter.all false
/-! MI: a small interpreter over values, its programs and its meaning. -/
namespace MI
open PySem PySem.SeqAt
open PySem.W (alike dataLt)

/-- values: tuples and settled lists by what they hold, changing things by their place -/
inductive MV where
  | non | bl (b : Bool) | int (i : Int) | str (s : Str)
  | tup (xs : List MV) | lv (xs : List MV) | loc (n : Nat)
  | exo (c : Nat) (x : MV) | thk (n : Nat) | fl (xs : List MV)
  deriving Inhabited

/-- changing things: a list, a dict -/
inductive MO where
  | lst (xs : List MV) | dic (kvs : List (L2.Key × MV))
  deriving Inhabited
abbrev Mem := List MO

mutual
def MV.beq : MV → MV → Bool
  | .non, .non => true
  | .bl a, .bl b => a == b
  | .int a, .int b => a == b
  | .str a, .str b => a == b
  | .tup a, .tup b => MV.beqs a b
  | .lv a, .lv b => MV.beqs a b
  | .loc a, .loc b => a == b
  | .exo c a, .exo d b => c == d && MV.beq a b
  | .thk a, .thk b => a == b
  | .fl a, .fl b => MV.beqs a b
  | _, _ => false
def MV.beqs : List MV → List MV → Bool
  | [], [] => true
  | x :: xs, y :: ys => MV.beq x y && MV.beqs xs ys
  | _, _ => false
end
mutual
theorem MV.beq_eq : ∀ a b : MV, MV.beq a b = true → a = b
  | .non, b, h => by cases b <;> simp [MV.beq] at h ⊢
  | .bl x, b, h => by cases b <;> simp [MV.beq] at h ⊢; exact h
  | .int x, b, h => by cases b <;> simp [MV.beq] at h ⊢; exact h
  | .str x, b, h => by cases b <;> simp [MV.beq] at h ⊢; exact h
  | .tup x, b, h => by cases b <;> simp [MV.beq] at h ⊢; exact MV.beqs_eq _ _ h
  | .lv x, b, h => by cases b <;> simp [MV.beq] at h ⊢; exact MV.beqs_eq _ _ h
  | .loc x, b, h => by cases b <;> simp [MV.beq] at h ⊢; exact h
  | .exo c x, b, h => by cases b <;> simp [MV.beq] at h ⊢; exact ⟨h.1, MV.beq_eq _ _ h.2⟩
  | .thk x, b, h => by cases b <;> simp [MV.beq] at h ⊢; exact h
  | .fl x, b, h => by cases b <;> simp [MV.beq] at h ⊢; exact MV.beqs_eq _ _ h
theorem MV.beqs_eq : ∀ a b : List MV, MV.beqs a b = true → a = b
  | [], b, h => by cases b <;> simp [MV.beqs] at h ⊢
  | x :: xs, b, h => by cases b <;> simp [MV.beqs] at h ⊢; exact ⟨MV.beq_eq _ _ h.1, MV.beqs_eq _ _ h.2⟩
end
mutual
theorem MV.beq_self : ∀ a : MV, MV.beq a a = true
  | .non | .bl x | .int x | .str x | .loc x | .thk x => by simp [MV.beq]
  | .tup x => by simp [MV.beq, MV.beqs_self x]
  | .lv x => by simp [MV.beq, MV.beqs_self x]
  | .fl x => by simp [MV.beq, MV.beqs_self x]
  | .exo c x => by simp [MV.beq, MV.beq_self x]
theorem MV.beqs_self : ∀ a : List MV, MV.beqs a a = true
  | [] => by simp [MV.beqs]
  | x :: xs => by simp [MV.beqs, MV.beq_self x, MV.beqs_self xs]
end
instance : BEq MV := ⟨MV.beq⟩
instance : DecidableEq MV := fun a b => if h : MV.beq a b = true then isTrue (MV.beq_eq a b h) else isFalse (by rintro rfl; exact h (MV.beq_self a))
instance : DecidableEq MO
  | .lst a, .lst b => if h : a = b then isTrue (by rw [h]) else isFalse (by simpa using h)
  | .dic a, .dic b => if h : a = b then isTrue (by rw [h]) else isFalse (by simpa using h)
  | .lst _, .dic _ | .dic _, .lst _ => isFalse (by simp)

/-! ### places -/
mutual
/-- all places are below n -/
def MV.lt (n : Nat) : MV → Bool
  | .loc k => decide (k < n)
  | .tup xs => MV.lts n xs
  | .lv xs => MV.lts n xs
  | .fl xs => MV.lts n xs
  | .exo _ x => MV.lt n x
  | _ => true
def MV.lts (n : Nat) : List MV → Bool
  | [] => true
  | x :: xs => MV.lt n x && MV.lts n xs
end
def MO.lt (n : Nat) : MO → Bool
  | .lst xs => MV.lts n xs
  | .dic kvs => MV.lts n (kvs.map (·.2))
mutual
/-- a value with its places read by look -/
def MV.rd (look : Nat → Option MV) : MV → Option MV
  | .loc k => look k
  | .tup xs => (MV.rds look xs).map .tup
  | .lv xs => (MV.rds look xs).map .lv
  | .fl xs => (MV.rds look xs).map .fl
  | .exo c x => (MV.rd look x).map (.exo c)
  | v => some v
def MV.rds (look : Nat → Option MV) : List MV → Option (List MV)
  | [] => some []
  | x :: xs => (MV.rd look x).bind fun y => (MV.rds look xs).map (y :: ·)
end
/-- places below n stay; a list at another place is settled, d deep at most -/
def look (n : Nat) (μ : Mem) : Nat → Nat → Option MV
  | 0, k => if k < n then some (.loc k) else none
  | d + 1, k => if k < n then some (.loc k) else match μ[k]? with
    | some (.lst xs) => (MV.rds (look n μ d) xs).map .lv
    | _ => none
def frz (n : Nat) (μ : Mem) (v : MV) : Option MV := MV.rd (look n μ 6) v
/-- what stood below may be told behind a call -/
def gcOk (n : Nat) : Mem → Mem → Bool
  | [], [] => true
  | o :: μ, o' :: μ' => (decide (o = o') || o'.lt n) && gcOk n μ μ'
  | _, _ => false

/-! ### the programs -/
inductive Bop where | add | sub | mul | fdv | mod | pow
  deriving DecidableEq
inductive Cop where | eq | ne | lt | le | gt | ge | isin | notin | isn | notn
  deriving DecidableEq
inductive Bi where | len | abs | min2 | max2 | int1 | tup1 | lst1 | srt1 | all1 | any1 | sum1 | min1 | max1 | str1
  deriving DecidableEq
inductive Me where | append | pop0 | pop1
  deriving DecidableEq
/-- a class that isinstance asks for -/
inductive Cl where | int | bool | tuple | list | str | dict | own (c : Nat)
  deriving DecidableEq
mutual
inductive E where
  | con (v : MV) | var (i : Nat) | bin (o : Bop) (a b : E) | neg (a : E) | cmp (o : Cop) (a b : E) | chn (o p : Cop) (a b c : E)
  | nt (a : E) | an (a b : E) | orr (a b : E) | ife (c a b : E)
  | tup (es : ES) | lst (es : ES) | chg (e : E) | idx (a b : E) | slc (a : E) (hl : Bool) (lo : E) (hh : Bool) (hi : E)
  | app (keep : Bool) (f : Nat) (es : ES) (ds : List MV) | apk (f : Nat) (es : ES) (sel : List (Nat ⊕ MV)) | blt (f : Bi) (es : ES) | isi (a : E) (cs : List Cl) | mth (m : Me) (o : E) (es : ES)
  | lcm (own : List Nat) (it : It) (g : G) (c elt : E) | lrg (t : Bool) (es : ES) | dsp (ks : List L2.Key) (es : ES) | fld (f : Str) (e : E) | hrd (f : Nat) (e : E) | sdf (o k : E)
inductive ES where
  | nil | cons (e : E) (es : ES)
inductive It where
  | seq (e : E) | rng (es : ES) | enu (e : E) | zip (a b : E)
inductive G where
  | nm (i : Nat) | tp (gs : GS) | ix (a b : E)
inductive GS where
  | nil | cons (g : G) (gs : GS)
end
mutual
inductive S where
  | asg (g : G) (e : E) | aug (i : Nat) (o : Bop) (e : E) | ex (e : E) | ret (e : E) | ite (c : E) (a b : SS)
  | whl (c : E) (b : SS) | fr (g : G) (it : It) (b : SS) | brk | cnt | pas | nev | rai (c : Nat) (e : E) | tra (p i j n : Nat) (cs : List Nat)
inductive SS where
  | nil | cons (s : S) (ss : SS)
end

/-! ### the meaning -/
abbrev Env := List (Option MV)
/-- an error that is raised: its class, its field -/
abbrev Ex := Nat × MV
abbrev R (α : Type) := Option (Except Ex α × Mem)
inductive Fl where
  | nxt (ρ : Env) | brk (ρ : Env) | cnt (ρ : Env) | ret (v : MV) | exc (x : Ex) (ρ : Env)
abbrev RS := Option (Fl × Mem)
def bnd {α β : Type} (r : R α) (k : α → Mem → R β) : R β := match r with
  | none => none
  | some (.error x, μ) => some (.error x, μ)
  | some (.ok v, μ) => k v μ
@[simp] theorem bnd_ok {α β : Type} (v : α) (μ : Mem) (k : α → Mem → R β) : bnd (some (.ok v, μ)) k = k v μ := rfl
@[simp] theorem bnd_error {α β : Type} (x : Ex) (μ : Mem) (k : α → Mem → R β) : bnd (some (.error x, μ)) k = some (.error x, μ) := rfl
@[simp] theorem bnd_none {α β : Type} (k : α → Mem → R β) : bnd (none : R α) k = none := rfl
def ok {α : Type} (μ : Mem) (o : Option α) : R α := o.map fun v => (.ok v, μ)
@[simp] theorem ok_some {α : Type} (μ : Mem) (v : α) : ok μ (some v) = some (.ok v, μ) := rfl
@[simp] theorem ok_none {α : Type} (μ : Mem) : ok μ (none : Option α) = none := rfl

def mulOk (i j : Int) : Bool := decide (i.natAbs < 2 ^ 64) || decide (j.natAbs < 2 ^ 64) || decide (i.natAbs.log2 + j.natAbs.log2 < 134000000)
def bopI : Bop → Int → Int → Option MV
  | .add, i, j => some (.int (i + j))
  | .sub, i, j => some (.int (i - j))
  | .mul, i, j => if mulOk i j = true then some (.int (i * j)) else none
  | .fdv, i, j => if j ≠ 0 ∧ Builtin.divisionGoesByPylong i j = false then some (.int (i.fdiv j)) else none
  | .mod, i, j => if j ≠ 0 then some (.int (i.fmod j)) else none
  | .pow, i, j => if 0 ≤ j ∧ j ≤ 1000000 ∧ i.natAbs < 2 ^ 64 then some (.int (i ^ j.toNat)) else none
/-- a list that may be changed or is settled, a tuple, a list that is only read -/
def lsOf (μ : Mem) : MV → Option (List MV)
  | .lv xs => some xs
  | .loc k => match μ[k]? with
    | some (.lst xs) => some xs
    | _ => none
  | _ => none
def sqOf (μ : Mem) : MV → Option (List MV)
  | .lv xs => some xs
  | .tup xs => some xs
  | .fl xs => some xs
  | .loc k => match μ[k]? with
    | some (.lst xs) => some xs
    | _ => none
  | _ => none
def most : Nat := 16000000
def evBin (μ : Mem) (o : Bop) : MV → MV → Option MV
  | .int i, .int j => bopI o i j
  | .str x, .str y => if o = .add ∧ x.length + y.length ≤ most then some (.str (x ++ y)) else none
  | .tup xs, .tup ys => if o = .add ∧ xs.length + ys.length ≤ most then some (.tup (xs ++ ys)) else none
  | .tup xs, .int k => if o = .mul ∧ 2 ≤ k ∧ k ≤ 1000 ∧ xs ≠ [] ∧ xs.length ≤ 1000 then some (.tup (List.replicate k.toNat xs).flatten) else none
  | a, .int k => (lsOf μ a).bind fun xs => if o = .mul ∧ 0 ≤ k ∧ k < 2 ^ 60 ∧ xs.length * k.toNat ≤ most then some (.lv (List.replicate k.toNat xs).flatten) else none
  | a, b => (lsOf μ a).bind fun xs => (lsOf μ b).bind fun ys => if o = .add ∧ xs.length + ys.length ≤ most then some (.lv (xs ++ ys)) else none
mutual
/-- a value without places, as the library's data -/
def MV.toD : MV → Option PyData
  | .non => some .none
  | .bl b => some (.bool b)
  | .int i => some (.int i)
  | .str s => some (.str s)
  | .tup xs => (MV.toDs xs).map .tuple
  | .lv xs => (MV.toDs xs).map .list
  | .fl xs => (MV.toDs xs).map .list
  | _ => none
def MV.toDs : List MV → Option (List PyData)
  | [] => some []
  | x :: xs => (MV.toD x).bind fun y => (MV.toDs xs).map (y :: ·)
end
def dat (μ : Mem) (v : MV) : Option PyData := ((frz 0 μ v).bind MV.toD).bind fun d => if SeqAt.shaped d = true then some d else none
def flat : MV → Bool
  | .non | .bl _ | .int _ | .str _ => true
  | _ => false
def eqF : MV → MV → Bool
  | .non, .non => true
  | .bl a, .bl b => a == b
  | .bl a, .int j => (if a then 1 else 0) == j
  | .int i, .bl b => i == (if b then 1 else 0)
  | .int i, .int j => i == j
  | .str x, .str y => x == y
  | _, _ => false
def keyOf : MV → Option L2.Key
  | .int i => some (.inl i)
  | .str s => some (.inr s)
  | _ => none
def dcOf (μ : Mem) : MV → Option (List (L2.Key × MV))
  | .loc k => match μ[k]? with
    | some (.dic kvs) => some kvs
    | _ => none
  | _ => none
def getK (kvs : List (L2.Key × MV)) (k : L2.Key) : Option MV := (kvs.find? fun kv => decide (kv.1 = k)).map (·.2)
def setK (kvs : List (L2.Key × MV)) (k : L2.Key) (v : MV) : List (L2.Key × MV) :=
  if kvs.any (fun kv => decide (kv.1 = k)) then kvs.map fun kv => if kv.1 = k then (kv.1, v) else kv else kvs ++ [(k, v)]
def isIn (μ : Mem) (a b : MV) : Option Bool := match sqOf μ b with
  | some ys => if flat a = true ∧ ys.all flat = true then some (ys.any fun y => eqF y a) else none
  | none => (dcOf μ b).bind fun kvs => (keyOf a).map fun k => (getK kvs k).isSome
def noNone : PyData → Bool
  | .none => false
  | _ => true
def ltD (μ : Mem) (a b : MV) : Option Bool := match a, b with
  | .int i, .int j => some (decide (i < j))
  | a, b => (dat μ a).bind fun d => (dat μ b).bind fun e => if alike d e = true ∧ d.depth ≤ 60 ∧ noNone d = true then some (dataLt d e) else none
def evCmp (μ : Mem) (o : Cop) (a b : MV) : Option Bool := match o with
  | .eq => (dat μ a).bind fun d => (dat μ b).map fun e => PyData.eqv d e
  | .ne => (dat μ a).bind fun d => (dat μ b).map fun e => !PyData.eqv d e
  | .lt => ltD μ a b
  | .gt => ltD μ b a
  | .le => (ltD μ b a).map (!·)
  | .ge => (ltD μ a b).map (!·)
  | .isin => isIn μ a b
  | .notin => (isIn μ a b).map (!·)
  | .isn => match b with
    | .non => some (decide (a = .non))
    | _ => none
  | .notn => match b with
    | .non => some (!decide (a = .non))
    | _ => none
def evIdx (μ : Mem) (a b : MV) : Option MV := match a, b with
  | .str z, .int i => if z.length ≤ most then (L2.atI z.cps.toList i).map fun c => .str ⟨#[c]⟩ else none
  | a, b => match dcOf μ a with
    | some kvs => (keyOf b).bind fun k => getK kvs k
    | none => match b with
      | .int i => (sqOf μ a).bind fun xs => L2.atI xs i
      | _ => none
def cut {α : Type} (xs : List α) (lo hi : Option Int) : List α := (xs.drop (HT.sIx xs.length 0 lo)).take (HT.sIx xs.length xs.length hi - HT.sIx xs.length 0 lo)
def evSlc (μ : Mem) (a : MV) (lo hi : Option Int) : Option MV := match a with
  | .tup xs => some (.tup (cut xs lo hi))
  | .str z => if z.length ≤ most then some (.str (L2.cutS z lo hi)) else none
  | a => (lsOf μ a).map fun xs => .lv (cut xs lo hi)
def intO : MV → Option Int
  | .int i => some i
  | _ => none
def blO : MV → Option Bool
  | .bl i => some i
  | _ => none
def ltM (a b : MV) : Bool := dataLt (a.toD.getD .none) (b.toD.getD .none)
/-- all are tuples of something, none is a tuple, or the first is a tuple of nothing -/
def srtK (ds : List PyData) : Bool := (ds.all fun d => match d with
    | .tuple (_ :: _) => true
    | _ => false) || (ds.all fun d => match d with
    | .tuple _ => false
    | _ => true) || (match ds with
    | .tuple [] :: _ => true
    | _ => false)
def srtOk (xs : List MV) : Bool := decide (xs.length ≤ most) && match MV.toDs xs with
  | some ds => (ds.all fun d => decide (d.depth ≤ 50) && noNone d && ds.all fun e => alike d e) && srtK ds
  | none => false
/-- sorted, alike things in their order -/
def srt (xs : List MV) : List MV := xs.mergeSort fun a b => !ltM b a
def keysI : List (L2.Key × MV) → Option (List Int)
  | [] => some []
  | (.inl i, _) :: r => (keysI r).map (i :: ·)
  | (.inr _, _) :: _ => none
def evBi (μ : Mem) : Bi → List MV → Option MV
  | .len, [.str z] => if z.length ≤ most then some (.int z.length) else none
  | .len, [v] => match dcOf μ v with
    | some kvs => some (.int kvs.length)
    | none => (sqOf μ v).map fun xs => .int xs.length
  | .abs, [.int i] => some (.int (if i < 0 then -i else i))
  | .min2, [.int i, .int j] => some (.int (if j < i then j else i))
  | .max2, [.int i, .int j] => some (.int (if j > i then j else i))
  | .int1, [.int i] => some (.int i)
  | .int1, [.bl b] => some (.int (if b then 1 else 0))
  | .tup1, [v] => (sqOf μ v).map .tup
  | .lst1, [v] => (sqOf μ v).map .lv
  | .all1, [v] => (lsOf μ v).bind fun xs => (xs.mapM blO).map fun bs => .bl (bs.all id)
  | .any1, [v] => (lsOf μ v).bind fun xs => (xs.mapM blO).map fun bs => .bl (bs.any id)
  | .srt1, [v] => match dcOf μ v with
    | some kvs => (keysI kvs).bind fun ks => if ks.length < 64 then some (.lv ((ks.mergeSort fun a b => decide (a ≤ b)).map .int)) else none
    | none => (sqOf μ v).bind fun xs => if srtOk xs = true then some (.lv (srt xs)) else none
  | .sum1, [v] => (lsOf μ v).bind fun xs => (xs.mapM intO).map fun ns => .int ns.sum
  | _, _ => none
def evMe (μ : Mem) : Me → MV → List MV → Option (MV × Mem)
  | .append, .loc k, [v] => match μ[k]? with
    | some (.lst xs) => if xs.length < most then some (.non, μ.set k (.lst (xs ++ [v]))) else none
    | _ => none
  | .pop0, .loc k, [] => match μ[k]? with
    | some (.lst xs) => (xs[xs.length - 1]?).map fun y => (y, μ.set k (.lst xs.dropLast))
    | _ => none
  | .pop1, .loc k, [.int i] => match μ[k]? with
    | some (.lst xs) => (L2.ixN xs.length i).bind fun j => if xs.length ≤ most then (xs[j]?).map fun y => (y, μ.set k (.lst (xs.eraseIdx j))) else none
    | _ => none
  | _, _, _ => none
def isCl (sub : Nat → Nat → Option Bool) : MV → Cl → Option Bool
  | .exo c _, .own d => sub c d
  | _, .own _ => none
  | .exo _ _, _ => none
  | .thk _, _ => none
  | .int _, .int => some true
  | .bl _, .int => some true
  | .bl _, .bool => some true
  | .str _, .str => some true
  | .tup _, .tuple => some true
  | .lv _, .list => some true
  | .fl _, .list => some true
  | .loc _, _ => none
  | _, _ => some false
def isCls (μ : Mem) (sub : Nat → Nat → Option Bool) (v : MV) : List Cl → Option Bool
  | [] => some false
  | c :: cs => (match v with
    | .loc k => match c, μ[k]? with
      | .own _, _ => none
      | c, some (.dic _) => some (decide (c = Cl.dict))
      | c, some _ => some (decide (c = Cl.list))
      | _, none => none
    | v => isCl sub v c).bind fun b => if b = true then some true else isCls μ sub v cs
def small (i : Int) : Bool := decide (i < 2 ^ 40) && decide (-2 ^ 40 < i)
def rngOf : List MV → Option (List MV)
  | [.int n] => if small n = true then some ((List.range n.toNat).map fun (k : Nat) => .int k) else none
  | [.int a, .int b] => if small a = true ∧ small b = true then some ((List.range (b - a).toNat).map fun (k : Nat) => .int (a + k)) else none
  | [.int a, .int b, .int c] => if small a = true ∧ small b = true ∧ c = -1 then some ((List.range (a - b).toNat).map fun (k : Nat) => .int (a - k)) else none
  | _ => none
/-- what is walked, and the place that must stay as it is meanwhile -/
abbrev Items := List MV × List (Nat × List MV)
def gdOf (v : MV) (xs : List MV) : List (Nat × List MV) := match v with
  | .loc k => [(k, xs)]
  | _ => []
def gdOk (μ : Mem) (gd : List (Nat × List MV)) : Bool := gd.all fun p => decide (μ[p.1]? = some (.lst p.2))
def enumF : Nat → List MV → List MV
  | _, [] => []
  | n, x :: xs => .tup [.int n, x] :: enumF (n + 1) xs
/-- a run of turns -/
def forL (gd : List (Nat × List MV)) (step : MV → Env → Mem → RS) : List MV → Env → Mem → RS
  | [], ρ, μ => if gdOk μ gd = true then some (.nxt ρ, μ) else none
  | x :: xs, ρ, μ => if gdOk μ gd = true then match step x ρ μ with
      | some (.nxt ρ', μ') => forL gd step xs ρ' μ'
      | some (.cnt ρ', μ') => forL gd step xs ρ' μ'
      | some (.brk ρ', μ') => some (.nxt ρ', μ')
      | r => r
    else none
/-- a comprehension's turns: what is told, as far as it is -/
def lcmL (gd : List (Nat × List MV)) (step : MV → Mem → R (Option MV)) : List MV → List MV → Mem → R (List MV)
  | [], acc, μ => if gdOk μ gd = true then some (.ok acc, μ) else none
  | x :: xs, acc, μ => if gdOk μ gd = true ∧ acc.length < most then match step x μ with
      | some (.ok (some y), μ') => lcmL gd step xs (acc ++ [y]) μ'
      | some (.ok none, μ') => lcmL gd step xs acc μ'
      | _ => none
    else none
def whN (test : Env → Mem → R MV) (body : Env → Mem → RS) : Nat → Env → Mem → RS
  | 0, _, _ => none
  | n + 1, ρ, μ => match test ρ μ with
    | some (.ok (.bl true), μ1) => match body ρ μ1 with
      | some (.nxt ρ', μ') => whN test body n ρ' μ'
      | some (.cnt ρ', μ') => whN test body n ρ' μ'
      | some (.brk ρ', μ') => some (.nxt ρ', μ')
      | r => r
    | some (.ok (.bl false), μ1) => some (.nxt ρ, μ1)
    | some (.error x, μ1) => some (.exc x ρ, μ1)
    | _ => none
theorem whN_more {test : Env → Mem → R MV} {body : Env → Mem → RS} {r : Fl × Mem} : ∀ {n : Nat} {ρ : Env} {μ : Mem}, whN test body n ρ μ = some r → whN test body (n + 1) ρ μ = some r
  | 0, _, _, h => by simp [whN] at h
  | n + 1, ρ, μ, h => by
    rw [whN] at h ⊢
    cases ht : test ρ μ with
    | none => simp [ht] at h
    | some p =>
      obtain ⟨o, μ1⟩ := p
      cases o with
      | error x => simpa [ht] using h
      | ok v =>
        cases v with
        | bl b =>
          cases b with
          | false => simpa [ht] using h
          | true =>
            simp only [ht] at h ⊢
            cases hb : body ρ μ1 with
            | none => simp [hb] at h
            | some q =>
              obtain ⟨f, μ2⟩ := q
              cases f <;> simp only [hb] at h ⊢ <;> first | exact whN_more h | exact h
        | _ => simp [ht] at h
theorem whN_add {test : Env → Mem → R MV} {body : Env → Mem → RS} {r : Fl × Mem} {n : Nat} {ρ : Env} {μ : Mem} (h : whN test body n ρ μ = some r) : ∀ k, whN test body (n + k) ρ μ = some r
  | 0 => h
  | k + 1 => whN_more (whN_add h k)
theorem whN_one {test : Env → Mem → R MV} {body : Env → Mem → RS} {r q : Fl × Mem} {n m : Nat} {ρ : Env} {μ : Mem} (h : whN test body n ρ μ = some r) (g : whN test body m ρ μ = some q) : r = q := by
  have a := whN_add h m
  have b := whN_add g n
  rw [Nat.add_comm m n] at b
  rw [a] at b
  exact Option.some.inj b
open Classical in
noncomputable def whD (test : Env → Mem → R MV) (body : Env → Mem → RS) (ρ : Env) (μ : Mem) : RS :=
  if h : ∃ n r, whN test body n ρ μ = some r then some (Classical.choose (Classical.choose_spec h)) else none
theorem whD_of {test : Env → Mem → R MV} {body : Env → Mem → RS} {r : Fl × Mem} {n : Nat} {ρ : Env} {μ : Mem} (h : whN test body n ρ μ = some r) : whD test body ρ μ = some r := by
  have e : ∃ n r, whN test body n ρ μ = some r := ⟨n, r, h⟩
  unfold whD
  rw [dif_pos e]
  exact congrArg some (whN_one (Classical.choose_spec (Classical.choose_spec e)) h)
theorem whD_to {test : Env → Mem → R MV} {body : Env → Mem → RS} {r : Fl × Mem} {ρ : Env} {μ : Mem} (h : whD test body ρ μ = some r) : ∃ n, whN test body n ρ μ = some r := by
  unfold whD at h
  split at h
  · rename_i e
    exact ⟨_, (Classical.choose_spec (Classical.choose_spec e)).trans h⟩
  · cases h
/-- fuel for the whiles, or none -/
noncomputable def wh (fu : Option Nat) (test : Env → Mem → R MV) (body : Env → Mem → RS) (ρ : Env) (μ : Mem) : RS := match fu with
  | some n => whN test body n ρ μ
  | none => whD test body ρ μ
def wipe (ρ : Env) : List Nat → Env
  | [] => ρ
  | v :: vs => (wipe ρ vs).set v none
end MI
end
section
set_option Elab.async false
set_option linter.all false
namespace MI
open PySem PySem.SeqAt
/-- what the defs do: which class stands beneath which; a call -/
structure Wd where
  sub : Nat → Nat → Option Bool
  fld : Nat → Str
  fu : Option Nat
  call : Nat → List MV → Mem → R MV
  hear : Nat → (Mem → R MV) → Mem → R MV
  act : Option (Nat × (Mem → R MV))
/-- an error's class stands beneath one of these -/
def subAny (sub : Nat → Nat → Option Bool) (c : Nat) : List Nat → Option Bool
  | [] => some false
  | d :: ds => (sub c d).bind fun b => (subAny sub c ds).map fun r => b || r
/-- a call's end: the caller's memory is told as it stands, what was made within is settled or gone -/
def gc (n : Nat) (μ : Mem) (r : R MV) : R MV := match r with
  | some (.ok v, μ') => if gcOk n μ (μ'.take n) = true then (frz n μ' v).map fun w => (.ok w, μ'.take n) else none
  | some (.error (c, x), μ') => if gcOk n μ (μ'.take n) = true then (frz n μ' x).map fun w => (.error (c, w), μ'.take n) else none
  | none => none
def asgIx (μ : Mem) (a b v : MV) : Option Mem := match a with
  | .loc k => match μ[k]? with
    | some (.lst xs) => match b with
      | .int i => (L2.ixN xs.length i).map fun j => μ.set k (.lst (xs.set j v))
      | _ => none
    | some (.dic kvs) => (keyOf b).bind fun key => if kvs.length < most then some (μ.set k (.dic (setK kvs key v))) else none
    | _ => none
  | _ => none
/-- what stands at a key, else a new list put there -/
def sdM (μ : Mem) (a b : MV) : Option (MV × Mem) := match a with
  | .loc j => match μ[j]? with
    | some (.dic kvs) => (keyOf b).bind fun key => if kvs.length < most then match getK kvs key with
        | some u => some (u, μ)
        | none => some (.loc μ.length, μ.set j (.dic (kvs ++ [(key, .loc μ.length)])) ++ [.lst []])
      else none
    | _ => none
  | _ => none
/-- arguments in the parameters' order -/
def selA : List (Nat ⊕ MV) → List MV → Option (List MV)
  | [], _ => some []
  | .inl i :: r, xs => (xs[i]?).bind fun x => (selA r xs).map (x :: ·)
  | .inr v :: r, xs => (selA r xs).map (v :: ·)
/-- a bound of a part, if there is one -/
def partO (b : Bool) (v : MV) : Option (Option Int) := if b = true then (intO v).map some else some none
section
variable (W : Wd)
mutual
noncomputable def ev : E → Env → Mem → R MV
  | .con v, _, μ => some (.ok v, μ)
  | .var i, ρ, μ => ok μ (ρ[i]?.bind id)
  | .bin o a b, ρ, μ => bnd (ev a ρ μ) fun x μ => bnd (ev b ρ μ) fun y μ => ok μ (evBin μ o x y)
  | .neg a, ρ, μ => bnd (ev a ρ μ) fun x μ => ok μ ((intO x).map fun i => .int (-i))
  | .cmp o a b, ρ, μ => bnd (ev a ρ μ) fun x μ => bnd (ev b ρ μ) fun y μ => ok μ ((evCmp μ o x y).map .bl)
  | .chn o p a b c, ρ, μ => bnd (ev a ρ μ) fun x μ => bnd (ev b ρ μ) fun y μ => match evCmp μ o x y with
    | some true => bnd (ev c ρ μ) fun z μ => ok μ ((evCmp μ p y z).map .bl)
    | some false => some (.ok (.bl false), μ)
    | none => none
  | .nt a, ρ, μ => bnd (ev a ρ μ) fun x μ => ok μ ((blO x).map fun b => .bl (!b))
  | .an a b, ρ, μ => bnd (ev a ρ μ) fun x μ => match x with
    | .bl true => ev b ρ μ
    | .bl false => some (.ok (.bl false), μ)
    | _ => none
  | .orr a b, ρ, μ => bnd (ev a ρ μ) fun x μ => match x with
    | .bl true => some (.ok (.bl true), μ)
    | .bl false => ev b ρ μ
    | _ => none
  | .ife c a b, ρ, μ => bnd (ev c ρ μ) fun x μ => match x with
    | .bl true => ev a ρ μ
    | .bl false => ev b ρ μ
    | _ => none
  | .tup es, ρ, μ => bnd (evs es ρ μ) fun xs μ => if xs.length ≤ most then some (.ok (.tup xs), μ) else none
  | .lst es, ρ, μ => bnd (evs es ρ μ) fun xs μ => if xs.length ≤ most then some (.ok (.lv xs), μ) else none
  | .chg e, ρ, μ => bnd (ev e ρ μ) fun x μ => match x with
    | .lv xs => some (.ok (.loc μ.length), μ ++ [.lst xs])
    | _ => none
  | .idx a b, ρ, μ => bnd (ev a ρ μ) fun x μ => bnd (ev b ρ μ) fun y μ => ok μ (evIdx μ x y)
  | .slc a hl lo hh hi, ρ, μ => bnd (ev a ρ μ) fun x μ => bnd (ev lo ρ μ) fun l μ => match partO hl l with
    | some lo => bnd (ev hi ρ μ) fun h μ => ok μ ((partO hh h).bind fun hi => evSlc μ x lo hi)
    | none => none
  | .app keep f es ds, ρ, μ => bnd (evs es ρ μ) fun xs μ => if keep = true then W.call f (xs ++ ds) μ else gc μ.length μ (W.call f (xs ++ ds) μ)
  | .apk f es sel, ρ, μ => bnd (evs es ρ μ) fun xs μ => match selA sel xs with
    | some ys => gc μ.length μ (W.call f ys μ)
    | none => none
  | .blt f es, ρ, μ => bnd (evs es ρ μ) fun xs μ => ok μ (evBi μ f xs)
  | .isi a cs, ρ, μ => bnd (ev a ρ μ) fun x μ => ok μ ((isCls μ W.sub x cs).map .bl)
  | .mth m o es, ρ, μ => bnd (ev o ρ μ) fun x μ => match lsOf μ x with
    | some _ => bnd (evs es ρ μ) fun xs μ => match evMe μ m x xs with
      | some (v, μ') => some (.ok v, μ')
      | none => none
    | none => none
  | .lcm own it g c e, ρ, μ => bnd (evIt it ρ μ) fun p μ => bnd (lcmL p.2 (fun x μ => match asg g x (wipe ρ own) μ with
      | some (ρ', μ') => match ev c ρ' μ' with
        | some (.ok (.bl true), μ1) => bnd (ev e ρ' μ1) fun y μ2 => some (.ok (some y), μ2)
        | some (.ok (.bl false), μ1) => some (.ok none, μ1)
        | _ => none
      | none => none) p.1 [] μ) fun ys μ => some (.ok (.lv ys), μ)
  | .lrg t es, ρ, μ => bnd (evs es ρ μ) fun xs μ => ok μ ((rngOf xs).bind fun ys => if ys.length ≤ most then some (if t = true then .tup ys else .lv ys) else none)
  | .dsp ks es, ρ, μ => bnd (evs es ρ μ) fun xs μ => if xs.length = ks.length ∧ ks.Nodup ∧ ks.length ≤ 15 then some (.ok (.loc μ.length), μ ++ [.dic (ks.zip xs)]) else none
  | .fld f e, ρ, μ => bnd (ev e ρ μ) fun x μ => match x with
    | .exo c y => if W.fld c = f then some (.ok y, μ) else none
    | _ => none
  | .sdf o k, ρ, μ => bnd (ev o ρ μ) fun x μ => match dcOf μ x with
    | some _ => bnd (ev k ρ μ) fun y μ => match sdM μ x y with
      | some (v, μ') => some (.ok v, μ')
      | none => none
    | none => none
  | .hrd f e, ρ, μ => match W.hear f (fun μ => ev e ρ μ) μ with
    | some (.ok v, μ') => gc μ.length μ (some (.ok v, μ'))
    | _ => none
noncomputable def evs : ES → Env → Mem → R (List MV)
  | .nil, _, μ => some (.ok [], μ)
  | .cons e es, ρ, μ => bnd (ev e ρ μ) fun x μ => bnd (evs es ρ μ) fun xs μ => some (.ok (x :: xs), μ)
noncomputable def evIt : It → Env → Mem → R Items
  | .seq e, ρ, μ => bnd (ev e ρ μ) fun x μ => ok μ ((sqOf μ x).map fun xs => (xs, gdOf x xs))
  | .rng es, ρ, μ => bnd (evs es ρ μ) fun xs μ => ok μ ((rngOf xs).map fun ys => (ys, []))
  | .enu e, ρ, μ => bnd (ev e ρ μ) fun x μ => ok μ ((sqOf μ x).map fun xs => (enumF 0 xs, gdOf x xs))
  | .zip a b, ρ, μ => bnd (ev a ρ μ) fun x μ => bnd (ev b ρ μ) fun y μ => match x, y with
    | .tup xs, .tup ys => some (.ok ((xs.zip ys).map fun p => .tup [p.1, p.2], []), μ)
    | _, _ => none
noncomputable def asg : G → MV → Env → Mem → Option (Env × Mem)
  | .nm i, v, ρ, μ => if i < ρ.length then some (ρ.set i (some v), μ) else none
  | .tp gs, v, ρ, μ => match v with
    | .tup xs => asgs gs xs ρ μ
    | v => (lsOf μ v).bind fun xs => asgs gs xs ρ μ
  | .ix a b, v, ρ, μ => match ev a ρ μ with
    | some (.ok x, μ1) => match ev b ρ μ1 with
      | some (.ok y, μ2) => (asgIx μ2 x y v).map fun μ3 => (ρ, μ3)
      | _ => none
    | _ => none
noncomputable def asgs : GS → List MV → Env → Mem → Option (Env × Mem)
  | .nil, [], ρ, μ => some (ρ, μ)
  | .cons g gs, v :: vs, ρ, μ => match asg g v ρ μ with
    | some (ρ', μ') => asgs gs vs ρ' μ'
    | none => none
  | _, _, _, _ => none
end
def seqK (r : RS) (k : Env → Mem → RS) : RS := match r with
  | some (.nxt ρ, μ) => k ρ μ
  | r => r
@[simp] theorem seqK_nxt (ρ : Env) (μ : Mem) (k : Env → Mem → RS) : seqK (some (.nxt ρ, μ)) k = k ρ μ := rfl
@[simp] theorem seqK_ret (v : MV) (μ : Mem) (k : Env → Mem → RS) : seqK (some (.ret v, μ)) k = some (.ret v, μ) := rfl
@[simp] theorem seqK_brk (ρ : Env) (μ : Mem) (k : Env → Mem → RS) : seqK (some (.brk ρ, μ)) k = some (.brk ρ, μ) := rfl
@[simp] theorem seqK_cnt (ρ : Env) (μ : Mem) (k : Env → Mem → RS) : seqK (some (.cnt ρ, μ)) k = some (.cnt ρ, μ) := rfl
@[simp] theorem seqK_exc (x : Ex) (ρ : Env) (μ : Mem) (k : Env → Mem → RS) : seqK (some (.exc x ρ, μ)) k = some (.exc x ρ, μ) := rfl
@[simp] theorem seqK_none (k : Env → Mem → RS) : seqK none k = none := rfl
/-- behind an expression -/
def thenE {α : Type} (ρ : Env) (r : R α) (k : α → Mem → RS) : RS := match r with
  | some (.ok v, μ) => k v μ
  | some (.error x, μ) => some (.exc x ρ, μ)
  | none => none
@[simp] theorem thenE_ok {α : Type} (ρ : Env) (v : α) (μ : Mem) (k : α → Mem → RS) : thenE ρ (some (.ok v, μ)) k = k v μ := rfl
@[simp] theorem thenE_error {α : Type} (ρ : Env) (x : Ex) (μ : Mem) (k : α → Mem → RS) : thenE ρ (some (.error x, μ)) k = some (.exc x ρ, μ) := rfl
@[simp] theorem thenE_none {α : Type} (ρ : Env) (k : α → Mem → RS) : thenE ρ (none : R α) k = none := rfl
def asgK (r : Option (Env × Mem)) : RS := r.map fun p => (.nxt p.1, p.2)
mutual
noncomputable def exec : S → Env → Mem → RS
  | .asg g e, ρ, μ => thenE ρ (ev W e ρ μ) fun v μ => asgK (asg W g v ρ μ)
  | .aug i o e, ρ, μ => match ρ[i]?.bind id with
    | some x => thenE ρ (ev W e ρ μ) fun y μ => match evBin μ o x y with
      | some z => if i < ρ.length then some (.nxt (ρ.set i (some z)), μ) else none
      | none => none
    | none => none
  | .ex e, ρ, μ => thenE ρ (ev W e ρ μ) fun _ μ => some (.nxt ρ, μ)
  | .ret e, ρ, μ => thenE ρ (ev W e ρ μ) fun v μ => some (.ret v, μ)
  | .ite c a b, ρ, μ => thenE ρ (ev W c ρ μ) fun x μ => match x with
    | .bl true => execs a ρ μ
    | .bl false => execs b ρ μ
    | _ => none
  | .whl c b, ρ, μ => wh W.fu (fun ρ μ => ev W c ρ μ) (fun ρ μ => execs b ρ μ) ρ μ
  | .fr g it b, ρ, μ => thenE ρ (evIt W it ρ μ) fun p μ => forL p.2 (fun x ρ μ => match asg W g x ρ μ with
      | some (ρ', μ') => execs b ρ' μ'
      | none => none) p.1 ρ μ
  | .brk, ρ, μ => some (.brk ρ, μ)
  | .cnt, ρ, μ => some (.cnt ρ, μ)
  | .pas, ρ, μ => some (.nxt ρ, μ)
  | .nev, _, _ => none
  | .rai c e, ρ, μ => thenE ρ (ev W e ρ μ) fun v μ => some (.exc (c, v) ρ, μ)
  | .tra p i j n cs, ρ, μ => match ρ[p]?.bind id with
    | some (.thk m) => match W.act with
      | some a => if m ≠ a.1 then none else match a.2 μ with
        | some (.ok v, μ') => if i < ρ.length then some (.nxt (ρ.set i (some v)), μ') else none
        | some (.error x, μ') => match subAny W.sub x.1 cs with
          | some true => if j < ρ.length ∧ j ≠ n then some (.nxt ((ρ.set j (some (.exo x.1 x.2))).set n none), μ') else none
          | _ => none
        | none => none
      | none => none
    | _ => none
noncomputable def execs : SS → Env → Mem → RS
  | .nil, ρ, μ => some (.nxt ρ, μ)
  | .cons s ss, ρ, μ => seqK (exec s ρ μ) fun ρ μ => execs ss ρ μ
end
end
/-- how a body ends, for its caller -/
def outc (r : RS) : R MV := match r with
  | some (.ret v, μ') => some (.ok v, μ')
  | some (.nxt _, μ') => some (.ok .non, μ')
  | some (.exc x _, μ') => some (.error x, μ')
  | _ => none
/-- a def: how many parameters, how many names, its body -/
structure Fn where
  np : Nat
  ns : Nat
  body : SS
/-- calls, d deep at most -/
noncomputable def den (sub : Nat → Nat → Option Bool) (fld : Nat → Str) (fu : Option Nat) (T : List Fn) : Nat → Option (Nat × (Mem → R MV)) → Nat → List MV → Mem → R MV
  | 0, _, _, _, _ => none
  | d + 1, a, f, vs, μ => match T[f]? with
    | some F => if vs.length = F.np ∧ F.np ≤ F.ns then outc (execs ⟨sub, fld, fu, fun g ws ν => den sub fld fu T d none g ws ν, fun g h ν => den sub fld fu T d (some (0, h)) g [.thk 0] ν, a⟩ F.body (vs.map some ++ List.replicate (F.ns - vs.length) none) μ) else none
    | none => none
end MI
end
section
set_option Elab.async false
set_option linter.all false
set_option maxHeartbeats 4000000
/-! MI over the heap: what a value, a memory, a row of names stand for. -/
namespace MI
open PySem PySem.Spec PyProof.Rows L2
/-- what is known of the text's own things -/
structure GI where
  K : PySem.W.Frag
  cls : Nat → Addr
  fld : Nat → Str
  T : List (Addr × Str)
  ρ0 : Env
  σ0 : L2.St
  cd : List (Addr × Str)
/-- a list, a dict -/
def BO (o : HO) : Prop := (∃ xs, o = .lst xs) ∨ ∃ kvs, o = .dK kvs
theorem BO.nt {o : HO} (h : BO o) (ps : Array Value) : o ≠ .tbl ps := by
  rcases h with ⟨xs, rfl⟩ | ⟨xs, rfl⟩ <;> exact fun z => by cases z
theorem BO.l {xs : List V} : BO (.lst xs) := .inl ⟨xs, rfl⟩
theorem BO.d {xs : List (Key × V)} : BO (.dK xs) := .inr ⟨xs, rfl⟩
/-- an error that is held: its class, its dict -/
def exT (C dd a : Addr) : HO := .ext fun h => ∃ (oe : Obj) (vs : Array Value), h.get? a = some oe ∧ oe.cls = .ref C ∧ oe.dict = some dd ∧ oe.data = .fields vs
theorem exT_tbl {C dd a : Addr} (ps : Array Value) : exT C dd a ≠ .tbl ps := fun z => by
  have z' : HO.ext _ = HO.tbl ps := z
  cases z'
section
variable (G : GI) (B ι : List Addr) (H : Hp)
mutual
inductive RV : MV → V → Prop where
  | non : RV .non .non
  | bl (b : Bool) : RV (.bl b) (.bl b)
  | int (i : Int) : RV (.int i) (.int i)
  | str (s : Str) : RV (.str s) (.str s)
  | tup {a : Addr} {vs : List V} {xs : List MV} (h : SqT G.K H a vs) (r : RVs xs vs) : RV (.tup xs) (.ref a)
  | lv {a : Addr} {vs : List V} {xs : List MV} (h : H a = some (.lst vs)) (nb : a ∉ B) (ni : a ∉ ι) (r : RVs xs vs) : RV (.lv xs) (.ref a)
  | loc {n : Nat} {a : Addr} (h : ι[n]? = some a) : RV (.loc n) (.ref a)
  | flH {a : Addr} {o : Obj} {vs : List V} {xs : List MV} (h : H a = some (.frz o (.lst vs))) (ni : a ∉ ι) (r : RVs xs vs) : RV (.fl xs) (.ref a)
  | flK {a : Addr} {o : Obj} {its : Array Value} {n : Nat} {vs : List V} {xs : List MV} (h : G.K.lookup a = some o ∧ o.cls = .type "list" ∧ o.dict = none ∧ o.data = .seq its n ∧ its.size ≤ sizeLine ∧ Vals vs its.toList) (r : RVs xs vs) : RV (.fl xs) (.ref a)
  | exo {c : Nat} {x : MV} {w : V} {a dd : Addr} (h : H a = some (exT (G.cls c) dd a)) (hd : H dd = some (.xd [(G.fld c, w)])) (nb : a ∉ B ∧ dd ∉ B) (ni : a ∉ ι ∧ dd ∉ ι) (r : RV x w) : RV (.exo c x) (.ref a)
  | thk (a : Addr) : RV (.thk a) (.ref a)
inductive RVs : List MV → List V → Prop where
  | nil : RVs [] []
  | cons {x : MV} {xs : List MV} {v : V} {vs : List V} (h : RV x v) (r : RVs xs vs) : RVs (x :: xs) (v :: vs)
end
inductive RKs : List (Key × MV) → List (Key × V) → Prop where
  | nil : RKs [] []
  | cons {k : Key} {x : MV} {xs : List (Key × MV)} {v : V} {vs : List (Key × V)} (h : RV G B ι H x v) (r : RKs xs vs) : RKs ((k, x) :: xs) ((k, v) :: vs)
def OR (a : Addr) : MO → Prop
  | .lst xs => ∃ vs, H a = some (.lst vs) ∧ RVs G B ι H xs vs
  | .dic kvs => ∃ kws, H a = some (.dK kws) ∧ RKs G B ι H kvs kws
structure ER (ρ : Env) (σ : L2.St) : Prop where
  len : ρ.length = σ.length
  get : ∀ (i : Nat) (v : MV), ρ[i]? = some (some v) → ∃ w, σ[i]? = some (some w) ∧ RV G B ι H v w
structure HR (μ : Mem) : Prop where
  len : ι.length = μ.length
  nd : ι.Nodup
  bu : ∀ a ∈ B, (∃ o, H a = some o ∧ BO o) ∧ a ∉ ι
  tb : LamX.Tabs G.T H
  ce : ER G B ι H G.ρ0 G.σ0
  co : ∀ p ∈ G.cd, H p.1 = some (LamX.CodeO p.1 p.2) ∧ p.1 ∉ ι ∧ p.1 ∉ B
  ob : ∀ (n : Nat) (a : Addr) (o : MO), ι[n]? = some a → μ[n]? = some o → OR G B ι H a o
end
/-- from H on: new places are new, all that is not told by a place stays -/
structure Ext (K : PySem.W.Frag) (ι : List Addr) (H : Hp) (ι' : List Addr) (H' : Hp) : Prop where
  pre : ∃ t, ι' = ι ++ t
  fr : ∀ a ∈ ι', a ∈ ι ∨ ∀ o, H a = some o → ∃ ps, o = .tbl ps
  tup : ∀ a vs, SqT K H a vs → SqT K H' a vs
  oth : ∀ a o, H a = some o → a ∉ ι → (∀ ps, o ≠ .tbl ps) → H' a = some o
  thr : ∀ a o, H a = some o → (∀ ps, o ≠ .tbl ps) → ∃ u, H' a = some u ∧ ∀ ps, u ≠ .tbl ps
theorem Ext.refl {K : PySem.W.Frag} {ι : List Addr} {H : Hp} : Ext K ι H ι H := ⟨⟨[], by simp⟩, fun _ h => .inl h, fun _ _ h => h, fun _ _ h _ _ => h, fun _ o h n => ⟨o, h, n⟩⟩
theorem Ext.trans {K : PySem.W.Frag} {ι ι1 ι2 : List Addr} {H H1 H2 : Hp} (a : Ext K ι H ι1 H1) (b : Ext K ι1 H1 ι2 H2) : Ext K ι H ι2 H2 where
  pre := by
    obtain ⟨t, rfl⟩ := a.pre
    obtain ⟨u, rfl⟩ := b.pre
    exact ⟨t ++ u, by simp⟩
  fr := fun x hx => by
    rcases b.fr x hx with h | h
    · exact a.fr x h
    · refine .inr fun o ho => ?_
      by_cases hn : ∃ ps, o = .tbl ps
      · exact hn
      · obtain ⟨u, hu, nu⟩ := a.thr x o ho fun ps e => hn ⟨ps, e⟩
        obtain ⟨ps, e⟩ := h u hu
        exact absurd e (nu ps)
  tup := fun x vs h => b.tup x vs (a.tup x vs h)
  oth := fun x o h hn ht => b.oth x o (a.oth x o h hn ht) (fun hx => by
    rcases a.fr x hx with z | z
    · exact hn z
    · obtain ⟨ps, e⟩ := z o h
      exact ht ps e) ht
  thr := fun x o h n => by
    obtain ⟨u, hu, nu⟩ := a.thr x o h n
    exact b.thr x u hu nu
/-- a new thing is laid that no place tells -/
theorem Ext.push {K : PySem.W.Frag} {ι : List Addr} {H : Hp} {p : Addr} {o : HO} (h : H p = none) : Ext K ι H ι (upd H p o) where
  pre := ⟨[], by simp⟩
  fr := fun _ h => .inl h
  tup := fun a vs q => by
    rcases q with (q | ⟨ob, q⟩) | q
    · exact .inl (.inl (by rw [upd_ne (ne_of_none q h)]; exact q))
    · exact .inl (.inr ⟨ob, by rw [upd_ne (ne_of_none q h)]; exact q⟩)
    · exact .inr q
  oth := fun a u q _ _ => by rw [upd_ne (ne_of_none q h)]; exact q
  thr := fun a u e n => ⟨u, by rw [upd_ne (ne_of_none e h), e], n⟩
/-- .. and a place tells it -/
theorem Ext.pushL {K : PySem.W.Frag} {ι : List Addr} {H : Hp} {p : Addr} (h : H p = none) {H' : Hp} (e : Ext K ι H ι H') : Ext K ι H (ι ++ [p]) H' where
  pre := ⟨[p], rfl⟩
  fr := fun a ha => by
    rcases List.mem_append.mp ha with q | q
    · exact .inl q
    · simp at q; subst q; exact .inr fun o ho => by rw [h] at ho; cases ho
  tup := e.tup
  oth := e.oth
  thr := e.thr
/-- nothing is told there, or a table -/
def Nw (H : Hp) (a : Addr) : Prop := ∀ o, H a = some o → ∃ ps, o = .tbl ps
theorem Nw.of {H : Hp} {a : Addr} (h : H a = none) : Nw H a := fun o e => by rw [h] at e; cases e
theorem Nw.back {K : PySem.W.Frag} {ι ι' : List Addr} {H H' : Hp} {a : Addr} (h : Nw H' a) (e : Ext K ι H ι' H') : Nw H a := fun o q => by
  by_cases hn : ∃ ps, o = .tbl ps
  · exact hn
  · obtain ⟨u, hu, nu⟩ := e.thr a o q fun ps z => hn ⟨ps, z⟩
    obtain ⟨ps, z⟩ := h u hu
    exact absurd z (nu ps)
/-- a table's things stay where no table and no code is written -/
theorem tabs_upd {T : List (Addr × Str)} {H : Hp} {a : Addr} {o : HO} (t : LamX.Tabs T H) (h1 : ∀ ps, H a ≠ some (.tbl ps)) (h2 : ∀ φ, H a ≠ some (.ext φ)) : LamX.Tabs T (upd H a o) := fun p hp => by
  obtain ⟨ps, q1, q2, q3⟩ := t p hp
  refine ⟨ps, by rw [upd_ne (by rintro rfl; exact h1 _ q1)]; exact q1, q2, fun pos cv hc => ?_⟩
  obtain ⟨c, e, q⟩ := q3 pos cv hc
  exact ⟨c, e, by rw [upd_ne (by rintro rfl; exact h2 _ q)]; exact q⟩
theorem tabs_new {T : List (Addr × Str)} {H : Hp} {a : Addr} {o : HO} (t : LamX.Tabs T H) (h : H a = none) : LamX.Tabs T (upd H a o) := tabs_upd t (fun ps z => by rw [h] at z; cases z) (fun φ z => by rw [h] at z; cases z)
theorem tabs_lst {T : List (Addr × Str)} {H : Hp} {a : Addr} {o : HO} {vs : List V} (t : LamX.Tabs T H) (h : H a = some (.lst vs)) : LamX.Tabs T (upd H a o) := tabs_upd t (fun ps z => by rw [h] at z; cases z) (fun φ z => by rw [h] at z; cases z)
theorem tabs_dic {T : List (Addr × Str)} {H : Hp} {a : Addr} {o : HO} {vs : List (Key × V)} (t : LamX.Tabs T H) (h : H a = some (.dK vs)) : LamX.Tabs T (upd H a o) := tabs_upd t (fun ps z => by rw [h] at z; cases z) (fun φ z => by rw [h] at z; cases z)
theorem Ext.ni {K : PySem.W.Frag} {ι ι' : List Addr} {H H' : Hp} {a : Addr} {o : HO} (e : Ext K ι H ι' H') (q : H a = some o) (n : ∀ ps, o ≠ .tbl ps) (ni : a ∉ ι) : a ∉ ι' := fun hx => by
  rcases e.fr _ hx with z | z
  · exact ni z
  · obtain ⟨ps, z⟩ := z o q
    exact n ps z
section
variable {G : GI} {B ι ι' : List Addr} {H H' : Hp}
mutual
theorem RV.mono {v : MV} {w : V} (e : Ext G.K ι H ι' H') : RV G B ι H v w → RV G B ι' H' v w
  | .non => .non
  | .bl b => .bl b
  | .int i => .int i
  | .str s => .str s
  | .tup h r => .tup (e.tup _ _ h) (RVs.mono e r)
  | .lv h nb ni r => .lv (e.oth _ _ h ni (fun _ z => by cases z)) nb (e.ni h (fun _ z => by cases z) ni) (RVs.mono e r)
  | .loc h => .loc (by
      obtain ⟨t, rfl⟩ := e.pre
      rw [List.getElem?_append_left (List.getElem?_eq_some_iff.mp h).1]; exact h)
  | .flH h ni r => .flH (e.oth _ _ h ni (fun _ z => by cases z)) (e.ni h (fun _ z => by cases z) ni) (RVs.mono e r)
  | .flK h r => .flK h (RVs.mono e r)
  | .exo h hd nb ni r => .exo (e.oth _ _ h ni.1 exT_tbl) (e.oth _ _ hd ni.2 (fun _ z => by cases z)) nb ⟨e.ni h exT_tbl ni.1, e.ni hd (fun _ z => by cases z) ni.2⟩ (RV.mono e r)
  | .thk a => .thk a
theorem RVs.mono {v : List MV} {w : List V} (e : Ext G.K ι H ι' H') : RVs G B ι H v w → RVs G B ι' H' v w
  | .nil => .nil
  | .cons h r => .cons (RV.mono e h) (RVs.mono e r)
end
theorem RKs.mono {v : List (Key × MV)} {w : List (Key × V)} (e : Ext G.K ι H ι' H') (r : RKs G B ι H v w) : RKs G B ι' H' v w := by
  induction r with
  | nil => exact .nil
  | cons h _ ih => exact .cons (h.mono e) ih
theorem ER.mono {ρ : Env} {σ : L2.St} (e : Ext G.K ι H ι' H') (r : ER G B ι H ρ σ) : ER G B ι' H' ρ σ :=
  ⟨r.len, fun i v h => let ⟨w, a, b⟩ := r.get i v h; ⟨w, a, b.mono e⟩⟩
theorem OR.mono {a : Addr} {o : MO} (e : Ext G.K ι H ι' H') (h : OR G B ι H a o) (k : ∀ u, H a = some u → H' a = some u) : OR G B ι' H' a o := by
  cases o with
  | lst xs => obtain ⟨vs, h1, h2⟩ := h; exact ⟨vs, k _ h1, h2.mono e⟩
  | dic kvs => obtain ⟨vs, h1, h2⟩ := h; exact ⟨vs, k _ h1, h2.mono e⟩
theorem RVs.length {xs : List MV} {vs : List V} (r : RVs G B ι H xs vs) : xs.length = vs.length := by
  induction r using RVs.rec (motive_1 := fun _ _ _ => True) with
  | nil => rfl
  | cons _ _ _ ih => simp [ih]
  | _ => trivial
theorem RVs.get : ∀ {xs : List MV} {vs : List V} {i : Nat} {x : MV}, RVs G B ι H xs vs → xs[i]? = some x → ∃ v, vs[i]? = some v ∧ RV G B ι H x v
  | _, _, 0, x, .cons h r, e => by simp at e; subst e; exact ⟨_, rfl, h⟩
  | _, _, i + 1, x, .cons h r, e => by
    obtain ⟨v, a, b⟩ := RVs.get (i := i) r (by simpa using e)
    exact ⟨v, by simpa using a, b⟩
theorem RVs.get' : ∀ {xs : List MV} {vs : List V} {i : Nat} {v : V}, RVs G B ι H xs vs → vs[i]? = some v → ∃ x, xs[i]? = some x ∧ RV G B ι H x v
  | _, _, 0, x, .cons h r, e => by simp at e; subst e; exact ⟨_, rfl, h⟩
  | _, _, i + 1, x, .cons h r, e => by
    obtain ⟨v, a, b⟩ := RVs.get' (i := i) r (by simpa using e)
    exact ⟨v, by simpa using a, b⟩
theorem RVs.append : ∀ {xs ys : List MV} {vs ws : List V}, RVs G B ι H xs vs → RVs G B ι H ys ws → RVs G B ι H (xs ++ ys) (vs ++ ws)
  | _, _, _, _, .nil, s => s
  | _, _, _, _, .cons h r, s => .cons h (RVs.append r s)
theorem RVs.take : ∀ {xs : List MV} {vs : List V} (n : Nat), RVs G B ι H xs vs → RVs G B ι H (xs.take n) (vs.take n)
  | _, _, 0, _ => .nil
  | _, _, _ + 1, .nil => .nil
  | _, _, n + 1, .cons h r => .cons h (RVs.take n r)
theorem RVs.drop : ∀ {xs : List MV} {vs : List V} (n : Nat), RVs G B ι H xs vs → RVs G B ι H (xs.drop n) (vs.drop n)
  | _, _, 0, r => r
  | _, _, _ + 1, .nil => .nil
  | _, _, n + 1, .cons h r => RVs.drop n r
theorem RVs.set {x : MV} {v : V} (h : RV G B ι H x v) : ∀ {xs : List MV} {vs : List V} (i : Nat), RVs G B ι H xs vs → RVs G B ι H (xs.set i x) (vs.set i v)
  | _, _, _, .nil => .nil
  | _, _, 0, .cons _ r => .cons h r
  | _, _, i + 1, .cons q r => .cons q (RVs.set h i r)
theorem RVs.eraseIdx : ∀ {xs : List MV} {vs : List V} (i : Nat), RVs G B ι H xs vs → RVs G B ι H (xs.eraseIdx i) (vs.eraseIdx i)
  | _, _, _, .nil => .nil
  | _, _, 0, .cons _ r => r
  | _, _, i + 1, .cons q r => .cons q (RVs.eraseIdx i r)
theorem RVs.dropLast {xs : List MV} {vs : List V} (r : RVs G B ι H xs vs) : RVs G B ι H xs.dropLast vs.dropLast := by
  rw [List.dropLast_eq_take, List.dropLast_eq_take, r.length]; exact r.take _
theorem RVs.rep {xs : List MV} {vs : List V} (r : RVs G B ι H xs vs) : ∀ k : Nat, RVs G B ι H (List.replicate k xs).flatten (List.replicate k vs).flatten
  | 0 => .nil
  | k + 1 => by rw [List.replicate_succ, List.replicate_succ, List.flatten_cons, List.flatten_cons]; exact r.append (RVs.rep r k)
theorem RVs.cutV {xs : List MV} {vs : List V} (r : RVs G B ι H xs vs) (lo hi : Option Int) : RVs G B ι H (cut xs lo hi) (L2.cutV vs lo hi) := by
  unfold cut L2.cutV
  rw [r.length]
  exact (r.drop _).take _
/-- nothing of it is touched -/
theorem HR.keep {μ : Mem} (h : HR G B ι H μ) (e : Ext G.K ι H ι H') (k : ∀ a ∈ ι, ∀ u, H a = some u → H' a = some u) (t : LamX.Tabs G.T H') : HR G B ι H' μ where
  len := h.len
  nd := h.nd
  tb := t
  ce := h.ce.mono e
  co := fun p hp => ⟨e.oth _ _ (h.co p hp).1 (h.co p hp).2.1 LamX.codeO_ne, e.ni (h.co p hp).1 LamX.codeO_ne (h.co p hp).2.1, (h.co p hp).2.2⟩
  bu := fun a ha => ⟨by
    obtain ⟨⟨o, q, n⟩, z⟩ := h.bu a ha
    exact ⟨o, e.oth a o q z n.nt, n⟩, (h.bu a ha).2⟩
  ob := fun n a o h1 h2 => (h.ob n a o h1 h2).mono e (k a (List.mem_of_getElem? h1))
theorem HR.pushO {μ : Mem} {p : Addr} {o : HO} (h : HR G B ι H μ) (hp : H p = none) : HR G B ι (upd H p o) μ :=
  h.keep (Ext.push hp) (fun a _ u q => by rw [upd_ne (ne_of_none q hp)]; exact q) (tabs_new h.tb hp)
theorem HR.get {μ : Mem} (h : HR G B ι H μ) {n : Nat} {o : MO} (e : μ[n]? = some o) : ∃ a, ι[n]? = some a ∧ OR G B ι H a o := by
  have hl := (List.getElem?_eq_some_iff.mp e).1
  have hl' : n < ι.length := by rw [h.len]; exact hl
  exact ⟨ι[n], List.getElem?_eq_getElem hl', h.ob n _ o (List.getElem?_eq_getElem hl') e⟩
/-- the thing at a place is changed -/
theorem Ext.upd {K : PySem.W.Frag} {n : Nat} {a : Addr} {o : HO} (h : ι[n]? = some a) (hm : ∀ xs, H a ≠ some (.tup xs)) (hf : ∀ ob xs, H a ≠ some (.frz ob (.tup xs))) (hs : ∀ ps, o ≠ .tbl ps) : Ext K ι H ι (L2.upd H a o) where
  pre := ⟨[], by simp⟩
  fr := fun _ h => .inl h
  tup := fun b vs q => by
    rcases q with (q | ⟨ob, q⟩) | q
    · exact .inl (.inl (by rw [upd_ne (by rintro rfl; exact hm _ q)]; exact q))
    · exact .inl (.inr ⟨ob, by rw [upd_ne (by rintro rfl; exact hf _ _ q)]; exact q⟩)
    · exact .inr q
  oth := fun b u q hn _ => by rw [upd_ne (by rintro rfl; exact hn (List.mem_of_getElem? h))]; exact q
  thr := fun b u q n => by
    by_cases e : b = a
    · subst e; exact ⟨o, upd_same, hs⟩
    · exact ⟨u, by rw [upd_ne e]; exact q, n⟩
theorem HR.set {μ : Mem} {n : Nat} {a : Addr} {o : HO} {u : MO} (h : HR G B ι H μ) (hn : ι[n]? = some a) (e : Ext G.K ι H ι (L2.upd H a o)) (q : OR G B ι (L2.upd H a o) a u) (t : LamX.Tabs G.T (L2.upd H a o)) : HR G B ι (L2.upd H a o) (μ.set n u) where
  len := by simp [h.len]
  nd := h.nd
  tb := t
  ce := h.ce.mono e
  co := fun p hp => ⟨e.oth _ _ (h.co p hp).1 (h.co p hp).2.1 LamX.codeO_ne, (h.co p hp).2⟩
  bu := fun b hb => ⟨by
    obtain ⟨⟨o', z, n'⟩, w⟩ := h.bu b hb
    exact ⟨o', by rw [upd_ne (by rintro rfl; exact w (List.mem_of_getElem? hn))]; exact z, n'⟩, (h.bu b hb).2⟩
  ob := fun m b v h1 h2 => by
    by_cases hm : n = m
    · subst hm
      rw [hn] at h1
      cases h1
      have hl : n < μ.length := by rw [← h.len]; exact (List.getElem?_eq_some_iff.mp hn).1
      rw [List.getElem?_set_self hl] at h2
      cases h2
      exact q
    · rw [List.getElem?_set_ne hm] at h2
      refine (h.ob m b v h1 h2).mono e fun x z => ?_
      rw [upd_ne]
      · exact z
      · rintro rfl
        exact hm ((List.getElem?_inj (List.getElem?_eq_some_iff.mp hn).1 h.nd).mp (hn.trans h1.symm))
/-! ### a place that is busy -/
mutual
theorem RV.busy {a : Addr} {o : HO} (h : H a = none) {v : MV} {w : V} : RV G B ι H v w → RV G (a :: B) ι (L2.upd H a o) v w
  | .non => .non
  | .bl b => .bl b
  | .int i => .int i
  | .str s => .str s
  | .tup q r => .tup ((Ext.push (ι := ι) h).tup _ _ q) (RVs.busy h r)
  | .lv q nb ni r => .lv (by rw [upd_ne (ne_of_none q h)]; exact q) (by rw [List.mem_cons, not_or]; exact ⟨ne_of_none q h, nb⟩) ni (RVs.busy h r)
  | .loc q => .loc q
  | .flH q ni r => .flH (by rw [upd_ne (ne_of_none q h)]; exact q) ni (RVs.busy h r)
  | .flK q r => .flK q (RVs.busy h r)
  | .exo q qd nb ni r => .exo (by rw [upd_ne (ne_of_none q h)]; exact q) (by rw [upd_ne (ne_of_none qd h)]; exact qd) (by simp only [List.mem_cons, not_or]; exact ⟨⟨ne_of_none q h, nb.1⟩, ne_of_none qd h, nb.2⟩) ni (RV.busy h r)
  | .thk a => .thk a
theorem RVs.busy {a : Addr} {o : HO} (h : H a = none) {v : List MV} {w : List V} : RVs G B ι H v w → RVs G (a :: B) ι (L2.upd H a o) v w
  | .nil => .nil
  | .cons q r => .cons (RV.busy h q) (RVs.busy h r)
end
theorem RKs.busy {a : Addr} {o : HO} (h : H a = none) {v : List (Key × MV)} {w : List (Key × V)} (r : RKs G B ι H v w) : RKs G (a :: B) ι (L2.upd H a o) v w := by
  induction r with
  | nil => exact .nil
  | cons q _ ih => exact .cons (q.busy h) ih
theorem OR.busy {a b : Addr} {o : HO} {u : MO} (h : H a = none) (r : OR G B ι H b u) : OR G (a :: B) ι (L2.upd H a o) b u := by
  cases u with
  | lst xs => obtain ⟨vs, q, r⟩ := r; exact ⟨vs, by rw [upd_ne (ne_of_none q h)]; exact q, r.busy h⟩
  | dic xs => obtain ⟨vs, q, r⟩ := r; exact ⟨vs, by rw [upd_ne (ne_of_none q h)]; exact q, r.busy h⟩
theorem HR.ni (hr : HR G B ι H μ) {p : Addr} (hp : H p = none) : p ∉ ι := fun h => by
  obtain ⟨n, hn⟩ := List.mem_iff_getElem?.mp h
  have hl : n < μ.length := by rw [← hr.len]; exact (List.getElem?_eq_some_iff.mp hn).1
  have q := hr.ob n p μ[n] hn (List.getElem?_eq_getElem hl)
  cases e : μ[n] with
  | lst xs => rw [e] at q; obtain ⟨vs, q, _⟩ := q; rw [hp] at q; cases q
  | dic xs => rw [e] at q; obtain ⟨vs, q, _⟩ := q; rw [hp] at q; cases q
theorem ER.busy {a : Addr} {o : HO} {ρ : Env} {σ : L2.St} (h : H a = none) (r : ER G B ι H ρ σ) : ER G (a :: B) ι (L2.upd H a o) ρ σ :=
  ⟨r.len, fun i v e => let ⟨w, q, z⟩ := r.get i v e; ⟨w, q, z.busy h⟩⟩
theorem HR.busy {a : Addr} {o : HO} (h : H a = none) (hr : HR G B ι H μ) (ho : BO o) : HR G (a :: B) ι (L2.upd H a o) μ where
  len := hr.len
  nd := hr.nd
  tb := tabs_new hr.tb h
  ce := hr.ce.busy h
  co := fun p hp => ⟨by rw [upd_ne (ne_of_none (hr.co p hp).1 h)]; exact (hr.co p hp).1, (hr.co p hp).2.1, by rw [List.mem_cons, not_or]; exact ⟨ne_of_none (hr.co p hp).1 h, (hr.co p hp).2.2⟩⟩
  bu := fun b hb => by
    rcases List.mem_cons.mp hb with rfl | hb
    · exact ⟨⟨o, upd_same, ho⟩, hr.ni h⟩
    · obtain ⟨⟨u, q, n⟩, z⟩ := hr.bu b hb
      exact ⟨⟨u, by rw [upd_ne (ne_of_none q h)]; exact q, n⟩, z⟩
  ob := fun n b u h1 h2 => (hr.ob n b u h1 h2).busy h
/-! busy no longer -/
mutual
theorem RV.idle {a : Addr} {v : MV} {w : V} : RV G (a :: B) ι H v w → RV G B ι H v w
  | .non => .non
  | .bl b => .bl b
  | .int i => .int i
  | .str s => .str s
  | .tup q r => .tup q (RVs.idle r)
  | .lv q nb ni r => .lv q (fun z => nb (List.mem_cons_of_mem _ z)) ni (RVs.idle r)
  | .loc q => .loc q
  | .flH q ni r => .flH q ni (RVs.idle r)
  | .flK q r => .flK q (RVs.idle r)
  | .exo q qd nb ni r => .exo q qd ⟨fun z => nb.1 (List.mem_cons_of_mem _ z), fun z => nb.2 (List.mem_cons_of_mem _ z)⟩ ni (RV.idle r)
  | .thk a => .thk a
theorem RVs.idle {a : Addr} {v : List MV} {w : List V} : RVs G (a :: B) ι H v w → RVs G B ι H v w
  | .nil => .nil
  | .cons q r => .cons (RV.idle q) (RVs.idle r)
end
theorem RKs.idle {a : Addr} {v : List (Key × MV)} {w : List (Key × V)} (r : RKs G (a :: B) ι H v w) : RKs G B ι H v w := by
  induction r with
  | nil => exact .nil
  | cons q _ ih => exact .cons q.idle ih
theorem OR.idle {a b : Addr} {u : MO} (r : OR G (a :: B) ι H b u) : OR G B ι H b u := by
  cases u with
  | lst xs => obtain ⟨vs, q, r⟩ := r; exact ⟨vs, q, r.idle⟩
  | dic xs => obtain ⟨vs, q, r⟩ := r; exact ⟨vs, q, r.idle⟩
theorem ER.idle {a : Addr} {ρ : Env} {σ : L2.St} (r : ER G (a :: B) ι H ρ σ) : ER G B ι H ρ σ := ⟨r.len, fun i v e => let ⟨w, q, z⟩ := r.get i v e; ⟨w, q, z.idle⟩⟩
theorem HR.idle {a : Addr} (hr : HR G (a :: B) ι H μ) : HR G B ι H μ := ⟨hr.len, hr.nd, fun b hb => hr.bu b (List.mem_cons_of_mem _ hb), hr.tb, hr.ce.idle, fun p hp => ⟨(hr.co p hp).1, (hr.co p hp).2.1, fun z => (hr.co p hp).2.2 (List.mem_cons_of_mem _ z)⟩, fun n b u h1 h2 => (hr.ob n b u h1 h2).idle⟩
/-! .. it has a place of its own -/
mutual
theorem RV.own {a : Addr} {v : MV} {w : V} (hf : ∀ o vs, H a ≠ some (.frz o (.lst vs))) : RV G (a :: B) ι H v w → RV G B (ι ++ [a]) H v w
  | .non => .non
  | .bl b => .bl b
  | .int i => .int i
  | .str s => .str s
  | .tup q r => .tup q (RVs.own hf r)
  | .lv q nb ni r => .lv q (fun z => nb (List.mem_cons_of_mem _ z)) (fun z => by
      rcases List.mem_append.mp z with z | z
      · exact ni z
      · simp at z; subst z; exact nb List.mem_cons_self) (RVs.own hf r)
  | .loc q => .loc (by rw [List.getElem?_append_left (List.getElem?_eq_some_iff.mp q).1]; exact q)
  | .flH q ni r => .flH q (fun z => by
      rcases List.mem_append.mp z with z | z
      · exact ni z
      · simp at z; subst z; exact hf _ _ q) (RVs.own hf r)
  | .flK q r => .flK q (RVs.own hf r)
  | .exo q qd nb ni r => .exo q qd ⟨fun z => nb.1 (List.mem_cons_of_mem _ z), fun z => nb.2 (List.mem_cons_of_mem _ z)⟩ ⟨fun z => by
      rcases List.mem_append.mp z with z | z
      · exact ni.1 z
      · simp at z; subst z; exact nb.1 List.mem_cons_self, fun z => by
      rcases List.mem_append.mp z with z | z
      · exact ni.2 z
      · simp at z; subst z; exact nb.2 List.mem_cons_self⟩ (RV.own hf r)
  | .thk a => .thk a
theorem RVs.own {a : Addr} {v : List MV} {w : List V} (hf : ∀ o vs, H a ≠ some (.frz o (.lst vs))) : RVs G (a :: B) ι H v w → RVs G B (ι ++ [a]) H v w
  | .nil => .nil
  | .cons q r => .cons (RV.own hf q) (RVs.own hf r)
end
theorem RKs.own {a : Addr} {v : List (Key × MV)} {w : List (Key × V)} (hf : ∀ o vs, H a ≠ some (.frz o (.lst vs))) (r : RKs G (a :: B) ι H v w) : RKs G B (ι ++ [a]) H v w := by
  induction r with
  | nil => exact .nil
  | cons q _ ih => exact .cons (q.own hf) ih
theorem OR.own {a b : Addr} {u : MO} (hf : ∀ o vs, H a ≠ some (.frz o (.lst vs))) (r : OR G (a :: B) ι H b u) : OR G B (ι ++ [a]) H b u := by
  cases u with
  | lst xs => obtain ⟨vs, q, r⟩ := r; exact ⟨vs, q, r.own hf⟩
  | dic xs => obtain ⟨vs, q, r⟩ := r; exact ⟨vs, q, r.own hf⟩
theorem ER.own {a : Addr} {ρ : Env} {σ : L2.St} (hf : ∀ o vs, H a ≠ some (.frz o (.lst vs))) (r : ER G (a :: B) ι H ρ σ) : ER G B (ι ++ [a]) H ρ σ := ⟨r.len, fun i v e => let ⟨w, q, z⟩ := r.get i v e; ⟨w, q, z.own hf⟩⟩
theorem HR.own {a : Addr} {o : MO} (hf : ∀ o vs, H a ≠ some (.frz o (.lst vs))) (hr : HR G (a :: B) ι H μ) (nb : a ∉ B) (q : OR G B (ι ++ [a]) H a o) : HR G B (ι ++ [a]) H (μ ++ [o]) where
  len := by simp [hr.len]
  nd := by
    rw [List.nodup_append]
    refine ⟨hr.nd, by simp, fun b hb c hc => ?_⟩
    simp at hc
    subst hc
    rintro rfl
    exact (hr.bu b List.mem_cons_self).2 hb
  tb := hr.tb
  ce := hr.ce.own hf
  co := fun p hp => ⟨(hr.co p hp).1, fun z => by
    rcases List.mem_append.mp z with z | z
    · exact (hr.co p hp).2.1 z
    · simp at z; exact (hr.co p hp).2.2 (by rw [z]; exact List.mem_cons_self), fun z => (hr.co p hp).2.2 (List.mem_cons_of_mem _ z)⟩
  bu := fun b hb => ⟨(hr.bu b (List.mem_cons_of_mem _ hb)).1, fun z => by
    rcases List.mem_append.mp z with z | z
    · exact (hr.bu b (List.mem_cons_of_mem _ hb)).2 z
    · simp at z; subst z; exact nb hb⟩
  ob := fun n b u h1 h2 => by
    by_cases hn : n < ι.length
    · rw [List.getElem?_append_left hn] at h1
      rw [List.getElem?_append_left (by rw [← hr.len]; exact hn)] at h2
      exact (hr.ob n b u h1 h2).own hf
    · have h3 := (List.getElem?_eq_some_iff.mp h1).1
      simp at h3
      have : n = ι.length := by omega
      subst this
      simp at h1
      rw [hr.len] at h2
      simp at h2
      subst h1 h2
      exact q
end
end MI
end
section
set_option Elab.async false
set_option linter.all false
set_option maxHeartbeats 4000000
/-! MI: what a reading is, step by step. -/
namespace MI
open PySem PySem.Spec PyProof.Rows L2
/-- how a result ends -/
def Out {α : Type} (r : R α) (good : α → Mem → Prop) (bad : Ex → Mem → Prop) : Prop := match r with
  | none => False
  | some (.ok v, μ) => good v μ
  | some (.error x, μ) => bad x μ
theorem Out.mono {α : Type} {r : R α} {good good' : α → Mem → Prop} {bad bad' : Ex → Mem → Prop} (h : Out r good bad) (hg : ∀ v μ, good v μ → good' v μ) (hb : ∀ x μ, bad x μ → bad' x μ) : Out r good' bad' := by
  match r, h with
  | some (.ok v, μ), h => exact hg v μ h
  | some (.error x, μ), h => exact hb x μ h
theorem Out.bnd {α β : Type} {r : R α} {k : α → Mem → R β} {good : β → Mem → Prop} {bad : Ex → Mem → Prop} (h : Out (bnd r k) good bad) : Out r (fun v μ => Out (k v μ) good bad) bad := by
  match r, h with
  | some (.ok v, μ), h => exact h
  | some (.error x, μ), h => exact h
theorem Out.ok {α : Type} {o : Option α} {μ : Mem} {good : α → Mem → Prop} {bad : Ex → Mem → Prop} (h : Out (ok μ o) good bad) : ∃ v, o = some v ∧ good v μ := by
  cases o with
  | none => exact h.elim
  | some v => exact ⟨v, rfl, h⟩
theorem Out.done {α : Type} {v : α} {μ : Mem} {good : α → Mem → Prop} {bad : Ex → Mem → Prop} (h : Out (some (.ok v, μ)) good bad) : good v μ := h
section
variable (G : GI) (B ι : List Addr) (H : Hp)
/-- an error that stands for x -/
def RX (cls : Value) (d : Option Addr) (x : Ex) : Prop := cls = .ref (G.cls x.1) ∧ ∃ da w, d = some da ∧ H da = some (.xd [(G.fld x.1, w)]) ∧ RV G B ι H x.2 w
def Bad (W : WX) (σ : L2.St) (x : Ex) (μ' : Mem) : Prop := ∀ cls d H' ι', Ext G.K ι H ι' H' → HR G B ι' H' μ' → RX G B ι' H' cls d x → W cls d σ H'
/-- a new list was made, and none else knows it -/
def New (ι' : List Addr) (H' : Hp) (μ' : Mem) (al : Bool) (v : MV) (w : V) : Prop := al = true → ∀ xs, v = .lv xs → ∃ a vs, w = .ref a ∧ Nw H a ∧ H' a = some (.lst vs) ∧ HR G (a :: B) ι' H' μ' ∧ RVs G (a :: B) ι' H' xs vs
def Gd (al : Bool) (Q : VK) (v : MV) (μ' : Mem) : Prop := ∀ w H' ι', Ext G.K ι H ι' H' → HR G B ι' H' μ' → RV G B ι' H' v w → New G B H ι' H' μ' al v w → Q w H'
end
section
variable {G : GI} {B ι ι' : List Addr} {H H' : Hp} {W : WX} {σ : L2.St} {x : Ex} {μ : Mem} {Q : VK} {v : MV} {al : Bool}
theorem Bad.ext (h : Bad G B ι H W σ x μ) (e : Ext G.K ι H ι' H') : Bad G B ι' H' W σ x μ := fun cls d H2 ι2 e2 => h cls d H2 ι2 (e.trans e2)
theorem New.ext {ι2 : List Addr} {H2 : Hp} {w : V} (e : Ext G.K ι H ι' H') (h : New G B H' ι2 H2 μ al v w) : New G B H ι2 H2 μ al v w := fun ha xs hx => by
  obtain ⟨a, vs, rfl, q, z⟩ := h ha xs hx
  exact ⟨a, vs, rfl, q.back e, z⟩
theorem New.lst {xs : List MV} {vs : List V} {p : Addr} (hr : HR G B ι H μ) (hp : H p = none) (r : RVs G B ι H xs vs) : New G B H ι (upd H p (.lst vs)) μ al (.lv xs) (.ref p) := fun _ ys e => by
  cases e
  exact ⟨p, vs, rfl, Nw.of hp, upd_same, hr.busy hp .l, r.busy hp⟩
theorem Gd.ext (h : Gd G B ι H al Q v μ) (e : Ext G.K ι H ι' H') : Gd G B ι' H' al Q v μ := fun w H2 ι2 e2 hr rv n => h w H2 ι2 (e.trans e2) hr rv (n.ext e)
end
/-- which expressions make a list anew -/
def al : E → Bool
  | .bin .. | .lst _ | .slc .. | .lcm .. | .lrg .. => true
  | .blt .lst1 _ | .blt .srt1 _ => true
  | _ => false
/-- an expression's reading; an argument list's -/
def tE (G : GI) (W : WX) (wd : Wd) (e : E) : TE := fun σ H Q => ∃ B ι μ ρ, ER G B ι H ρ σ ∧ HR G B ι H μ ∧ Out (ev wd e ρ μ) (Gd G B ι H (al e) Q) (Bad G B ι H W σ)
def tEs (G : GI) (W : WX) (wd : Wd) (es : ES) : TA := fun σ H Q => ∃ B ι μ ρ, ER G B ι H ρ σ ∧ HR G B ι H μ ∧
  Out (evs wd es ρ μ) (fun xs μ' => ∀ vs H' ι', Ext G.K ι H ι' H' → HR G B ι' H' μ' → RVs G B ι' H' xs vs → Q vs H') (Bad G B ι H W σ)
theorem peW {X : Cx} {e : Expr} {t t' : TE} (h : PE X e t) (k : ∀ σ H Q, t' σ H Q → t σ H Q) : PE X e t' := ⟨fun pins s σ H Q I q => h.run pins s σ H Q I (k σ H Q q)⟩
theorem peOr {X : Cx} {e : Expr} {t t' : TE} (h : PE X e t) (h' : PE X e t') : PE X e (fun σ H Q => t σ H Q ∨ t' σ H Q) := ⟨fun pins s σ H Q I q => q.elim (h.run pins s σ H Q I) (h'.run pins s σ H Q I)⟩
theorem paW {X : Cx} {e : List Expr} {t t' : TA} (h : PA X e t) (k : ∀ σ H Q, t' σ H Q → t σ H Q) : PA X e t' := ⟨fun pos pins s σ H Q I q => h.run pos pins s σ H Q I (k σ H Q q)⟩
theorem psW {X : Cx} {e : Stmt} {t t' : TS} (h : PS X e t) (k : ∀ D σ H, t' D σ H → t D σ H) : PS X e t' := ⟨fun pins s σ H D I q => h.run pins s σ H D I (k D σ H q)⟩
theorem pssW {X : Cx} {e : List Stmt} {t t' : TS} (h : PSs X e t) (k : ∀ D σ H, t' D σ H → t D σ H) : PSs X e t' := ⟨fun pins s σ H D I q => h.run pins s σ H D I (k D σ H q)⟩
theorem psOr {X : Cx} {e : Stmt} {t t' : TS} (h : PS X e t) (h' : PS X e t') : PS X e (fun D σ H => t D σ H ∨ t' D σ H) := ⟨fun pins s σ H D I q => q.elim (h.run pins s σ H D I) (h'.run pins s σ H D I)⟩
theorem ptW {X : Cx} {e : Expr} {t t' : TT} (h : PT X e t) (k : ∀ σ H Q, t' σ H Q → t σ H Q) : PT X e t' := ⟨fun pins s σ H Q I q => h.run pins s σ H Q I (k σ H Q q)⟩
section
variable {G : GI} {W : WX} {wd : Wd} {B ι : List Addr} {H : Hp} {σ : L2.St} {μ : Mem} {ρ : Env}
/-- go on behind an expression -/
theorem tE_then {e : E} {Q : VK} {good : MV → Mem → Prop} (er : ER G B ι H ρ σ) (hr : HR G B ι H μ) (h : Out (ev wd e ρ μ) good (Bad G B ι H W σ))
    (k : ∀ v μ1 w H1 ι1, good v μ1 → Ext G.K ι H ι1 H1 → HR G B ι1 H1 μ1 → RV G B ι1 H1 v w → New G B H ι1 H1 μ1 (al e) v w → Q w H1) : tE G W wd e σ H Q :=
  ⟨B, ι, μ, ρ, er, hr, h.mono (fun v μ1 q w H1 ι1 e1 h1 r1 n1 => k v μ1 w H1 ι1 q e1 h1 r1 n1) fun _ _ q => q⟩
theorem tEs_then {es : ES} {Q : List V → Hp → Prop} {good : List MV → Mem → Prop} (er : ER G B ι H ρ σ) (hr : HR G B ι H μ) (h : Out (evs wd es ρ μ) good (Bad G B ι H W σ))
    (k : ∀ v μ1 w H1 ι1, good v μ1 → Ext G.K ι H ι1 H1 → HR G B ι1 H1 μ1 → RVs G B ι1 H1 v w → Q w H1) : tEs G W wd es σ H Q :=
  ⟨B, ι, μ, ρ, er, hr, h.mono (fun v μ1 q w H1 ι1 e1 h1 r1 => k v μ1 w H1 ι1 q e1 h1 r1) fun _ _ q => q⟩
end
section
variable {X : Cx} {G : GI} {W : WX} {wd : Wd}
/-! ### names, constants -/
theorem s_int {i : Int} {j : Nat} {pos : Pos} : PE X (.Constant (.int i) j pos) (tE G W wd (.con (.int i))) := peW pe_int fun σ H Q ⟨B, ι, μ, ρ, er, hr, h⟩ => h _ H ι Ext.refl hr (.int i) (fun z => by cases z)
theorem s_bl {i : Bool} {j : Nat} {pos : Pos} : PE X (.Constant (.bool i) j pos) (tE G W wd (.con (.bl i))) := peW pe_bl fun σ H Q ⟨B, ι, μ, ρ, er, hr, h⟩ => h _ H ι Ext.refl hr (.bl i) (fun z => by cases z)
theorem s_non {j : Nat} {pos : Pos} : PE X (.Constant .none j pos) (tE G W wd (.con .non)) := peW pe_non fun σ H Q ⟨B, ι, μ, ρ, er, hr, h⟩ => h _ H ι Ext.refl hr .non (fun z => by cases z)
theorem s_str {x : Str} {j : Nat} {pos : Pos} : PE X (.Constant (.str x) j pos) (tE G W wd (.con (.str x))) := peW pe_str fun σ H Q ⟨B, ι, μ, ρ, er, hr, h⟩ => h _ H ι Ext.refl hr (.str x) (fun z => by cases z)
theorem s_var {i : Nat} {x : Str} {pos : Pos} (hN : X.N[i]? = some x) (hv : Vis X.env.scope x) (hd : (x == ("__debug__" : Str)) = false) (hcd : (x == ("__classdict__" : Str)) = false) : PE X (.Name x pos) (tE G W wd (.var i)) :=
  peW (pe_var hN hv hd hcd) fun σ H Q ⟨B, ι, μ, ρ, er, hr, h⟩ => by
    simp only [ev] at h
    obtain ⟨v, e, h⟩ := h.ok
    cases q : ρ[i]? with
    | none => rw [q] at e; cases e
    | some o =>
      rw [q] at e
      have e : o = some v := e
      subst e
      obtain ⟨w, hw, rv⟩ := er.get i v q
      exact ⟨w, hw, h w H ι Ext.refl hr rv (fun z => by cases z)⟩
/-- a constant of the module -/
def ConOk (G : GI) (v : MV) (u : Value) : Prop := ∃ w, RelV w u ∧ ∀ B ι H, RV G B ι H v w
theorem s_glob {x : Str} {v : MV} {u : Value} {pos : Pos} (hg : Gl X x) (hm : X.mg x = some u) (c : ConOk G v u) (hd : (x == ("__debug__" : Str)) = false) : PE X (.Name x pos) (tE G W wd (.con v)) := by
  obtain ⟨w, r, rv⟩ := c
  exact peW (pe_glob hg hm r hd) fun σ H Q ⟨B, ι, μ, ρ, er, hr, h⟩ => h w H ι Ext.refl hr (rv _ _ _) (fun z => by cases z)
/-! ### two in a row -/
theorem tOp_of {r : R2} {a b : E} {σ : L2.St} {H : Hp} {Q : VK} {B ι : List Addr} {μ : Mem} {ρ : Env} {good : MV → MV → Mem → Prop} (er : ER G B ι H ρ σ) (hr : HR G B ι H μ)
    (h : Out (ev wd a ρ μ) (fun x μ1 => Out (ev wd b ρ μ1) (good x) (Bad G B ι H W σ)) (Bad G B ι H W σ))
    (k : ∀ x y μ2 v w H2 ι2, good x y μ2 → Ext G.K ι H ι2 H2 → HR G B ι2 H2 μ2 → RV G B ι2 H2 x v → RV G B ι2 H2 y w → r v w H2 Q) : tOp r (tE G W wd a) (tE G W wd b) σ H Q := by
  refine tE_then er hr h fun x μ1 v H1 ι1 h1 e1 hr1 r1 _ => ?_
  exact tE_then (er.mono e1) hr1 (h1.mono (fun _ _ q => q) fun _ _ q => q.ext e1) fun y μ2 w H2 ι2 h2 e2 hr2 r2 _ => k x y μ2 v w H2 ι2 h2 (e1.trans e2) hr2 (r1.mono e2) r2
end
end MI
end
section
set_option Elab.async false
set_option linter.all false
set_option maxHeartbeats 4000000
/-! MI: operators. -/
namespace MI
open PySem PySem.Spec PyProof.Rows L2
section
variable {X : Cx}
theorem mulOk_ok {i j : Int} (h : mulOk i j = true) : IntMulOk i j := by
  have b : ∀ x : Int, Builtin.Int.intBits x ≤ x.natAbs.log2 + 1 := fun x => by
    unfold Builtin.Int.intBits
    split <;> omega
  unfold mulOk at h
  rw [Bool.or_eq_true, Bool.or_eq_true] at h
  rcases h with (h | h) | h
  · have h := of_decide_eq_true h
    exact .of_left (intBits_le_64 (by omega) (by omega))
  · have h := of_decide_eq_true h
    exact .of_right (intBits_le_64 (by omega) (by omega))
  · have h := of_decide_eq_true h
    have h1 := b i
    have h2 := b j
    have e : bitsLine = 134217728 := by decide
    unfold IntMulOk
    intro z
    rw [Bool.and_eq_true] at z
    have z2 := z.2
    unfold Builtin.Int.intTooBig at z2
    have z3 := of_decide_eq_true z2
    rw [e] at z3
    omega
def opOf : Operator → Option Bop
  | .Add => some .add
  | .Sub => some .sub
  | .Mult => some .mul
  | .FloorDiv => some .fdv
  | .Mod => some .mod
  | .Pow => some .pow
  | _ => none
/-- two ints, by what bopI tells -/
def rInt (o : Bop) : R2 := fun x y H Q => ∃ i j v, x = .int i ∧ y = .int j ∧ bopI o i j = some (.int v) ∧ Q (.int v) H
theorem op_int {op : Operator} {o : Bop} (h : opOf op = some o) : OpR X (binaryOp op) (rInt o) := by
  intro pins s σ H x y v u Q I rx ry ⟨i, j, z, hx, hy, e, q⟩
  cases op <;> simp only [opOf, Option.some.injEq, reduceCtorEq] at h <;> subst h <;> simp only [bopI] at e
  · cases e; exact op_add pins s σ H x y v u Q I rx ry ⟨i, j, hx, hy, q⟩
  · cases e; exact op_sub pins s σ H x y v u Q I rx ry ⟨i, j, hx, hy, q⟩
  · split at e
    · rename_i hm
      cases e
      subst hx hy
      obtain ⟨t, rfl⟩ := rx
      obtain ⟨t', rfl⟩ := ry
      exact mul_int ⟨.int _, H, I.tok _, ⟨_, rfl⟩, q⟩ (mulOk_ok hm)
    · cases e
  · split at e
    · rename_i hj
      cases e
      exact op_modN pins s σ H x y v u Q I rx ry ⟨i, j, hx, hy, hj, q⟩
    · cases e
  · split at e
    · rename_i hj
      cases e
      exact op_pow pins s σ H x y v u Q I rx ry ⟨i, j, hx, hy, hj, q⟩
    · cases e
  · split at e
    · rename_i hj
      cases e
      subst hx hy
      obtain ⟨t, rfl⟩ := rx
      obtain ⟨t', rfl⟩ := ry
      exact floordiv_int hj.1 ⟨.int _, H, I.tok _, ⟨_, rfl⟩, q⟩ (.inl hj.2)
    · cases e
theorem bopI_int {o : Bop} {i j : Int} {v : MV} (h : bopI o i j = some v) : ∃ z, v = .int z := by
  cases o <;> simp only [bopI] at h
  · cases h; exact ⟨_, rfl⟩
  · cases h; exact ⟨_, rfl⟩
  all_goals
    split at h
    · cases h; exact ⟨_, rfl⟩
    · cases h
theorem most_le {n : Nat} (h : n ≤ most) : n ≤ sizeLine := by
  rw [sizeLine_eq]; unfold most at h; omega
theorem most_lt {n : Nat} (h : n < most) : n < sizeLine := by
  rw [sizeLine_eq]; unfold most at h; omega
def rStr : R2 := fun x y H Q => ∃ i j, x = .str i ∧ y = .str j ∧ i.length + j.length ≤ sizeLine ∧ Q (.str (i ++ j)) H
/-- all that + and * do -/
def rBin (K : PySem.W.Frag) (o : Bop) : R2 := fun x y H Q => rInt o x y H Q ∨ (o = .add ∧ (rStr x y H Q ∨ rCatA K x y H Q ∨ rCat x y H Q)) ∨ (o = .mul ∧ (rRep x y H Q ∨ rRepT K x y H Q))
theorem op_bin {op : Operator} {o : Bop} (h : opOf op = some o) : OpR X (binaryOp op) (rBin X.K o) := by
  intro pins s σ H x y v u Q I rx ry q
  rcases q with q | ⟨e, q⟩ | ⟨e, q⟩
  · exact op_int h pins s σ H x y v u Q I rx ry q
  · subst e
    have e : op = .Add := by cases op <;> simp [opOf] at h ⊢
    subst e
    rcases q with q | q | q
    · exact op_add_str pins s σ H x y v u Q I rx ry q
    · exact op_catA pins s σ H x y v u Q I rx ry q
    · exact op_cat pins s σ H x y v u Q I rx ry q
  · subst e
    have e : op = .Mult := by cases op <;> simp [opOf] at h ⊢
    subst e
    rcases q with q | q
    · exact op_rep pins s σ H x y v u Q I rx ry q
    · exact op_repT pins s σ H x y v u Q I rx ry q
end
section
variable {X : Cx} {G : GI} {W : WX} {wd : Wd} {B ι ι' : List Addr} {H H' : Hp} {μ : Mem} {v : MV} {w : V}
theorem RV.tup_inv {xs : List MV} (r : RV G B ι H (.tup xs) w) : ∃ a vs, w = .ref a ∧ SqT G.K H a vs ∧ RVs G B ι H xs vs := by
  cases r with
  | tup h r => exact ⟨_, _, rfl, h, r⟩
theorem RV.int_inv {i : Int} (r : RV G B ι H (.int i) w) : w = .int i := by cases r; rfl
theorem RV.str_inv {i : Str} (r : RV G B ι H (.str i) w) : w = .str i := by cases r; rfl
theorem RV.bl_inv {i : Bool} (r : RV G B ι H (.bl i) w) : w = .bl i := by cases r; rfl
theorem RV.non_inv (r : RV G B ι H .non w) : w = .non := by cases r; rfl
/-- a list as it stands -/
theorem lsOf_rv {xs : List MV} (hr : HR G B ι H μ) (h : lsOf μ v = some xs) (r : RV G B ι H v w) : ∃ a vs, w = .ref a ∧ H a = some (.lst vs) ∧ RVs G B ι H xs vs := by
  cases v with
  | lv ys =>
    simp only [lsOf] at h
    cases h
    cases r with
    | lv h nb ni r => exact ⟨_, _, rfl, h, r⟩
  | loc k =>
    simp only [lsOf] at h
    split at h
    · rename_i zs e
      cases h
      obtain ⟨a, ha, vs, q1, q2⟩ := hr.get e
      cases r with
      | loc h =>
        rw [ha] at h
        cases h
        exact ⟨_, _, rfl, q1, q2⟩
    · cases h
  | _ => simp [lsOf] at h
/-- a list or a tuple -/
theorem sqOf_rv {xs : List MV} (hr : HR G B ι H μ) (h : sqOf μ v = some xs) (r : RV G B ι H v w) : ∃ a vs, w = .ref a ∧ (SqL G.K H a vs ∨ SqT G.K H a vs) ∧ RVs G B ι H xs vs ∧ ((∃ ys, v = .tup ys) → SqT G.K H a vs) ∧ ((∀ ys, v ≠ .tup ys) → SqL G.K H a vs) := by
  cases v with
  | lv ys =>
    obtain ⟨a, vs, e, h1, h2⟩ := lsOf_rv (v := .lv ys) hr (by simpa [sqOf, lsOf] using h) r
    exact ⟨a, vs, e, .inl (SqL.of h1), h2, (fun ⟨_, z⟩ => by cases z), fun _ => SqL.of h1⟩
  | tup ys =>
    simp only [sqOf] at h
    cases h
    obtain ⟨a, vs, e, h1, h2⟩ := r.tup_inv
    exact ⟨a, vs, e, .inr h1, h2, (fun _ => h1), fun z => absurd rfl (z _)⟩
  | fl ys =>
    simp only [sqOf] at h
    cases h
    cases r with
    | flH h ni r =>
      have q : SqL G.K H _ _ := .inl (.inr ⟨_, h⟩)
      exact ⟨_, _, rfl, .inl q, r, (fun ⟨_, z⟩ => by cases z), fun _ => q⟩
    | flK h r =>
      obtain ⟨h1, h2, h3, h4, h5, h6⟩ := h
      have q : SqL G.K H _ _ := .inr ⟨_, _, _, h1, h2, h3, h4, h5, h6⟩
      exact ⟨_, _, rfl, .inl q, r, (fun ⟨_, z⟩ => by cases z), fun _ => q⟩
  | loc k =>
    obtain ⟨a, vs, e, h1, h2⟩ := lsOf_rv (v := .loc k) hr (by simpa [sqOf, lsOf] using h) r
    exact ⟨a, vs, e, .inl (SqL.of h1), h2, (fun ⟨_, z⟩ => by cases z), fun _ => SqL.of h1⟩
  | _ => simp [sqOf] at h
/-- a new tuple, told by what it holds -/
theorem RV.newTup {xs : List MV} {vs : List V} {p : Addr} (hp : H p = none) (r : RVs G B ι H xs vs) : RV G B ι (upd H p (.tup vs)) (.tup xs) (.ref p) := .tup (SqT.of upd_same) (r.mono (Ext.push hp))
theorem HR.nw (hr : HR G B ι H μ) {p : Addr} (hp : Nw H p) : p ∉ B := fun h => by
  obtain ⟨⟨o, q, n⟩, _⟩ := hr.bu p h
  obtain ⟨ps, z⟩ := hp o q
  exact n.nt ps z
theorem HR.no (hr : HR G B ι H μ) {p : Addr} (hp : H p = none) : p ∉ B := hr.nw (Nw.of hp)
/-- a new settled list -/
theorem RV.newLst {xs : List MV} {vs : List V} {p : Addr} (hr : HR G B ι H μ) (hp : H p = none) (r : RVs G B ι H xs vs) : RV G B ι (upd H p (.lst vs)) (.lv xs) (.ref p) := .lv upd_same (hr.no hp) (hr.ni hp) (r.mono (Ext.push hp))
end
end MI
end
section
set_option Elab.async false
set_option linter.all false
set_option maxHeartbeats 4000000
/-! MI: expressions. -/
namespace MI
open PySem PySem.Spec PyProof.Rows L2
section
variable {X : Cx} {G : GI} {W : WX} {wd : Wd}
theorem evBin_ok {B ι : List Addr} {H : Hp} {μ : Mem} {o : Bop} {x y z : MV} {v w : V} {Q : VK} (hr : HR G B ι H μ) (rx : RV G B ι H x v) (ry : RV G B ι H y w) (h : evBin μ o x y = some z)
    (q : ∀ (u : V) (H' : Hp), (u = u) → Ext G.K ι H ι H' → HR G B ι H' μ → RV G B ι H' z u → New G B H ι H' μ true z u → Q u H') : rBin G.K o v w H Q := by
  have keep : ∀ {u : V}, RV G B ι H z u → (∀ xs, z ≠ .lv xs) → Q u H := fun r n => q _ _ rfl Ext.refl hr r (fun _ xs e => absurd e (n xs))
  have newT : ∀ {xs : List MV} {vs : List V}, z = .tup xs → RVs G B ι H xs vs → ∀ p, H p = none → Q (.ref p) (upd H p (.tup vs)) := fun e r p hp => by
    subst e
    exact q _ _ rfl (Ext.push hp) (hr.pushO hp) (RV.newTup hp r) (fun _ xs e => by cases e)
  have newL : ∀ {xs : List MV} {vs : List V}, z = .lv xs → RVs G B ι H xs vs → ∀ p, H p = none → Q (.ref p) (upd H p (.lst vs)) := fun e r p hp => by
    subst e
    exact q _ _ rfl (Ext.push hp) (hr.pushO hp) (RV.newLst hr hp r) (New.lst hr hp r)
  unfold evBin at h
  split at h
  · obtain ⟨i, rfl⟩ := bopI_int h
    rw [rx.int_inv, ry.int_inv]
    exact .inl ⟨_, _, _, rfl, rfl, h, keep (.int _) (fun _ e => by cases e)⟩
  · split at h
    · rename_i hc
      cases h
      obtain ⟨rfl, hl⟩ := hc
      rw [rx.str_inv, ry.str_inv]
      exact .inr (.inl ⟨rfl, .inl ⟨_, _, rfl, rfl, most_le hl, keep (.str _) (fun _ e => by cases e)⟩⟩)
    · cases h
  · split at h
    · rename_i hc
      cases h
      obtain ⟨rfl, hl⟩ := hc
      obtain ⟨a, vs, rfl, h1, r1⟩ := rx.tup_inv
      obtain ⟨b, ws, rfl, h2, r2⟩ := ry.tup_inv
      refine .inr (.inl ⟨rfl, .inr (.inl ⟨a, b, vs, ws, rfl, rfl, h1, h2, by rw [← r1.length, ← r2.length]; exact most_le hl, fun e => ?_, fun e e2 => ?_, fun e e2 p hp => newT rfl (r1.append r2) p hp⟩)⟩)
      · subst e
        cases r1
        exact keep (.tup h2 r2) (fun _ e => by cases e)
      · subst e2
        cases r2
        exact keep (.tup h1 (by rw [List.append_nil]; exact r1)) (fun _ e => by cases e)
    · cases h
  · split at h
    · rename_i hc
      cases h
      obtain ⟨rfl, h2, h3, h4, h5⟩ := hc
      obtain ⟨a, vs, rfl, h1, r1⟩ := rx.tup_inv
      rw [ry.int_inv]
      refine .inr (.inr ⟨rfl, .inr ⟨a, _, vs, rfl, rfl, h1, fun e => ?_, h2, h3, by rw [← r1.length]; exact h5, fun p hp => newT rfl (r1.rep _) p hp⟩⟩)
      subst e
      cases r1
      exact h4 rfl
    · cases h
  · cases e : lsOf μ x with
    | none => rw [e] at h; cases h
    | some xs =>
      rw [e] at h
      simp only [Option.bind_some] at h
      split at h
      · rename_i hc
        cases h
        obtain ⟨rfl, h2, h3, h4⟩ := hc
        obtain ⟨a, vs, rfl, h1, r1⟩ := lsOf_rv hr e rx
        rw [ry.int_inv]
        exact .inr (.inr ⟨rfl, .inl ⟨a, _, vs, rfl, rfl, h1, by omega, by omega, by rw [← r1.length]; exact most_le h4, fun p hp => newL rfl (r1.rep _) p hp⟩⟩)
      · cases h
  · cases e : lsOf μ x with
    | none => rw [e] at h; cases h
    | some xs =>
      rw [e] at h
      simp only [Option.bind_some] at h
      cases e2 : lsOf μ y with
      | none => rw [e2] at h; cases h
      | some ys =>
        rw [e2] at h
        simp only [Option.bind_some] at h
        split at h
        · rename_i hc
          cases h
          obtain ⟨rfl, hl⟩ := hc
          obtain ⟨a, vs, rfl, h1, r1⟩ := lsOf_rv hr e rx
          obtain ⟨b, ws, rfl, h2, r2⟩ := lsOf_rv hr e2 ry
          exact .inr (.inl ⟨rfl, .inr (.inr ⟨a, b, vs, ws, rfl, rfl, h1, h2, by rw [← r1.length, ← r2.length]; exact most_le hl, fun p hp => newL rfl (r1.append r2) p hp⟩)⟩)
        · cases h
theorem s_bin {op : Operator} {o : Bop} {a b : Expr} {a' b' : E} {pos : Pos} (hK : X.K = G.K) (ho : opOf op = some o) (ha : PE X a (tE G W wd a')) (hb : PE X b (tE G W wd b')) : PE X (.BinOp a op b pos) (tE G W wd (.bin o a' b')) :=
  peW (pe_op (op_bin ho) ha hb) fun σ H Q ⟨B, ι, μ, ρ, er, hr, h⟩ => by
    simp only [ev] at h
    refine tOp_of er hr (h.bnd.mono (fun x μ1 q => q.bnd) fun _ _ q => q) fun x y μ2 v w H2 ι2 g e2 hr2 rx ry => ?_
    obtain ⟨z, hz, g⟩ := g.ok
    rw [hK]
    exact evBin_ok hr2 rx ry hz fun u H' _ e' hr' rz n => g u H' ι2 (e2.trans e') hr' rz (n.ext e2)
theorem s_neg {a : Expr} {a' : E} {pos : Pos} (ha : PE X a (tE G W wd a')) : PE X (.UnaryOp .USub a pos) (tE G W wd (.neg a')) :=
  peW (pe_un un_neg ha) fun σ H Q ⟨B, ι, μ, ρ, er, hr, h⟩ => by
    simp only [ev] at h
    refine tE_then er hr h.bnd fun x μ1 v H1 ι1 g e1 hr1 rx _ => ?_
    obtain ⟨z, hz, g⟩ := g.ok
    cases x <;> simp only [intO, Option.map_some, Option.map_none, reduceCtorEq, Option.some.injEq] at hz
    subst hz
    rw [rx.int_inv]
    exact ⟨_, rfl, g _ H1 ι1 e1 hr1 (.int _) (fun z => by cases z)⟩
/-! ### truths -/
theorem blO_inv {x : MV} {b : Bool} (h : blO x = some b) : x = .bl b := by
  cases x <;> simp [blO] at h
  rw [h]
theorem s_nt {a : Expr} {a' : E} {pos : Pos} (ha : PE X a (tE G W wd a')) : PE X (.UnaryOp .Not a pos) (tE G W wd (.nt a')) :=
  peW (pe_not ha) fun σ H Q ⟨B, ι, μ, ρ, er, hr, h⟩ => by
    simp only [ev] at h
    refine tE_then er hr h.bnd fun x μ1 v H1 ι1 g e1 hr1 rx _ => ?_
    obtain ⟨z, hz, g⟩ := g.ok
    cases hx : blO x with
    | none => rw [hx] at hz; cases hz
    | some b =>
      rw [hx] at hz
      cases hz
      rw [blO_inv hx] at rx
      exact ⟨b, rx.bl_inv, g _ H1 ι1 e1 hr1 (.bl _) (fun z => by cases z)⟩
theorem s_ife {c a b : Expr} {c' a' b' : E} {pos : Pos} {tc : TT} (hc : PT X c tc) (hct : ∀ σ H Q, (tE G W wd c' σ H fun x H1 => ∃ k, x = .bl k ∧ Q k H1) → tc σ H Q) (ha : PE X a (tE G W wd a')) (hb : PE X b (tE G W wd b')) : PE X (.IfExp c a b pos) (tE G W wd (.ife c' a' b')) :=
  peW (pe_ifExp hc ha hb) fun σ H Q ⟨B, ι, μ, ρ, er, hr, h⟩ => by
    simp only [ev] at h
    refine hct σ H _ (tE_then er hr h.bnd fun x μ1 v H1 ι1 g e1 hr1 rx _ => ?_)
    split at g
    · refine ⟨true, rx.bl_inv, ?_⟩
      rw [if_pos rfl]
      exact tE_then (er.mono e1) hr1 (g.mono (fun _ _ q => q) fun _ _ q => q.ext e1) fun y μ2 w H2 ι2 h2 e2 hr2 r2 _ => h2 w H2 ι2 (e1.trans e2) hr2 r2 (fun z => by cases z)
    · refine ⟨false, rx.bl_inv, ?_⟩
      rw [if_neg Bool.false_ne_true]
      exact tE_then (er.mono e1) hr1 (g.mono (fun _ _ q => q) fun _ _ q => q.ext e1) fun y μ2 w H2 ι2 h2 e2 hr2 r2 _ => h2 w H2 ι2 (e1.trans e2) hr2 r2 (fun z => by cases z)
    · exact g.elim
theorem s_an {a b : Expr} {rest : List Expr} {a' b' : E} {pos : Pos} (ha : PE X a (tE G W wd a')) (hb : PE X (.BoolOp .And (b :: rest) pos) (tE G W wd b')) : PE X (.BoolOp .And (a :: b :: rest) pos) (tE G W wd (.an a' b')) :=
  peW (pe_and ha hb) fun σ H Q ⟨B, ι, μ, ρ, er, hr, h⟩ => by
    simp only [ev] at h
    refine tE_then er hr h.bnd fun x μ1 v H1 ι1 g e1 hr1 rx _ => ?_
    split at g
    · refine ⟨true, rx.bl_inv, ?_⟩
      rw [if_pos rfl]
      exact tE_then (er.mono e1) hr1 (g.mono (fun _ _ q => q) fun _ _ q => q.ext e1) fun y μ2 w H2 ι2 h2 e2 hr2 r2 _ => h2 w H2 ι2 (e1.trans e2) hr2 r2 (fun z => by cases z)
    · refine ⟨false, rx.bl_inv, ?_⟩
      rw [if_neg Bool.false_ne_true]
      exact g _ H1 ι1 e1 hr1 (.bl _) (fun z => by cases z)
    · exact g.elim
theorem s_orr {a b : Expr} {rest : List Expr} {a' b' : E} {pos : Pos} (ha : PE X a (tE G W wd a')) (hb : PE X (.BoolOp .Or (b :: rest) pos) (tE G W wd b')) : PE X (.BoolOp .Or (a :: b :: rest) pos) (tE G W wd (.orr a' b')) :=
  peW (pe_or ha hb) fun σ H Q ⟨B, ι, μ, ρ, er, hr, h⟩ => by
    simp only [ev] at h
    refine tE_then er hr h.bnd fun x μ1 v H1 ι1 g e1 hr1 rx _ => ?_
    split at g
    · refine ⟨true, rx.bl_inv, ?_⟩
      rw [if_pos rfl]
      exact g _ H1 ι1 e1 hr1 (.bl _) (fun z => by cases z)
    · refine ⟨false, rx.bl_inv, ?_⟩
      rw [if_neg Bool.false_ne_true]
      exact tE_then (er.mono e1) hr1 (g.mono (fun _ _ q => q) fun _ _ q => q.ext e1) fun y μ2 w H2 ι2 h2 e2 hr2 r2 _ => h2 w H2 ι2 (e1.trans e2) hr2 r2 (fun z => by cases z)
    · exact g.elim
/-- a last member of and, or -/
theorem s_one {op : BoolOp} {a : Expr} {a' : E} {pos : Pos} (ha : PE X a (tE G W wd a')) : PE X (.BoolOp op [a] pos) (tE G W wd a') := pe_one ha
/-! ### the same as tests -/
/-- an expression's truth -/
def tT (G : GI) (W : WX) (wd : Wd) (e : E) : TT := fun σ H Q => tE G W wd e σ H fun x H1 => ∃ k, x = .bl k ∧ Q k H1
theorem t_val {e : Expr} {e' : E} (h : PE X e (tE G W wd e')) (he : ∀ whole, isTrue e X.env whole = (do let v ← whole; standAt e.pos; holding [v] (truthy v))) : PT X e (tT G W wd e') := ptW (pt_val h he) fun _ _ _ q => q
theorem t_nt {a : Expr} {a' : E} {pos : Pos} (ha : PT X a (tT G W wd a')) : PT X (.UnaryOp .Not a pos) (tT G W wd (.nt a')) :=
  ptW (pt_not ha) fun σ H Q ⟨B, ι, μ, ρ, er, hr, h⟩ => by
    simp only [ev] at h
    refine tE_then er hr h.bnd fun x μ1 v H1 ι1 g e1 hr1 rx _ => ?_
    obtain ⟨z, hz, g⟩ := g.ok
    cases hx : blO x with
    | none => rw [hx] at hz; cases hz
    | some b =>
      rw [hx] at hz
      cases hz
      rw [blO_inv hx] at rx
      obtain ⟨k, e, q⟩ := g (.bl (!b)) H1 ι1 e1 hr1 (.bl _) (fun z => by cases z)
      cases e
      exact ⟨b, rx.bl_inv, q⟩
theorem t_an1 {a : Expr} {a' : E} {pos : Pos} (ha : PT X a (tT G W wd a')) : PW X (.BoolOp .And [a] pos) (tT G W wd a') := pw_and1 ha
theorem t_orr1 {a : Expr} {a' : E} {pos : Pos} (ha : PT X a (tT G W wd a')) : PW X (.BoolOp .Or [a] pos) (tT G W wd a') := pw_or1 ha
theorem pwW {e : Expr} {t t' : TT} (h : PW X e t) (k : ∀ σ H Q, t' σ H Q → t σ H Q) : PW X e t' := ⟨fun w pins s σ H Q I q => h.run w pins s σ H Q I (k σ H Q q)⟩
theorem t_an {a b : Expr} {rest : List Expr} {a' b' : E} {pos : Pos} (ha : PT X a (tT G W wd a')) (hb : PW X (.BoolOp .And (b :: rest) pos) (tT G W wd b')) : PW X (.BoolOp .And (a :: b :: rest) pos) (tT G W wd (.an a' b')) :=
  pwW (pw_and ha hb) fun σ H Q ⟨B, ι, μ, ρ, er, hr, h⟩ => by
    simp only [ev] at h
    refine tE_then er hr h.bnd fun x μ1 v H1 ι1 g e1 hr1 rx _ => ?_
    split at g
    · refine ⟨true, rx.bl_inv, ?_⟩
      dsimp only
      rw [if_pos rfl]
      exact tE_then (er.mono e1) hr1 (g.mono (fun _ _ q => q) fun _ _ q => q.ext e1) fun y μ2 w H2 ι2 h2 e2 hr2 r2 _ => h2 w H2 ι2 (e1.trans e2) hr2 r2 (fun z => by cases z)
    · refine ⟨false, rx.bl_inv, ?_⟩
      dsimp only
      rw [if_neg Bool.false_ne_true]
      obtain ⟨k, e, q⟩ := g (.bl false) H1 ι1 e1 hr1 (.bl _) (fun z => by cases z)
      cases e
      exact q
    · exact g.elim
theorem t_orr {a b : Expr} {rest : List Expr} {a' b' : E} {pos : Pos} (ha : PT X a (tT G W wd a')) (hb : PW X (.BoolOp .Or (b :: rest) pos) (tT G W wd b')) : PW X (.BoolOp .Or (a :: b :: rest) pos) (tT G W wd (.orr a' b')) :=
  pwW (pw_or ha hb) fun σ H Q ⟨B, ι, μ, ρ, er, hr, h⟩ => by
    simp only [ev] at h
    refine tE_then er hr h.bnd fun x μ1 v H1 ι1 g e1 hr1 rx _ => ?_
    split at g
    · refine ⟨true, rx.bl_inv, ?_⟩
      dsimp only
      rw [if_pos rfl]
      obtain ⟨k, e, q⟩ := g (.bl true) H1 ι1 e1 hr1 (.bl _) (fun z => by cases z)
      cases e
      exact q
    · refine ⟨false, rx.bl_inv, ?_⟩
      dsimp only
      rw [if_neg Bool.false_ne_true]
      exact tE_then (er.mono e1) hr1 (g.mono (fun _ _ q => q) fun _ _ q => q.ext e1) fun y μ2 w H2 ι2 h2 e2 hr2 r2 _ => h2 w H2 ι2 (e1.trans e2) hr2 r2 (fun z => by cases z)
    · exact g.elim
end
end MI
end
section
set_option Elab.async false
set_option linter.all false
set_option maxHeartbeats 4000000
/-! MI: comparisons. -/
namespace MI
open PySem PySem.Spec PyProof.Rows L2
open PySem.W (alike dataLt)
section
variable {G : GI} {B ι : List Addr} {H : Hp} {μ : Mem}
theorem rds_cons {look : Nat → Option MV} {x : MV} {xs ys : List MV} (h : MV.rds look (x :: xs) = some ys) : ∃ y zs, MV.rd look x = some y ∧ MV.rds look xs = some zs ∧ ys = y :: zs := by
  simp only [MV.rds] at h
  cases e : MV.rd look x with
  | none => rw [e] at h; cases h
  | some y =>
    rw [e] at h
    simp only [Option.bind_some] at h
    cases e2 : MV.rds look xs with
    | none => rw [e2] at h; cases h
    | some zs => rw [e2] at h; cases h; exact ⟨y, zs, rfl, rfl, rfl⟩
theorem toDs_cons {x : MV} {xs : List MV} {ds : List PyData} (h : MV.toDs (x :: xs) = some ds) : ∃ d es, MV.toD x = some d ∧ MV.toDs xs = some es ∧ ds = d :: es := by
  simp only [MV.toDs] at h
  cases e : MV.toD x with
  | none => rw [e] at h; cases h
  | some y =>
    rw [e] at h
    simp only [Option.bind_some] at h
    cases e2 : MV.toDs xs with
    | none => rw [e2] at h; cases h
    | some zs => rw [e2] at h; cases h; exact ⟨y, zs, rfl, rfl, rfl⟩
/-- a value read with its lists, as data of the heap -/
def RdOk (G : GI) (B ι : List Addr) (H : Hp) (look : Nat → Option MV) : Prop := ∀ n a y d, ι[n]? = some a → look n = some y → MV.toD y = some d → Dp G.K H (.ref a) d
mutual
theorem rd_dp {look : Nat → Option MV} (L : RdOk G B ι H look) : ∀ {x y : MV} {w : V} {d : PyData}, MV.rd look x = some y → MV.toD y = some d → RV G B ι H x w → Dp G.K H w d
  | .non, _, _, _, h, t, r => by simp only [MV.rd] at h; cases h; simp only [MV.toD] at t; cases t; cases r; exact .non
  | .bl b, _, _, _, h, t, r => by simp only [MV.rd] at h; cases h; simp only [MV.toD] at t; cases t; cases r; exact .bl b
  | .int i, _, _, _, h, t, r => by simp only [MV.rd] at h; cases h; simp only [MV.toD] at t; cases t; cases r; exact .int i
  | .str s, _, _, _, h, t, r => by simp only [MV.rd] at h; cases h; simp only [MV.toD] at t; cases t; cases r; exact .str s
  | .tup xs, y, _, d, h, t, r => by
    simp only [MV.rd] at h
    cases e : MV.rds look xs with
    | none => rw [e] at h; cases h
    | some ys =>
      rw [e] at h
      cases h
      simp only [MV.toD] at t
      cases e2 : MV.toDs ys with
      | none => rw [e2] at t; cases t
      | some ds =>
        rw [e2] at t
        cases t
        cases r with
        | tup h r => exact .tup h (rds_dp L e e2 r)
  | .lv xs, y, _, d, h, t, r => by
    simp only [MV.rd] at h
    cases e : MV.rds look xs with
    | none => rw [e] at h; cases h
    | some ys =>
      rw [e] at h
      cases h
      simp only [MV.toD] at t
      cases e2 : MV.toDs ys with
      | none => rw [e2] at t; cases t
      | some ds =>
        rw [e2] at t
        cases t
        cases r with
        | lv h _ _ r => exact .lst (SqL.of h) (rds_dp L e e2 r)
  | .fl xs, y, _, d, h, t, r => by
    simp only [MV.rd] at h
    cases e : MV.rds look xs with
    | none => rw [e] at h; cases h
    | some ys =>
      rw [e] at h
      cases h
      simp only [MV.toD] at t
      cases e2 : MV.toDs ys with
      | none => rw [e2] at t; cases t
      | some ds =>
        rw [e2] at t
        cases t
        cases r with
        | flH h _ r => exact .lst (.inl (.inr ⟨_, h⟩)) (rds_dp L e e2 r)
        | flK h r =>
          obtain ⟨h1, h2, h3, h4, h5, h6⟩ := h
          exact .lst (.inr ⟨_, _, _, h1, h2, h3, h4, h5, h6⟩) (rds_dp L e e2 r)
  | .loc n, y, _, d, h, t, r => by
    simp only [MV.rd] at h
    cases r with
    | loc hn => exact L n _ y d hn h t
  | .exo c x, y, _, d, h, t, r => by
    simp only [MV.rd] at h
    obtain ⟨y', e, rfl⟩ := Option.map_eq_some_iff.mp h
    simp [MV.toD] at t
  | .thk n, y, _, d, h, t, r => by simp only [MV.rd] at h; cases h; simp [MV.toD] at t
theorem rds_dp {look : Nat → Option MV} (L : RdOk G B ι H look) : ∀ {xs ys : List MV} {ws : List V} {ds : List PyData}, MV.rds look xs = some ys → MV.toDs ys = some ds → RVs G B ι H xs ws → DpAll G.K H ws ds
  | [], _, _, _, h, t, r => by simp only [MV.rds] at h; cases h; simp only [MV.toDs] at t; cases t; cases r; exact .nil
  | x :: xs, _, _, _, h, t, r => by
    obtain ⟨y, zs, h1, h2, rfl⟩ := rds_cons h
    obtain ⟨d, es, t1, t2, rfl⟩ := toDs_cons t
    cases r with
    | cons r1 r2 => exact .cons (rd_dp L h1 t1 r1) (rds_dp L h2 t2 r2)
end
theorem look_ok (hr : HR G B ι H μ) : ∀ k, RdOk G B ι H (look 0 μ k)
  | 0 => fun n a y d hn h t => by simp [look] at h
  | k + 1 => fun n a y d hn h t => by
    simp only [look, Nat.not_lt_zero, if_false] at h
    split at h
    · rename_i xs e
      cases e1 : MV.rds (look 0 μ k) xs with
      | none => rw [e1] at h; cases h
      | some ys =>
        rw [e1] at h
        cases h
        simp only [MV.toD] at t
        cases e2 : MV.toDs ys with
        | none => rw [e2] at t; cases t
        | some ds =>
          rw [e2] at t
          cases t
          have hl := (List.getElem?_eq_some_iff.mp e).1
          obtain ⟨b, hb, vs, q1, q2⟩ := hr.get e
          rw [hn] at hb
          cases hb
          exact .lst (SqL.of q1) (rds_dp (look_ok hr k) e1 e2 q2)
    · cases h
theorem dat_dp (hr : HR G B ι H μ) {v : MV} {w : V} {d : PyData} (h : dat μ v = some d) (r : RV G B ι H v w) : Dp G.K H w d ∧ SeqAt.shaped d = true := by
  unfold dat at h
  cases e : frz 0 μ v with
  | none => rw [e] at h; cases h
  | some y =>
    rw [e] at h
    simp only [Option.bind_some] at h
    cases e2 : MV.toD y with
    | none => rw [e2] at h; cases h
    | some d' =>
      rw [e2] at h
      simp only [Option.bind_some] at h
      split at h
      · rename_i hs
        cases h
        exact ⟨rd_dp (look_ok hr 6) e e2 r, hs⟩
      · cases h
end
/-! ### order -/
section
variable {X : Cx}
theorem noNone_ne {d : PyData} (h : noNone d = true) : d ≠ .none := fun e => by subst e; simp [noNone] at h
theorem ne_of_noNone {d : PyData} (h : d ≠ .none) : noNone d = true := by
  cases d with
  | none => exact absurd rfl h
  | _ => rfl
/-- two alike data -/
def rLtD (K : PySem.W.Frag) (g : PyData → PyData → Bool) : R2 := fun x y H Q => ∃ d e, Dp K H x d ∧ Dp K H y e ∧ alike d e = true ∧ d ≠ .none ∧ min d.depth e.depth ≤ 60 ∧ Q (.bl (g d e)) H
theorem op_ord {op : CmpOp} {g : PyData → PyData → Bool} (hu : X.A.units + 64 < cLine)
    (rule : ∀ {s : Shared} {a b : Value} {da db : PyData} {as bs : List Addr} {Q E : Value → Shared → Prop}, Reads s.heap a da as → Reads s.heap b db bs → alike da db = true → da ≠ .none → X.A.units + min da.depth db.depth < cLine → Q (.bool (g da db)) s → wpAny (model X.prog X.w) X.A (compareOp op a b) Q E s) :
    OpR X (compareOp op) (rLtD X.K g) := by
  intro pins s σ H x y v u Q I rx ry ⟨d, e, h1, h2, ha, hn, hd, q⟩
  obtain ⟨as, r1⟩ := Dp.reads I d x v h1 rx
  obtain ⟨bs, r2⟩ := Dp.reads I e y u h2 ry
  exact rule r1 r2 ha hn (by omega) ⟨.bl _, H, I, rfl, q⟩
/-- two ints or two alike data -/
def rOrd (K : PySem.W.Frag) (f : Int → Int → Bool) (g : PyData → PyData → Bool) : R2 := fun x y H Q => (∃ i j, x = .int i ∧ y = .int j ∧ Q (.bl (f i j)) H) ∨ rLtD K g x y H Q
theorem op_ltA (hu : X.A.units + 64 < cLine) : OpR X (compareOp .Lt) (rOrd X.K (fun i j => decide (i < j)) dataLt) := OpR.or op_lt (op_ord hu PySem.W.lt_data)
theorem op_gtA (hu : X.A.units + 64 < cLine) : OpR X (compareOp .Gt) (rOrd X.K (fun i j => decide (j < i)) fun d e => dataLt e d) := OpR.or op_gt (op_ord hu PySem.W.gt_data)
theorem op_leA (hu : X.A.units + 64 < cLine) : OpR X (compareOp .LtE) (rOrd X.K (fun i j => decide (i ≤ j)) fun d e => !dataLt e d) := OpR.or op_le (op_ord hu PySem.W.le_data)
theorem op_geA (hu : X.A.units + 64 < cLine) : OpR X (compareOp .GtE) (rOrd X.K (fun i j => decide (j ≤ i)) fun d e => !dataLt d e) := OpR.or op_ge (op_ord hu PySem.W.ge_data)
theorem notlt (i j : Int) : (!decide (j < i)) = decide (i ≤ j) := by
  by_cases h : j < i <;> simp [h] <;> omega
variable {G : GI} {B ι : List Addr} {H : Hp} {μ : Mem} {x y : MV} {v w : V} {Q : VK} {b : Bool}
theorem ltD_cases (h : ltD μ x y = some b) : (∃ i j, x = .int i ∧ y = .int j ∧ b = decide (i < j)) ∨ ∃ d e, dat μ x = some d ∧ dat μ y = some e ∧ alike d e = true ∧ d.depth ≤ 60 ∧ noNone d = true ∧ b = dataLt d e := by
  unfold ltD at h
  split at h
  · cases h; exact .inl ⟨_, _, rfl, rfl, rfl⟩
  · cases e1 : dat μ x with
    | none => rw [e1] at h; cases h
    | some d =>
      rw [e1] at h
      cases e2 : dat μ y with
      | none => rw [e2] at h; cases h
      | some e =>
        rw [e2] at h
        simp only [Option.bind_some] at h
        split at h
        · rename_i hc
          cases h
          exact .inr ⟨d, e, rfl, rfl, hc.1, hc.2.1, hc.2.2, rfl⟩
        · cases h
theorem ord_fwd {f : Int → Int → Bool} {g : PyData → PyData → Bool} {k : Bool → Bool} (hr : HR G B ι H μ) (rx : RV G B ι H x v) (ry : RV G B ι H y w) (h : ltD μ x y = some b) (hf : ∀ i j, f i j = k (decide (i < j))) (hg : ∀ d e, g d e = k (dataLt d e)) (q : Q (.bl (k b)) H) : rOrd G.K f g v w H Q := by
  rcases ltD_cases h with ⟨i, j, rfl, rfl, rfl⟩ | ⟨d, e, h1, h2, ha, hd, hn, rfl⟩
  · rw [rx.int_inv, ry.int_inv]
    exact .inl ⟨i, j, rfl, rfl, by rw [hf]; exact q⟩
  · exact .inr ⟨d, e, (dat_dp hr h1 rx).1, (dat_dp hr h2 ry).1, ha, noNone_ne hn, by omega, by rw [hg]; exact q⟩
theorem ord_bwd {f : Int → Int → Bool} {g : PyData → PyData → Bool} {k : Bool → Bool} (hr : HR G B ι H μ) (rx : RV G B ι H x v) (ry : RV G B ι H y w) (h : ltD μ y x = some b) (hf : ∀ i j, f i j = k (decide (j < i))) (hg : ∀ d e, g d e = k (dataLt e d)) (q : Q (.bl (k b)) H) : rOrd G.K f g v w H Q := by
  rcases ltD_cases h with ⟨i, j, rfl, rfl, rfl⟩ | ⟨d, e, h1, h2, ha, hd, hn, rfl⟩
  · rw [rx.int_inv, ry.int_inv]
    exact .inl ⟨j, i, rfl, rfl, by rw [hf]; exact q⟩
  · rw [PySem.W.alike_comm] at ha
    exact .inr ⟨e, d, (dat_dp hr h2 rx).1, (dat_dp hr h1 ry).1, ha, PySem.W.ne_none_both ((PySem.W.alike_comm _ _).trans ha) (noNone_ne hn), by omega, by rw [hg]; exact q⟩
/-! ### in -/
theorem flat_rv (h : flat x = true) (r : RV G B ι H x v) : flatV v = true := by
  cases r <;> simp_all [flat, flatV]
theorem eqF_rv {x y : MV} {v w : V} (rx : RV G B ι H x v) (ry : RV G B ι H y w) (hx : flat x = true) (hy : flat y = true) : eqV v w = eqF x y := by
  cases rx <;> simp only [flat, Bool.false_eq_true] at hx <;> cases ry <;> simp only [flat, Bool.false_eq_true] at hy <;> rfl
theorem flats_rv : ∀ {xs : List MV} {vs : List V}, RVs G B ι H xs vs → xs.all flat = true → vs.all flatV = true
  | _, _, .nil, _ => rfl
  | _, _, .cons h r, a => by
    simp only [List.all_cons, Bool.and_eq_true] at a ⊢
    exact ⟨flat_rv a.1 h, flats_rv r a.2⟩
theorem inV_rv {x : MV} {v : V} (rx : RV G B ι H x v) (hx : flat x = true) : ∀ {xs : List MV} {vs : List V}, RVs G B ι H xs vs → xs.all flat = true → inV v vs = xs.any fun y => eqF y x
  | _, _, .nil, _ => rfl
  | _, _, .cons h r, a => by
    simp only [List.all_cons, Bool.and_eq_true] at a
    have ih := inV_rv rx hx r a.2
    unfold inV at ih ⊢
    rw [List.any_cons, List.any_cons, ih, eqF_rv h rx a.1 hx]
theorem keyOf_rv {k : Key} (h : keyOf x = some k) (r : RV G B ι H x v) : v = kV k := by
  cases x <;> simp only [keyOf, reduceCtorEq, Option.some.injEq] at h
  · subst h; exact r.int_inv
  · subst h; exact r.str_inv
theorem getK_rv {k : Key} : ∀ {kvs : List (Key × MV)} {kws : List (Key × V)}, RKs G B ι H kvs kws → (∀ z, getK kvs k = some z → ∃ u, valV kws k = some u ∧ RV G B ι H z u) ∧ (getK kvs k).isSome = (valV kws k).isSome
  | _, _, .nil => ⟨fun z e => by simp [getK] at e, rfl⟩
  | _, _, .cons (k := k') (x := x) (v := u) h r => by
    have ih := getK_rv (k := k) r
    by_cases e : k' = k
    · subst e
      simp only [getK, valV, List.find?_cons, decide_true]
      exact ⟨fun z q => by cases q; exact ⟨u, rfl, h⟩, rfl⟩
    · simp only [getK, valV, List.find?_cons, e, decide_false] at ih ⊢
      exact ih
theorem dcOf_rv {kvs : List (Key × MV)} (hr : HR G B ι H μ) (h : dcOf μ x = some kvs) (r : RV G B ι H x v) : ∃ a kws, v = .ref a ∧ H a = some (.dK kws) ∧ RKs G B ι H kvs kws := by
  cases x with
  | loc k =>
    simp only [dcOf] at h
    split at h
    · rename_i e
      cases h
      obtain ⟨a, ha, kws, q1, q2⟩ := hr.get e
      cases r with
      | loc h =>
        rw [ha] at h
        cases h
        exact ⟨_, _, rfl, q1, q2⟩
    · cases h
  | _ => simp [dcOf] at h
end
end MI
end
section
set_option Elab.async false
set_option linter.all false
set_option maxHeartbeats 4000000
/-! MI: comparisons, items, parts. -/
namespace MI
open PySem PySem.Spec PyProof.Rows L2
open PySem.W (alike dataLt)
theorem Out.eq {α : Type} {r : R α} {good : α → Mem → Prop} {bad : Ex → Mem → Prop} (h : Out r good bad) : Out r (fun v μ => r = some (.ok v, μ) ∧ good v μ) bad := by
  match r, h with
  | some (.ok v, μ), h => exact ⟨rfl, h⟩
  | some (.error x, μ), h => exact h
def copOf : CmpOp → Option Cop
  | .Eq => some .eq
  | .NotEq => some .ne
  | .Lt => some .lt
  | .LtE => some .le
  | .Gt => some .gt
  | .GtE => some .ge
  | .In => some .isin
  | .NotIn => some .notin
  | .Is => some .isn
  | .IsNot => some .notn
section
variable {X : Cx} {G : GI} {W : WX} {wd : Wd}
def rInD (neg : Bool) : R2 := fun y x H Q => ∃ a o, x = .ref a ∧ DGet H a y o ∧ Q (.bl (if neg then !o.isSome else o.isSome)) H
theorem op_inD (hu : X.A.units + 64 < cLine) : OpR X (compareOp .In) (rInD false) := by
  intro pins s σ H x y v u Q I rx ry ⟨a, o, e, g, q⟩
  subst e
  obtain rfl : u = Value.ref a := ry
  exact d_in (by omega) I g rx fun s3 I3 => ⟨.bl o.isSome, H, I3, rfl, q⟩
theorem op_notinD (hu : X.A.units + 64 < cLine) : OpR X (compareOp .NotIn) (rInD true) := by
  intro pins s σ H x y v u Q I rx ry ⟨a, o, e, g, q⟩
  subst e
  obtain rfl : u = Value.ref a := ry
  exact d_notIn (by omega) I g rx fun s3 I3 => ⟨.bl (!o.isSome), H, I3, rfl, q⟩
/-- what a comparison asks -/
def rCmp (K : PySem.W.Frag) : Cop → R2
  | .eq => rEqD K
  | .ne => rNeD K
  | .lt => rOrd K (fun i j => decide (i < j)) dataLt
  | .gt => rOrd K (fun i j => decide (j < i)) fun d e => dataLt e d
  | .le => rOrd K (fun i j => decide (i ≤ j)) fun d e => !dataLt e d
  | .ge => rOrd K (fun i j => decide (j ≤ i)) fun d e => !dataLt d e
  | .isin => fun x y H Q => rIn K false x y H Q ∨ rInD false x y H Q
  | .notin => fun x y H Q => rIn K true x y H Q ∨ rInD true x y H Q
  | .isn => fun x y H Q => y = .non ∧ Q (.bl (decide (x = .non))) H
  | .notn => fun x y H Q => y = .non ∧ Q (.bl (!decide (x = .non))) H
theorem op_cmp {op : CmpOp} {o : Cop} (h : copOf op = some o) (hu : X.A.units + 64 < cLine) : OpR X (compareOp op) (rCmp X.K o) := by
  cases op <;> simp only [copOf, Option.some.injEq] at h <;> subst h
  · exact op_eqD hu
  · exact op_neD hu
  · exact op_ltA hu
  · exact op_leA hu
  · exact op_gtA hu
  · exact op_geA hu
  · exact op_isN
  · exact op_notN
  · exact OpR.or op_in_seq (op_inD hu)
  · exact OpR.or op_notIn_seq (op_notinD hu)
theorem isIn_ok {B ι : List Addr} {H : Hp} {μ : Mem} {x y : MV} {v w : V} {Q : VK} {b : Bool} {neg : Bool} (hr : HR G B ι H μ) (rx : RV G B ι H x v) (ry : RV G B ι H y w) (h : isIn μ x y = some b) (q : Q (.bl (if neg then !b else b)) H) : rIn G.K neg v w H Q ∨ rInD neg v w H Q := by
  unfold isIn at h
  split at h
  · rename_i ys e
    split at h
    · rename_i hc
      cases h
      obtain ⟨a, vs, rfl, hs, r, _⟩ := sqOf_rv hr e ry
      refine .inl ⟨a, vs, rfl, hs, flat_rv hc.1 rx, flats_rv r hc.2, ?_⟩
      rw [inV_rv rx hc.1 r hc.2]
      exact q
    · cases h
  · cases e : dcOf μ y with
    | none => rw [e] at h; cases h
    | some kvs =>
      rw [e] at h
      simp only [Option.bind_some] at h
      cases e2 : keyOf x with
      | none => rw [e2] at h; cases h
      | some k =>
        rw [e2] at h
        cases h
        obtain ⟨a, kws, rfl, h1, r⟩ := dcOf_rv hr e ry
        rw [keyOf_rv e2 rx]
        refine .inr ⟨a, _, rfl, DGet.k h1, ?_⟩
        dsimp only at q
        rw [(getK_rv r).2] at q
        exact q
theorem rv_non {B ι : List Addr} {H : Hp} {x : MV} {v : V} (r : RV G B ι H x v) : decide (v = .non) = decide (x = .non) := by
  cases r <;> simp
theorem evCmp_ok {B ι : List Addr} {H : Hp} {μ : Mem} {o : Cop} {x y : MV} {b : Bool} {v w : V} {Q : VK} (hr : HR G B ι H μ) (rx : RV G B ι H x v) (ry : RV G B ι H y w) (h : evCmp μ o x y = some b) (q : Q (.bl b) H) : rCmp G.K o v w H Q := by
  have two : ∀ {f : PyData → PyData → Bool}, ((dat μ x).bind fun d => (dat μ y).map fun e => f d e) = some b → ∃ d e, dat μ x = some d ∧ dat μ y = some e ∧ f d e = b := fun {f} h => by
    cases e1 : dat μ x with
    | none => rw [e1] at h; cases h
    | some d =>
      rw [e1] at h
      cases e2 : dat μ y with
      | none => rw [e2] at h; cases h
      | some e => rw [e2] at h; exact ⟨d, e, rfl, rfl, Option.some.inj h⟩
  cases o <;> simp only [evCmp] at h
  · obtain ⟨d, e, h1, h2, rfl⟩ := two h
    have p1 := dat_dp hr h1 rx
    have p2 := dat_dp hr h2 ry
    exact ⟨d, e, p1.1, p2.1, p1.2, p2.2, q⟩
  · obtain ⟨d, e, h1, h2, rfl⟩ := two h
    have p1 := dat_dp hr h1 rx
    have p2 := dat_dp hr h2 ry
    exact ⟨d, e, p1.1, p2.1, p1.2, p2.2, q⟩
  · exact ord_fwd (k := id) hr rx ry h (fun _ _ => rfl) (fun _ _ => rfl) q
  · obtain ⟨c, hc, rfl⟩ := Option.map_eq_some_iff.mp h
    exact ord_bwd (k := (!·)) hr rx ry hc (fun i j => (notlt i j).symm) (fun _ _ => rfl) q
  · exact ord_bwd (k := id) hr rx ry h (fun _ _ => rfl) (fun _ _ => rfl) q
  · obtain ⟨c, hc, rfl⟩ := Option.map_eq_some_iff.mp h
    exact ord_fwd (k := (!·)) hr rx ry hc (fun i j => (notlt j i).symm) (fun _ _ => rfl) q
  · exact isIn_ok (neg := false) hr rx ry h q
  · obtain ⟨c, hc, rfl⟩ := Option.map_eq_some_iff.mp h
    exact isIn_ok (neg := true) hr rx ry hc q
  · split at h
    · cases h
      exact ⟨ry.non_inv, by rw [rv_non rx]; exact q⟩
    · cases h
  · split at h
    · cases h
      exact ⟨ry.non_inv, by rw [rv_non rx]; exact q⟩
    · cases h
theorem s_cmp {op : CmpOp} {o : Cop} {a b : Expr} {a' b' : E} {pos : Pos} (hK : X.K = G.K) (hu : X.A.units + 64 < cLine) (ho : copOf op = some o) (hm : behindInMarks op b = false) (ha : PE X a (tE G W wd a')) (hb : PE X b (tE G W wd b')) : PE X (.Compare a [op] [b] pos) (tE G W wd (.cmp o a' b')) :=
  peW (pe_cmpR (op_cmp ho hu) ha hb hm) fun σ H Q ⟨B, ι, μ, ρ, er, hr, h⟩ => by
    simp only [ev] at h
    refine tOp_of er hr (h.bnd.mono (fun x μ1 q => q.bnd) fun _ _ q => q) fun x y μ2 v w H2 ι2 g e2 hr2 rx ry => ?_
    obtain ⟨z, hz, g⟩ := g.ok
    obtain ⟨b, hb, rfl⟩ := Option.map_eq_some_iff.mp hz
    rw [hK]
    exact evCmp_ok hr2 rx ry hb (g _ H2 ι2 e2 hr2 (.bl _) fun z => by cases z)
theorem t_cmp {op : CmpOp} {o : Cop} {a b : Expr} {a' b' : E} {pos : Pos} (hK : X.K = G.K) (hu : X.A.units + 64 < cLine) (ho : copOf op = some o) (hm : behindInMarks op b = false) (ha : PE X a (tE G W wd a')) (hb : PE X b (tE G W wd b')) : PT X (.Compare a [op] [b] pos) (tT G W wd (.cmp o a' b')) :=
  ptW (pt_cmpR (op_cmp ho hu) ha hb hm) fun σ H Q ⟨B, ι, μ, ρ, er, hr, h⟩ => by
    simp only [ev] at h
    refine tOp_of er hr (h.bnd.mono (fun x μ1 q => q.bnd) fun _ _ q => q) fun x y μ2 v w H2 ι2 g e2 hr2 rx ry => ?_
    obtain ⟨z, hz, g⟩ := g.ok
    obtain ⟨b, hb, rfl⟩ := Option.map_eq_some_iff.mp hz
    rw [hK]
    exact evCmp_ok hr2 rx ry hb (g _ H2 ι2 e2 hr2 (.bl _) fun z => by cases z)
/-- a < b < c -/
theorem chn_of {o p : Cop} {a b c : E} {σ : L2.St} {H : Hp} {Q : VK} (h : tE G W wd (.chn o p a b c) σ H Q) : tChain (rCmp G.K o) (rCmp G.K p) (tE G W wd a) (tE G W wd b) (tE G W wd c) σ H Q := by
  obtain ⟨B, ι, μ, ρ, er, hr, h⟩ := h
  simp only [ev] at h
  refine tE_then er hr h.bnd fun x μ1 v H1 ι1 h1 e1 hr1 r1 _ => ?_
  refine tE_then (er.mono e1) hr1 (h1.bnd.mono (fun _ _ q => q) fun _ _ q => q.ext e1) fun y μ2 w H2 ι2 h2 e2 hr2 r2 _ => ?_
  split at h2
  · rename_i hc
    refine evCmp_ok hr2 (r1.mono e2) r2 hc ⟨true, rfl, ?_⟩
    rw [if_pos rfl]
    refine tE_then (er.mono (e1.trans e2)) hr2 (h2.bnd.mono (fun _ _ q => q) fun _ _ q => q.ext (e1.trans e2)) fun z μ3 u H3 ι3 h3 e3 hr3 r3 _ => ?_
    obtain ⟨z, hz, g⟩ := h3.ok
    obtain ⟨b, hb, rfl⟩ := Option.map_eq_some_iff.mp hz
    exact evCmp_ok hr3 (r2.mono e3) r3 hb (g _ H3 ι3 ((e1.trans e2).trans e3) hr3 (.bl _) fun z => by cases z)
  · rename_i hc
    refine evCmp_ok hr2 (r1.mono e2) r2 hc ⟨false, rfl, ?_⟩
    rw [if_neg Bool.false_ne_true]
    exact h2 _ H2 ι2 (e1.trans e2) hr2 (.bl _) fun z => by cases z
  · exact h2.elim
theorem s_chn {op op' : CmpOp} {o p : Cop} {a b c : Expr} {a' b' c' : E} {pos : Pos} (hK : X.K = G.K) (hu : X.A.units + 64 < cLine) (ho : copOf op = some o) (hp : copOf op' = some p) (hm : lastMarks [op, op'] [b, c] = false)
    (ha : PE X a (tE G W wd a')) (hb : PE X b (tE G W wd b')) (hc : PE X c (tE G W wd c')) : PE X (.Compare a [op, op'] [b, c] pos) (tE G W wd (.chn o p a' b' c')) :=
  peW (pe_chain (op_cmp ho hu) (op_cmp hp hu) ha hb hc hm) fun σ H Q h => by rw [hK]; exact chn_of h
theorem t_chn {op op' : CmpOp} {o p : Cop} {a b c : Expr} {a' b' c' : E} {pos : Pos} (hK : X.K = G.K) (hu : X.A.units + 64 < cLine) (ho : copOf op = some o) (hp : copOf op' = some p) (hm : lastMarks [op, op'] [b, c] = false)
    (ha : PE X a (tE G W wd a')) (hb : PE X b (tE G W wd b')) (hc : PE X c (tE G W wd c')) : PT X (.Compare a [op, op'] [b, c] pos) (tT G W wd (.chn o p a' b' c')) :=
  ptW (pt_chain (op_cmp ho hu) (op_cmp hp hu) ha hb hc hm) fun σ H Q h => by rw [hK]; exact chn_of h
/-! ### items -/
theorem seq_item {B ι : List Addr} {H : Hp} {xs : List MV} {vs : List V} {i : Int} {z : MV} (r : RVs G B ι H xs vs) (h : L2.atI xs i = some z) : ∃ v, L2.atI vs i = some v ∧ RV G B ι H z v := by
  unfold L2.atI at h ⊢
  rw [← r.length]
  cases e : L2.ixN xs.length i with
  | none => rw [e] at h; cases h
  | some j =>
    rw [e] at h
    exact r.get h
theorem s_idx {a b : Expr} {a' b' : E} {pos : Pos} (hK : X.K = G.K) (hu : X.A.units + 64 < cLine) (hs : ∀ o i, subscripted b false o i = operate [o, i] (getItem o i)) (ha : PE X a (tE G W wd a')) (hb : PE X b (tE G W wd b')) : PE X (.Subscript a b pos) (tE G W wd (.idx a' b')) :=
  peW (peOr (pe_ix ix_seq ha hb hs) (pe_dget (by omega) ha hb hs)) fun σ H Q ⟨B, ι, μ, ρ, er, hr, h⟩ => by
    simp only [ev] at h
    by_cases P : ∃ x μ1 y μ2 kvs, ev wd a' ρ μ = some (.ok x, μ1) ∧ ev wd b' ρ μ1 = some (.ok y, μ2) ∧ dcOf μ2 x = some kvs
    · obtain ⟨x, μ1, y, μ2, kvs, h1, h2, h3⟩ := P
      refine .inr (tE_then er hr h.bnd.eq fun x' μ1' v H1 ι1 g e1 hr1 rx _ => ?_)
      obtain ⟨q1, g⟩ := g
      rw [h1] at q1
      cases q1
      refine tE_then (er.mono e1) hr1 (g.bnd.eq.mono (fun _ _ q => q) fun _ _ q => q.ext e1) fun y' μ2' w H2 ι2 g e2 hr2 ry _ => ?_
      obtain ⟨q2, g⟩ := g
      rw [h2] at q2
      cases q2
      obtain ⟨z, hz, g⟩ := g.ok
      obtain ⟨p, kws, rfl, hp, rk⟩ := dcOf_rv hr2 h3 (rx.mono e2)
      unfold evIdx at hz
      split at hz
      · simp [dcOf] at h3
      · rw [h3] at hz
        simp only at hz
        cases e3 : keyOf y with
        | none => rw [e3] at hz; cases hz
        | some k =>
          rw [e3] at hz
          simp only [Option.bind_some] at hz
          obtain ⟨u, hu', ru⟩ := (getK_rv (k := k) rk).1 z hz
          rw [keyOf_rv e3 ry]
          refine ⟨p, u, rfl, ?_, g u H2 ι2 (e1.trans e2) hr2 ru fun z => by cases z⟩
          rw [← hu']
          exact DGet.k hp
    · refine .inl (tE_then er hr h.bnd.eq fun x μ1 v H1 ι1 g e1 hr1 rx _ => ?_)
      obtain ⟨q1, g⟩ := g
      refine tE_then (er.mono e1) hr1 (g.bnd.eq.mono (fun _ _ q => q) fun _ _ q => q.ext e1) fun y μ2 w H2 ι2 g e2 hr2 ry _ => ?_
      obtain ⟨q2, g⟩ := g
      obtain ⟨z, hz, g'⟩ := g.ok
      have hd : dcOf μ2 x = none := by
        cases e : dcOf μ2 x with
        | none => rfl
        | some kvs => exact absurd ⟨x, μ1, y, μ2, kvs, q1, q2, e⟩ P
      have rx := rx.mono e2
      rw [hK]
      unfold evIdx at hz
      split at hz
      · split at hz
        · rename_i hl
          obtain ⟨c, hc, rfl⟩ := Option.map_eq_some_iff.mp hz
          rw [rx.str_inv, ry.int_inv]
          exact .inr (.inr ⟨_, _, c, rfl, rfl, most_le hl, hc, g' _ H2 ι2 (e1.trans e2) hr2 (.str _) fun z => by cases z⟩)
        · cases hz
      · rw [hd] at hz
        simp only at hz
        split at hz
        · rename_i i _ _
          cases e3 : sqOf μ2 x with
          | none => rw [e3] at hz; cases hz
          | some xs =>
            rw [e3] at hz
            simp only [Option.bind_some] at hz
            obtain ⟨p, vs, rfl, hs, r, _⟩ := sqOf_rv hr2 e3 rx
            obtain ⟨u, hu', ru⟩ := seq_item r hz
            rw [ry.int_inv]
            have fin := g' u H2 ι2 (e1.trans e2) hr2 ru fun z => by cases z
            rcases hs with hs | hs
            · exact .inl ⟨p, vs, _, u, rfl, rfl, hs, hu', fin⟩
            · exact .inr (.inl ⟨p, vs, _, u, rfl, rfl, hs, hu', fin⟩)
        · cases hz
/-! ### parts -/
/-- a bound of a part -/
def tO (G : GI) (W : WX) (wd : Wd) (hl : Bool) (e : E) : L2.TO := fun σ H Q => tE G W wd e σ H fun x H1 => if hl = true then ∃ i, x = .int i ∧ Q (some i) H1 else Q none H1
theorem o_none : PO X none (tO G W wd false (.con .non)) := ⟨fun pins s σ H Q I h => po_none.run pins s σ H Q I (by
  obtain ⟨B, ι, μ, ρ, er, hr, h⟩ := h
  have q := h .non H ι Ext.refl hr .non fun z => by cases z
  dsimp only at q
  rw [if_neg Bool.false_ne_true] at q
  exact q)⟩
theorem o_some {e : Expr} {e' : E} (h : PE X e (tE G W wd e')) : PO X (some e) (tO G W wd true e') := ⟨fun pins s σ H Q I q => (po_some h).run pins s σ H Q I (by
  obtain ⟨B, ι, μ, ρ, er, hr, q⟩ := q
  exact ⟨B, ι, μ, ρ, er, hr, q.mono (fun v μ1 g w H1 ι1 e1 hr1 r1 n => by
    have z := g w H1 ι1 e1 hr1 r1 n
    dsimp only at z
    rw [if_pos rfl] at z
    exact z) fun _ _ q => q⟩)⟩
def rSlc (K : PySem.W.Frag) : V → Option Int → Option Int → Hp → VK → Prop := fun x lo hi H Q => rSlL K x lo hi H Q ∨ rSlA K x lo hi H Q ∨ rSlS x lo hi H Q
theorem sl_any : SlR X (rSlc X.K) := sl_list.or (sl_tupA.or sl_str)
theorem evSlc_ok {B ι : List Addr} {H : Hp} {μ : Mem} {x z : MV} {lo hi : Option Int} {v : V} {Q : VK} (hr : HR G B ι H μ) (rx : RV G B ι H x v) (h : evSlc μ x lo hi = some z)
    (q : ∀ (u : V) (H' : Hp), Ext G.K ι H ι H' → HR G B ι H' μ → RV G B ι H' z u → New G B H ι H' μ true z u → Q u H') : rSlc G.K v lo hi H Q := by
  unfold evSlc at h
  split at h
  · cases h
    obtain ⟨a, vs, rfl, h1, r1⟩ := rx.tup_inv
    refine .inr (.inl ⟨a, vs, rfl, h1, fun hw => ?_, fun hw p hp => ?_⟩)
    · refine q _ _ Ext.refl hr (.tup h1 ?_) (fun _ xs e => by cases e)
      have r2 := r1.cutV lo hi
      have : L2.cutV vs lo hi = vs := by
        unfold L2.cutV
        rw [hw.1, hw.2, List.drop_zero, Nat.sub_zero, List.take_length]
      rw [this] at r2
      exact r2
    · exact q _ _ (Ext.push hp) (hr.pushO hp) (RV.newTup hp (r1.cutV lo hi)) (fun _ xs e => by cases e)
  · split at h
    · rename_i hl
      cases h
      rw [rx.str_inv]
      exact .inr (.inr ⟨_, rfl, most_le hl, q _ _ Ext.refl hr (.str _) (fun _ xs e => by cases e)⟩)
    · cases h
  · obtain ⟨xs, hx, rfl⟩ := Option.map_eq_some_iff.mp h
    obtain ⟨a, vs, rfl, h1, r1⟩ := lsOf_rv hr hx rx
    exact .inl ⟨a, vs, rfl, SqL.of h1, fun p hp => q _ _ (Ext.push hp) (hr.pushO hp) (RV.newLst hr hp (r1.cutV lo hi)) (New.lst hr hp (r1.cutV lo hi))⟩
theorem partO_rv {B ι : List Addr} {H : Hp} {hl : Bool} {l : MV} {w : V} {o : Option Int} {P : Option Int → Prop} (h : partO hl l = some o) (r : RV G B ι H l w) (k : P o) : if hl = true then ∃ i, w = .int i ∧ P (some i) else P none := by
  unfold partO at h
  cases hl with
  | true =>
    simp only [if_true] at h ⊢
    cases l <;> simp only [intO, Option.map_none, Option.map_some, reduceCtorEq, Option.some.injEq] at h
    subst h
    exact ⟨_, r.int_inv, k⟩
  | false =>
    simp only [Bool.false_eq_true, if_false, Option.some.injEq] at h ⊢
    subst h
    exact k
theorem s_slc {a : Expr} {lo hi : Option Expr} {a' lo' hi' : E} {hl hh : Bool} {pos p2 : Pos} (hK : X.K = G.K) (ha : PE X a (tE G W wd a')) (ho : PO X lo (tO G W wd hl lo')) (hu : PO X hi (tO G W wd hh hi')) : PE X (.Subscript a (.Slice lo hi none p2) pos) (tE G W wd (.slc a' hl lo' hh hi')) :=
  peW (pe_slice sl_any ha ho hu) fun σ H Q ⟨B, ι, μ, ρ, er, hr, h⟩ => by
    simp only [ev] at h
    refine tE_then er hr h.bnd fun x μ1 v H1 ι1 g e1 hr1 rx _ => ?_
    refine tE_then (er.mono e1) hr1 (g.bnd.mono (fun _ _ q => q) fun _ _ q => q.ext e1) fun l μ2 lv H2 ι2 g e2 hr2 rl _ => ?_
    split at g
    · rename_i lo hlo
      refine partO_rv (P := fun lo => tO G W wd hh hi' σ H2 fun u H3 => rSlc X.K v lo u H3 Q) hlo rl ?_
      refine tE_then (er.mono (e1.trans e2)) hr2 (g.bnd.mono (fun _ _ q => q) fun _ _ q => q.ext (e1.trans e2)) fun h μ3 hv H3 ι3 g e3 hr3 rh _ => ?_
      obtain ⟨z, hz, g⟩ := g.ok
      cases hhi : partO hh h with
      | none => rw [hhi] at hz; cases hz
      | some hi =>
        rw [hhi] at hz
        simp only [Option.bind_some] at hz
        refine partO_rv (P := fun hi => rSlc X.K v lo hi H3 Q) hhi rh ?_
        rw [hK]
        exact evSlc_ok hr3 ((rx.mono e2).mono e3) hz fun u H' e' hr' rz n => g u H' ι3 (((e1.trans e2).trans e3).trans e') hr' rz (n.ext ((e1.trans e2).trans e3))
    · exact g.elim
end
end MI
end
section
set_option Elab.async false
set_option linter.all false
set_option maxHeartbeats 4000000
/-! MI: calls of the text's own defs, displays. -/
namespace MI
open PySem PySem.Spec PyProof.Rows L2
section
variable {G : GI} {B ι t : List Addr} {H H' : Hp} {μ μ' : Mem}
/-! ### behind a call -/
mutual
theorem RV.lt {v : MV} {w : V} : RV G B ι H v w → v.lt ι.length = true
  | .non | .bl _ | .int _ | .str _ => rfl
  | .tup _ r => by simp only [MV.lt]; exact RVs.lt r
  | .lv _ _ _ r => by simp only [MV.lt]; exact RVs.lt r
  | .flH _ _ r => by simp only [MV.lt]; exact RVs.lt r
  | .flK _ r => by simp only [MV.lt]; exact RVs.lt r
  | .exo _ _ _ _ r => by simp only [MV.lt]; exact RV.lt r
  | .thk _ => rfl
  | .loc h => by simp only [MV.lt, decide_eq_true_eq]; exact (List.getElem?_eq_some_iff.mp h).1
theorem RVs.lt {v : List MV} {w : List V} : RVs G B ι H v w → MV.lts ι.length v = true
  | .nil => rfl
  | .cons h r => by simp only [MV.lts, Bool.and_eq_true]; exact ⟨RV.lt h, RVs.lt r⟩
end
theorem RKs.lt {v : List (Key × MV)} {w : List (Key × V)} (r : RKs G B ι H v w) : MV.lts ι.length (v.map (·.2)) = true := by
  induction r with
  | nil => rfl
  | cons h _ ih => simp only [List.map_cons, MV.lts, Bool.and_eq_true]; exact ⟨h.lt, ih⟩
theorem OR.lt {a : Addr} {o : MO} (r : OR G B ι H a o) : o.lt ι.length = true := by
  cases o with
  | lst xs => obtain ⟨_, _, r⟩ := r; exact r.lt
  | dic xs => obtain ⟨_, _, r⟩ := r; exact r.lt
mutual
theorem RV.cut {v : MV} {w : V} (hl : v.lt ι.length = true) : RV G B (ι ++ t) H v w → RV G B ι H v w
  | .non => .non
  | .bl b => .bl b
  | .int i => .int i
  | .str s => .str s
  | .tup q r => .tup q (RVs.cut (by simpa only [MV.lt] using hl) r)
  | .lv q nb ni r => .lv q nb (fun z => ni (List.mem_append_left _ z)) (RVs.cut (by simpa only [MV.lt] using hl) r)
  | .flH q ni r => .flH q (fun z => ni (List.mem_append_left _ z)) (RVs.cut (by simpa only [MV.lt] using hl) r)
  | .flK q r => .flK q (RVs.cut (by simpa only [MV.lt] using hl) r)
  | .exo q qd nb ni r => .exo q qd nb ⟨fun z => ni.1 (List.mem_append_left _ z), fun z => ni.2 (List.mem_append_left _ z)⟩ (RV.cut (by simpa only [MV.lt] using hl) r)
  | .thk a => .thk a
  | .loc q => .loc (by
      simp only [MV.lt, decide_eq_true_eq] at hl
      rw [List.getElem?_append_left hl] at q; exact q)
theorem RVs.cut {v : List MV} {w : List V} (hl : MV.lts ι.length v = true) : RVs G B (ι ++ t) H v w → RVs G B ι H v w
  | .nil => .nil
  | .cons h r => by
    simp only [MV.lts, Bool.and_eq_true] at hl
    exact .cons (RV.cut hl.1 h) (RVs.cut hl.2 r)
end
theorem RKs.cut {v : List (Key × MV)} {w : List (Key × V)} (hl : MV.lts ι.length (v.map (·.2)) = true) (r : RKs G B (ι ++ t) H v w) : RKs G B ι H v w := by
  induction r with
  | nil => exact .nil
  | cons h _ ih =>
    simp only [List.map_cons, MV.lts, Bool.and_eq_true] at hl
    exact .cons (h.cut hl.1) (ih hl.2)
theorem OR.cut {a : Addr} {o : MO} (hl : o.lt ι.length = true) (r : OR G B (ι ++ t) H a o) : OR G B ι H a o := by
  cases o with
  | lst xs => obtain ⟨vs, q, r⟩ := r; exact ⟨vs, q, r.cut hl⟩
  | dic xs => obtain ⟨vs, q, r⟩ := r; exact ⟨vs, q, r.cut hl⟩
theorem gcOk_at {n : Nat} : ∀ {μ ν : Mem}, gcOk n μ ν = true → μ.length = ν.length ∧ ∀ (m : Nat) (o o' : MO), μ[m]? = some o → ν[m]? = some o' → o = o' ∨ o'.lt n = true
  | [], [], _ => ⟨rfl, fun m o o' h => by simp at h⟩
  | [], _ :: _, h => by simp [gcOk] at h
  | _ :: _, [], h => by simp [gcOk] at h
  | o :: μ, o' :: ν, h => by
    simp only [gcOk, Bool.and_eq_true, Bool.or_eq_true, decide_eq_true_eq] at h
    have ih := gcOk_at h.2
    refine ⟨by simp [ih.1], fun m u u' h1 h2 => ?_⟩
    cases m with
    | zero => simp at h1 h2; subst h1 h2; exact h.1
    | succ m => exact ih.2 m u u' (by simpa using h1) (by simpa using h2)
theorem Ext.cut {K : PySem.W.Frag} (e : Ext K ι H (ι ++ t) H') : Ext K ι H ι H' := ⟨⟨[], by simp⟩, fun _ h => .inl h, e.tup, e.oth, e.thr⟩
theorem gc_hr (hr0 : HR G B ι H μ) (e : Ext G.K ι H (ι ++ t) H') (hr : HR G B (ι ++ t) H' μ') (h : gcOk μ.length μ (μ'.take μ.length) = true) : HR G B ι H' (μ'.take μ.length) := by
  have hg := gcOk_at h
  have hl : ι.length ≤ μ'.length := by rw [← hr.len, List.length_append]; omega
  refine ⟨by rw [List.length_take, ← hr0.len]; omega, (List.nodup_append.mp hr.nd).1, fun a ha => ⟨(hr.bu a ha).1, fun z => (hr.bu a ha).2 (List.mem_append_left _ z)⟩, hr.tb, hr0.ce.mono (Ext.cut e), fun p hp => ⟨(hr.co p hp).1, fun z => (hr.co p hp).2.1 (List.mem_append_left _ z), (hr.co p hp).2.2⟩, fun n a o h1 h2 => ?_⟩
  have hn := (List.getElem?_eq_some_iff.mp h1).1
  have h3 : μ'[n]? = some o := by
    rw [List.getElem?_take_of_lt (by rw [← hr0.len]; exact hn)] at h2
    exact h2
  have q := hr.ob n a o (by rw [List.getElem?_append_left hn]; exact h1) h3
  have hn2 : n < μ.length := by rw [← hr0.len]; exact hn
  rcases hg.2 n μ[n] o (List.getElem?_eq_getElem hn2) h2 with z | z
  · have q0 := hr0.ob n a _ h1 (List.getElem?_eq_getElem hn2)
    rw [z] at q0
    exact q.cut q0.lt
  · rw [← hr0.len] at z
    exact q.cut z
def LkOk (G : GI) (B ι t : List Addr) (H : Hp) (look : Nat → Option MV) : Prop := ∀ k a v, (ι ++ t)[k]? = some a → look k = some v → RV G B ι H v (.ref a)
mutual
theorem rd_rv {look : Nat → Option MV} (L : LkOk G B ι t H look) : ∀ {x y : MV} {w : V}, MV.rd look x = some y → RV G B (ι ++ t) H x w → RV G B ι H y w
  | .non, _, _, h, r => by simp only [MV.rd] at h; cases h; cases r; exact .non
  | .bl b, _, _, h, r => by simp only [MV.rd] at h; cases h; cases r; exact .bl b
  | .int i, _, _, h, r => by simp only [MV.rd] at h; cases h; cases r; exact .int i
  | .str s, _, _, h, r => by simp only [MV.rd] at h; cases h; cases r; exact .str s
  | .tup xs, y, _, h, r => by
    simp only [MV.rd] at h
    obtain ⟨ys, e, rfl⟩ := Option.map_eq_some_iff.mp h
    cases r with
    | tup h r => exact .tup h (rds_rv L e r)
  | .lv xs, y, _, h, r => by
    simp only [MV.rd] at h
    obtain ⟨ys, e, rfl⟩ := Option.map_eq_some_iff.mp h
    cases r with
    | lv h nb ni r => exact .lv h nb (fun z => ni (List.mem_append_left _ z)) (rds_rv L e r)
  | .fl xs, y, _, h, r => by
    simp only [MV.rd] at h
    obtain ⟨ys, e, rfl⟩ := Option.map_eq_some_iff.mp h
    cases r with
    | flH h ni r => exact .flH h (fun z => ni (List.mem_append_left _ z)) (rds_rv L e r)
    | flK h r => exact .flK h (rds_rv L e r)
  | .loc n, y, _, h, r => by
    simp only [MV.rd] at h
    cases r with
    | loc hn => exact L n _ y hn h
  | .exo c x, y, _, h, r => by
    simp only [MV.rd] at h
    obtain ⟨y', e, rfl⟩ := Option.map_eq_some_iff.mp h
    cases r with
    | exo q qd nb ni r => exact .exo q qd nb ⟨fun z => ni.1 (List.mem_append_left _ z), fun z => ni.2 (List.mem_append_left _ z)⟩ (rd_rv L e r)
  | .thk n, y, _, h, r => by simp only [MV.rd] at h; cases h; cases r; exact .thk _
theorem rds_rv {look : Nat → Option MV} (L : LkOk G B ι t H look) : ∀ {xs ys : List MV} {ws : List V}, MV.rds look xs = some ys → RVs G B (ι ++ t) H xs ws → RVs G B ι H ys ws
  | [], _, _, h, r => by simp only [MV.rds] at h; cases h; cases r; exact .nil
  | x :: xs, _, _, h, r => by
    obtain ⟨y, zs, h1, h2, rfl⟩ := rds_cons h
    cases r with
    | cons r1 r2 => exact .cons (rd_rv L h1 r1) (rds_rv L h2 r2)
end
theorem look_rv (hr : HR G B (ι ++ t) H μ') : ∀ d, LkOk G B ι t H (look ι.length μ' d)
  | 0 => fun k a v hk h => by
    simp only [look] at h
    split at h
    · rename_i hl
      cases h
      rw [List.getElem?_append_left hl] at hk
      exact .loc hk
    · cases h
  | d + 1 => fun k a v hk h => by
    simp only [look] at h
    split at h
    · rename_i hl
      cases h
      rw [List.getElem?_append_left hl] at hk
      exact .loc hk
    · rename_i hl
      split at h
      · rename_i xs e
        obtain ⟨ys, e1, rfl⟩ := Option.map_eq_some_iff.mp h
        obtain ⟨b, hb, vs, q1, q2⟩ := hr.get e
        rw [hk] at hb
        cases hb
        have hm : a ∈ t := by
          rw [List.getElem?_append_right (by omega)] at hk
          exact List.mem_of_getElem? hk
        exact .lv q1 (fun z => (hr.bu _ z).2 (List.mem_append_right _ hm)) (fun z => (List.nodup_append.mp hr.nd).2.2 _ z _ hm rfl) (rds_rv (look_rv hr d) e1 q2)
      · cases h
end
/-- the promise of a def, by what the interpreter tells of its calls -/
def spM (G : GI) (call : List MV → Mem → R MV) (np : Nat) : Sp := fun vs H Q E => vs.length = np ∧ ∃ B ι μ xs, HR G B ι H μ ∧ RVs G B ι H xs vs ∧
  Out (call xs μ) (fun v μ' => ∀ w H' ι', Ext G.K ι H ι' H' → HR G B ι' H' μ' → RV G B ι' H' v w → Q w H') (fun x μ' => ∀ cls d H' ι', Ext G.K ι H ι' H' → HR G B ι' H' μ' → RX G B ι' H' cls d x → E cls d H')
/-- behind a call, with its end -/
theorem gc_of {G : GI} {B ι : List Addr} {H : Hp} {μ : Mem} {r : R MV} {Q : VK} {E : XK} (hr : HR G B ι H μ) (h : Out (gc μ.length μ r) (fun v μ' => ∀ w H' ι', Ext G.K ι H ι' H' → HR G B ι' H' μ' → RV G B ι' H' v w → Q w H') (fun x μ' => ∀ cls d H' ι', Ext G.K ι H ι' H' → HR G B ι' H' μ' → RX G B ι' H' cls d x → E cls d H')) :
    Out r (fun v μ' => ∀ w H' ι', Ext G.K ι H ι' H' → HR G B ι' H' μ' → RV G B ι' H' v w → Q w H') (fun x μ' => ∀ cls d H' ι', Ext G.K ι H ι' H' → HR G B ι' H' μ' → RX G B ι' H' cls d x → E cls d H') := by
  match r, h with
  | some (.ok v, μ'), h =>
    intro w H' ι' e hr' rv
    obtain ⟨t, rfl⟩ := e.pre
    simp only [gc] at h
    split at h
    · rename_i hg
      cases hf : frz μ.length μ' v with
      | none => rw [hf] at h; exact h.elim
      | some y =>
        rw [hf] at h
        refine h w H' ι e.cut (gc_hr hr e hr' hg) ?_
        unfold frz at hf
        rw [← hr.len] at hf
        exact rd_rv (look_rv hr' 6) hf rv
    · exact h.elim
  | some (.error (c, x), μ'), h =>
    intro cls d H' ι' e hr' rx
    obtain ⟨t, rfl⟩ := e.pre
    simp only [gc] at h
    split at h
    · rename_i hg
      cases hf : frz μ.length μ' x with
      | none => rw [hf] at h; exact h.elim
      | some y =>
        rw [hf] at h
        obtain ⟨h1, da, w, h2, h3, h4⟩ := rx
        refine h cls d H' ι e.cut (gc_hr hr e hr' hg) ⟨h1, da, w, h2, h3, ?_⟩
        unfold frz at hf
        rw [← hr.len] at hf
        exact rd_rv (look_rv hr' 6) hf h4
    · exact h.elim
section
variable {X : Cx} {G : GI} {W : WX} {wd : Wd}
/-! ### argument lists -/
theorem s_anil : PA X [] (tEs G W wd .nil) := paW pa_nil fun σ H Q ⟨B, ι, μ, ρ, er, hr, h⟩ => by
  simp only [evs] at h
  exact h [] H ι Ext.refl hr .nil
theorem s_acons {e : Expr} {es : List Expr} {e' : E} {es' : ES} (he : PE X e (tE G W wd e')) (hes : PA X es (tEs G W wd es')) (hs : starEach (e :: es) X.env = (false, eval e X.env) :: starEach es X.env) : PA X (e :: es) (tEs G W wd (.cons e' es')) :=
  paW (pa_cons he hes hs) fun σ H Q ⟨B, ι, μ, ρ, er, hr, h⟩ => by
    simp only [evs] at h
    refine tE_then er hr h.bnd fun x μ1 v H1 ι1 g e1 hr1 rx _ => ?_
    refine tEs_then (er.mono e1) hr1 (g.bnd.mono (fun _ _ q => q) fun _ _ q => q.ext e1) fun xs μ2 vs H2 ι2 g e2 hr2 rs => ?_
    exact g (v :: vs) H2 ι2 (e1.trans e2) hr2 (.cons (rx.mono e2) rs)
theorem s_tup {es : List Expr} {es' : ES} {j : Nat} {pos : Pos} (h : PA X es (tEs G W wd es')) : PE X (.Tuple es j pos) (tE G W wd (.tup es')) :=
  peW (pe_tup h) fun σ H Q ⟨B, ι, μ, ρ, er, hr, h⟩ => by
    simp only [ev] at h
    refine tEs_then er hr h.bnd fun xs μ1 vs H1 ι1 g e1 hr1 rs => ?_
    split at g
    · rename_i hl
      refine ⟨by rw [← rs.length]; exact most_le hl, fun p hp => ?_⟩
      exact g _ _ ι1 (e1.trans (Ext.push hp)) (hr1.pushO hp) (RV.newTup hp rs) fun z => by cases z
    · exact g.elim
theorem s_lst {es : List Expr} {es' : ES} {pos : Pos} (h : PA X es (tEs G W wd es')) : PE X (.List es pos) (tE G W wd (.lst es')) :=
  peW (pe_lst h) fun σ H Q ⟨B, ι, μ, ρ, er, hr, h⟩ => by
    simp only [ev] at h
    refine tEs_then er hr h.bnd fun xs μ1 vs H1 ι1 g e1 hr1 rs => ?_
    split at g
    · rename_i hl
      refine ⟨by rw [← rs.length]; exact most_le hl, fun p hp => ?_⟩
      exact g _ _ ι1 (e1.trans (Ext.push hp)) (hr1.pushO hp) (RV.newLst hr1 hp rs) ((New.lst hr1 hp rs).ext e1)
    · exact g.elim
/-- a list that is to be changed has a place -/
theorem chg_of {e' : E} {σ : L2.St} {H : Hp} {Q : VK} (ha : al e' = true) (h : tE G W wd (.chg e') σ H Q) : tE G W wd e' σ H Q := by
    obtain ⟨B, ι, μ, ρ, er, hr, h⟩ := h
    simp only [ev] at h
    refine tE_then er hr h.bnd fun x μ1 v H1 ι1 g e1 hr1 rx n => ?_
    split at g
    · rename_i xs
      obtain ⟨a, vs, rfl, hn, ha1, hr2, rs⟩ := n ha _ rfl
      have hf : ∀ o ws, H1 a ≠ some (.frz o (.lst ws)) := fun o ws z => by rw [ha1] at z; cases z
      have nb : a ∉ B := hr.nw hn
      have r2 := rs.own hf
      refine g (.ref a) H1 (ι1 ++ [a]) ?_ (by
        exact hr2.own (o := .lst xs) hf nb ⟨vs, ha1, r2⟩) (.loc ?_) (fun z => by cases z)
      · refine ⟨?_, fun b hb => ?_, e1.tup, e1.oth, e1.thr⟩
        · obtain ⟨t, rfl⟩ := e1.pre
          exact ⟨t ++ [a], by simp⟩
        · rcases List.mem_append.mp hb with z | z
          · exact e1.fr b z
          · simp at z; subst z; exact .inr hn
      · rw [← hr1.len]; simp
    · exact g.elim
theorem s_chg {e : Expr} {e' : E} (ha : al e' = true) (h : PE X e (tE G W wd e')) : PE X e (tE G W wd (.chg e')) := peW h fun σ H Q z => chg_of ha z
/-- what is known of a def that may be called -/
structure FnA (X : Cx) (G : GI) (wd : Wd) (k : Nat) (x : Str) (f : Nat) (np : Nat) (ds : List MV) : Prop where
  ex : ∃ (fa : Addr) (fd : FuncData) (ps : List Str) (us : List Value) (dvs : List V), X.mg x = some (.ref fa) ∧ PySem.W.keepIn X.K (.ref fa) = true ∧ Binds X.K fd ps us ∧ Vals dvs us ∧ (∀ B ι H, RVs G B ι H ds dvs) ∧
    FnOk X.prog X.w X.K X.mg X.base (L2.CX X.prog X.w) k fa fd ps (spM G (wd.call f) np)
theorem app_of {keep : Bool} {f np : Nat} {es' : ES} {ds : List MV} {dvs : List V} {σ : L2.St} {H : Hp} {Q : VK} (hd : ∀ B ι H, RVs G B ι H ds dvs) (hl : ∀ xs μ, wd.call f xs μ ≠ none → xs.length = np) (h : tE G W wd (.app keep f es' ds) σ H Q) : tCallSD (spM G (wd.call f) np) dvs (WE W) (tEs G W wd es') σ H Q := by
  obtain ⟨B, ι, μ, ρ, er, hr, h⟩ := h
  simp only [ev] at h
  refine tEs_then er hr h.bnd fun xs μ1 vs H1 ι1 g e1 hr1 rs => ?_
  have rs2 := rs.append (hd B ι1 H1)
  have fin : Out (wd.call f (xs ++ ds) μ1) (fun v μ' => ∀ w H' ι', Ext G.K ι1 H1 ι' H' → HR G B ι' H' μ' → RV G B ι' H' v w → Q w H') (fun x μ' => ∀ cls d H' ι', Ext G.K ι1 H1 ι' H' → HR G B ι' H' μ' → RX G B ι' H' cls d x → WE W σ cls d H') := by
    cases keep with
    | true =>
      simp only [if_true] at g
      exact g.mono (fun v μ' q w H' ι' e' hr' rv => q w H' ι' (e1.trans e') hr' rv fun z => by cases z) fun x μ' q cls d H' ι' e' hr' rx => q cls d H' ι' (e1.trans e') hr' rx
    | false =>
      simp only [Bool.false_eq_true, if_false] at g
      exact gc_of hr1 (g.mono (fun v μ' q w H' ι' e' hr' rv => q w H' ι' (e1.trans e') hr' rv fun z => by cases z) fun x μ' q cls d H' ι' e' hr' rx => q cls d H' ι' (e1.trans e') hr' rx)
  refine ⟨?_, B, ι1, μ1, xs ++ ds, hr1, rs2, fin⟩
  rw [← rs2.length]
  refine hl _ μ1 fun z => ?_
  rw [z] at fin
  exact fin
theorem s_app {keep : Bool} {k f np : Nat} {x : Str} {e : Expr} {es : List Expr} {e' : ES} {ds : List MV} {p pos : Pos} (tk : Takes X W) (F : FnA X G wd k x f np ds) (hl : ∀ xs μ, wd.call f xs μ ≠ none → xs.length = np) (hr : Room k X.A) (hg : Gl X x) (ha : PA X (e :: es) (tEs G W wd e')) (hdb : (x == ("__debug__" : Str)) = false)
    (he : starEach (e :: es) X.env = (false, eval e X.env) :: starEach es X.env) (hpl : (backTo pos (starEach es X.env)).any (·.1) = false) : PE X (.Call (.Name x p) (e :: es) [] pos) (tE G W wd (.app keep f e' ds)) := by
  obtain ⟨fa, fd, ps, us, dvs, hm, hk, hb, hd, hds, F⟩ := F.ex
  exact peW (pe_callSD F hr hg hm hk hb hd (passAt tk) ha hdb he hpl) fun σ H Q h => app_of hds hl h
end
end MI
end
section
set_option Elab.async false
set_option linter.all false
set_option maxHeartbeats 4000000
/-! MI: built-in functions, methods, isinstance. -/
namespace MI
open PySem PySem.Spec PyProof.Rows L2
/-- a built-in f, by what evBi tells -/
def BiR (X : Cx) (G : GI) (f : Bi) (c : Value) : Prop := ∃ r : List V → Hp → VK → Prop, CallR X c r ∧ ∀ {B ι : List Addr} {H : Hp} {μ : Mem} {xs : List MV} {vs : List V} {z : MV} {Q : VK}, HR G B ι H μ → RVs G B ι H xs vs → evBi μ f xs = some z →
  (∀ (u : V) (H' : Hp), Ext G.K ι H ι H' → HR G B ι H' μ → RV G B ι H' z u → New G B H ι H' μ (al (.blt f .nil)) z u → Q u H') → r vs H Q
section
variable {X : Cx} {G : GI} {B ι : List Addr} {H : Hp} {μ : Mem}
theorem RVs.one {x : MV} {vs : List V} (r : RVs G B ι H [x] vs) : ∃ v, vs = [v] ∧ RV G B ι H x v := by
  cases r with
  | cons h r => cases r; exact ⟨_, rfl, h⟩
theorem RVs.two {x y : MV} {vs : List V} (r : RVs G B ι H [x, y] vs) : ∃ v w, vs = [v, w] ∧ RV G B ι H x v ∧ RV G B ι H y w := by
  cases r with
  | cons h r =>
    obtain ⟨w, rfl, q⟩ := r.one
    exact ⟨_, _, rfl, h, q⟩
theorem call_len_dk : CallR X (.builtin "len") (fun xs H Q => ∃ a kvs, xs = [.ref a] ∧ H a = some (.dK kvs) ∧ Q (.int kvs.length) H) := by
  intro pins s σ H xs us Q I r ⟨a, kvs, e, h, q⟩
  subst e
  obtain ⟨u, rfl, ru⟩ := vals1 r
  cases ru
  exact d_len I (.inl h) fun t s' I' => ⟨.int _, H, I', ⟨_, rfl⟩, q⟩
theorem RKs.length {kvs : List (Key × MV)} {kws : List (Key × V)} (r : RKs G B ι H kvs kws) : kvs.length = kws.length := by
  induction r with
  | nil => rfl
  | cons _ _ ih => simp [ih]
theorem b_len (hK : X.K = G.K) : BiR X G .len (.builtin "len") := by
  refine ⟨_, CallR.or call_len_str (CallR.or call_len_dk call_len_seq), fun {B ι H μ xs vs z Q} hr rs h q => ?_⟩
  have fin : ∀ n : Nat, z = .int n → Q (.int n) H := fun n e => by
    subst e
    exact q _ _ Ext.refl hr (.int _) fun z => by cases z
  unfold evBi at h
  split at h <;> try contradiction
  · obtain ⟨v, rfl, r⟩ := rs.one
    split at h
    · rename_i hl
      cases h
      rw [r.str_inv]
      exact .inl ⟨_, rfl, most_le hl, fin _ rfl⟩
    · cases h
  · obtain ⟨v, rfl, r⟩ := rs.one
    split at h
    · rename_i kvs e
      cases h
      obtain ⟨a, kws, rfl, h1, rk⟩ := dcOf_rv hr e r
      exact .inr (.inl ⟨a, kws, rfl, h1, by rw [← rk.length]; exact fin _ rfl⟩)
    · obtain ⟨ys, e, rfl⟩ := Option.map_eq_some_iff.mp h
      obtain ⟨a, ws, rfl, hs, r2, _⟩ := sqOf_rv hr e r
      exact .inr (.inr ⟨a, ws, rfl, by rw [hK]; exact hs, by rw [← r2.length]; exact fin _ rfl⟩)
theorem b_abs : BiR X G .abs (.builtin "abs") := by
  refine ⟨_, call_abs, fun {B ι H μ xs vs z Q} hr rs h q => ?_⟩
  unfold evBi at h
  split at h <;> try contradiction
  cases h
  obtain ⟨v, rfl, r⟩ := rs.one
  rw [r.int_inv]
  exact ⟨_, rfl, q _ _ Ext.refl hr (.int _) fun z => by cases z⟩
theorem b_min2 (hc : X.calm = true) : BiR X G .min2 (.builtin "min") := by
  refine ⟨_, call_min2 hc, fun {B ι H μ xs vs z Q} hr rs h q => ?_⟩
  unfold evBi at h
  split at h <;> try contradiction
  cases h
  obtain ⟨v, w, rfl, r1, r2⟩ := rs.two
  rw [r1.int_inv, r2.int_inv]
  exact ⟨_, _, rfl, q _ _ Ext.refl hr (.int _) fun z => by cases z⟩
theorem b_max2 (hc : X.calm = true) : BiR X G .max2 (.builtin "max") := by
  refine ⟨_, call_max2 hc, fun {B ι H μ xs vs z Q} hr rs h q => ?_⟩
  unfold evBi at h
  split at h <;> try contradiction
  cases h
  obtain ⟨v, w, rfl, r1, r2⟩ := rs.two
  rw [r1.int_inv, r2.int_inv]
  exact ⟨_, _, rfl, q _ _ Ext.refl hr (.int _) fun z => by cases z⟩
theorem b_int1 : BiR X G .int1 (.type "int") := by
  refine ⟨_, call_int1, fun {B ι H μ xs vs z Q} hr rs h q => ?_⟩
  unfold evBi at h
  split at h <;> try contradiction
  · cases h
    obtain ⟨v, rfl, r⟩ := rs.one
    rw [r.int_inv]
    exact .inl ⟨_, rfl, q _ _ Ext.refl hr (.int _) fun z => by cases z⟩
  · cases h
    obtain ⟨v, rfl, r⟩ := rs.one
    rw [r.bl_inv]
    exact .inr ⟨_, rfl, q _ _ Ext.refl hr (.int _) fun z => by cases z⟩
theorem b_tup1 (hK : X.K = G.K) : BiR X G .tup1 (.type "tuple") := by
  refine ⟨_, call_tuple_of, fun {B ι H μ xs vs z Q} hr rs h q => ?_⟩
  unfold evBi at h
  split at h <;> try contradiction
  rename_i x _
  obtain ⟨ys, e, rfl⟩ := Option.map_eq_some_iff.mp h
  obtain ⟨v, rfl, r⟩ := rs.one
  obtain ⟨a, ws, rfl, hs, r2, h3, h4⟩ := sqOf_rv hr e r
  rw [hK]
  refine ⟨a, ws, rfl, ?_⟩
  by_cases ht : ∃ us, x = .tup us
  · exact .inr ⟨h3 ht, q _ _ Ext.refl hr (.tup (h3 ht) r2) fun z => by cases z⟩
  · exact .inl ⟨h4 fun us e => ht ⟨us, e⟩, fun p hp => q _ _ (Ext.push hp) (hr.pushO hp) (RV.newTup hp r2) fun z => by cases z⟩
theorem b_lst1 (hK : X.K = G.K) : BiR X G .lst1 (.type "list") := by
  refine ⟨_, call_list_of, fun {B ι H μ xs vs z Q} hr rs h q => ?_⟩
  unfold evBi at h
  split at h <;> try contradiction
  obtain ⟨ys, e, rfl⟩ := Option.map_eq_some_iff.mp h
  obtain ⟨v, rfl, r⟩ := rs.one
  obtain ⟨a, ws, rfl, hs, r2, h3, h4⟩ := sqOf_rv hr e r
  rw [hK]
  exact ⟨a, ws, rfl, hs, fun p hp => q _ _ (Ext.push hp) (hr.pushO hp) (RV.newLst hr hp r2) (New.lst hr hp r2)⟩
theorem bools_rv : ∀ {xs : List MV} {vs : List V} {bs : List Bool}, RVs G B ι H xs vs → xs.mapM blO = some bs → vs = bs.map V.bl
  | [], _, bs, .nil, h => by simp at h; subst h; rfl
  | x :: xs, _, bs, .cons h r, e => by
    simp only [List.mapM_cons, Option.bind_eq_bind, Option.pure_def, Option.bind_eq_some_iff] at e
    obtain ⟨b, hb, cs, hc, e⟩ := e
    cases e
    have := blO_inv hb
    subst this
    rw [h.bl_inv, bools_rv r hc]
    rfl
theorem ints_rv : ∀ {xs : List MV} {vs : List V} {bs : List Int}, RVs G B ι H xs vs → xs.mapM intO = some bs → vs = bs.map V.int
  | [], _, bs, .nil, h => by simp at h; subst h; rfl
  | x :: xs, _, bs, .cons h r, e => by
    simp only [List.mapM_cons, Option.bind_eq_bind, Option.pure_def, Option.bind_eq_some_iff] at e
    obtain ⟨b, hb, cs, hc, e⟩ := e
    cases e
    cases x <;> simp only [intO, reduceCtorEq, Option.some.injEq] at hb
    subst hb
    rw [h.int_inv, ints_rv r hc]
    rfl
theorem b_all1 (hK : X.K = G.K) (hc : X.calm = true) : BiR X G .all1 (.builtin "all") := by
  refine ⟨_, cr_all hc, fun {B ι H μ xs vs z Q} hr rs h q => ?_⟩
  unfold evBi at h
  split at h <;> try contradiction
  obtain ⟨ys, e, h⟩ := Option.bind_eq_some_iff.mp h
  obtain ⟨bs, e2, rfl⟩ := Option.map_eq_some_iff.mp h
  obtain ⟨v, rfl, r⟩ := rs.one
  obtain ⟨a, ws, rfl, h1, r2⟩ := lsOf_rv hr e r
  have := bools_rv r2 e2
  subst this
  exact ⟨a, bs, rfl, SqL.of h1, q _ _ Ext.refl hr (.bl _) fun z => by cases z⟩
theorem b_any1 (hK : X.K = G.K) (hc : X.calm = true) : BiR X G .any1 (.builtin "any") := by
  refine ⟨_, cr_any hc, fun {B ι H μ xs vs z Q} hr rs h q => ?_⟩
  unfold evBi at h
  split at h <;> try contradiction
  obtain ⟨ys, e, h⟩ := Option.bind_eq_some_iff.mp h
  obtain ⟨bs, e2, rfl⟩ := Option.map_eq_some_iff.mp h
  obtain ⟨v, rfl, r⟩ := rs.one
  obtain ⟨a, ws, rfl, h1, r2⟩ := lsOf_rv hr e r
  have := bools_rv r2 e2
  subst this
  exact ⟨a, bs, rfl, SqL.of h1, q _ _ Ext.refl hr (.bl _) fun z => by cases z⟩
theorem b_sum1 (hK : X.K = G.K) (hc : X.calm = true) : BiR X G .sum1 (.builtin "sum") := by
  refine ⟨_, cr_sum hc, fun {B ι H μ xs vs z Q} hr rs h q => ?_⟩
  unfold evBi at h
  split at h <;> try contradiction
  obtain ⟨ys, e, h⟩ := Option.bind_eq_some_iff.mp h
  obtain ⟨bs, e2, rfl⟩ := Option.map_eq_some_iff.mp h
  obtain ⟨v, rfl, r⟩ := rs.one
  obtain ⟨a, ws, rfl, h1, r2⟩ := lsOf_rv hr e r
  have := ints_rv r2 e2
  subst this
  exact ⟨a, bs, rfl, SqL.of h1, q _ _ Ext.refl hr (.int _) fun z => by cases z⟩
end
section
variable {X : Cx} {G : GI} {W : WX} {wd : Wd}
theorem blt_of {f : Bi} {e' : ES} {r : List V → Hp → VK → Prop} {σ : L2.St} {H : Hp} {Q : VK}
    (hb : ∀ {B ι : List Addr} {H : Hp} {μ : Mem} {xs : List MV} {vs : List V} {z : MV} {Q : VK}, HR G B ι H μ → RVs G B ι H xs vs → evBi μ f xs = some z →
      (∀ (u : V) (H' : Hp), Ext G.K ι H ι H' → HR G B ι H' μ → RV G B ι H' z u → New G B H ι H' μ (al (.blt f .nil)) z u → Q u H') → r vs H Q)
    (h : tE G W wd (.blt f e') σ H Q) : tCB r (tEs G W wd e') σ H Q := by
  obtain ⟨B, ι, μ, ρ, er, hr, h⟩ := h
  simp only [ev] at h
  refine tEs_then er hr h.bnd fun xs μ1 vs H1 ι1 g e1 hr1 rs => ?_
  obtain ⟨z, hz, g⟩ := g.ok
  refine hb hr1 rs hz fun u H' e' hr' rz n => g u H' ι1 (e1.trans e') hr' rz ?_
  have e : al (.blt f .nil) = al (.blt f ‹ES›) := by cases f <;> rfl
  rw [e] at n
  exact n.ext e1
theorem s_bltB {f : Bi} {id : String} {x : Str} {e : Expr} {es : List Expr} {e' : ES} {p pos : Pos} (hb : BiR X G f (.builtin id)) (hg : Gl X x) (hm : X.mg x = none) (hv : bootBuiltins x = some (.builtin id)) (ha : PA X (e :: es) (tEs G W wd e')) (hn : x ≠ "__name__") (hdb : (x == ("__debug__" : Str)) = false)
    (he : starEach (e :: es) X.env = (false, eval e X.env) :: starEach es X.env) (hpl : (backTo pos (starEach es X.env)).any (·.1) = false) : PE X (.Call (.Name x p) (e :: es) [] pos) (tE G W wd (.blt f e')) := by
  obtain ⟨r, hc, hb⟩ := hb
  exact peW (pe_callB hc hg hm hv ha hn hdb he hpl) fun σ H Q h => blt_of hb h
theorem s_bltT {f : Bi} {id : String} {x : Str} {e : Expr} {es : List Expr} {e' : ES} {p pos : Pos} (hb : BiR X G f (.type id)) (hg : Gl X x) (hm : X.mg x = none) (hv : bootBuiltins x = some (.type id)) (ha : PA X (e :: es) (tEs G W wd e')) (hn : x ≠ "__name__") (hdb : (x == ("__debug__" : Str)) = false)
    (he : starEach (e :: es) X.env = (false, eval e X.env) :: starEach es X.env) (hpl : (backTo pos (starEach es X.env)).any (·.1) = false) : PE X (.Call (.Name x p) (e :: es) [] pos) (tE G W wd (.blt f e')) := by
  obtain ⟨r, hc, hb⟩ := hb
  exact peW (pe_callTy hc hg hm hv ha hn hdb he hpl) fun σ H Q h => blt_of hb h
end
end MI
end
section
set_option Elab.async false
set_option linter.all false
set_option maxHeartbeats 4000000
/-! MI: enumerate of a tuple, walked. -/
namespace MI
open PySem PySem.Spec PyProof.Rows L2
set_option maxHeartbeats 1000000 in
theorem newEnum {v : Value} {o : Obj} {Hd : Heap → Prop} (B : Begins v o Hd) :
    Meets (Builtin.«enumerate.__new__» ⟨[.type "enumerate", v], []⟩) (fun _ R s => Hd s.heap ∧ R (.ok (.ret (.ref (s.heap.push o).objs.size)))
      { s with heap := (s.heap.push o).push { cls := .type "enumerate", data := .fields #[.none, .bool false, .ref s.heap.objs.size, rawInt 0, .none, .none] } }) :=
  .of_wp fun prog w A R s z => by
    obtain ⟨hp, g, d, tk, os⟩ := s; obtain ⟨z1, z⟩ := z
    have hs := sub_enumerate
    have q1 : ∀ {A' : Around} {E Q : Value → Shared → Prop}, Q (.ref hp.objs.size) ⟨hp.push o, g, d, tk, os⟩ → wpAny (model prog w) A' (pyIter v) Q E ⟨hp, g, d, tk, os⟩ :=
      fun q => B.iter prog w _ _ ⟨hp, g, d, tk, os⟩ _ z1 q
    wp_walk using q1
    refine wpAny_stack_any fun st => wpAny_pure ?_
    split
    · rename_i c _ _ _ _ _
      cases (c == Value.type "enumerate") <;> (wp_walk using q1; exact ⟨_, rfl, z⟩)
    · wp_walk using q1
      exact ⟨_, rfl, z⟩
theorem newEnumT {prog : Program} {w : World} {A : Around} {E : Value → Shared → Prop} {s : Shared} {l : Addr} {items : Array Value} {Q : Value → Shared → Prop} (hL : s.heap.IsTuple l items)
    (h : ∀ h', IsEnum h' (s.heap.objs.size + 1) s.heap.objs.size 0 .none → h'.IsTupleIter s.heap.objs.size l 0 → (∀ b o, s.heap.get? b = some o → h'.get? b = some o) → Q (.ref (s.heap.objs.size + 1)) { s with heap := h' }) :
    wpAny (model prog w) A (call (.type "enumerate") [.ref l]) Q E s := by
  refine callType_new F.called_enumerate (by decide) (F.typeCall_enumerate_1 _) (F.newCall_enumerate_1 _) (fun obj => F.args_object_init_2 obj _) F.entry_enumerate_new (newEnum (begins_tuple l items)) ⟨hL, ?_⟩
  have hz : (s.heap.push { cls := .type "tuple_iterator", data := .fields #[.ref l, .int 0 0] }).objs.size = s.heap.objs.size + 1 := Heap.size_push ..
  rw [hz]
  have he := Heap.get?_push_size (s.heap.push { cls := .type "tuple_iterator", data := .fields #[.ref l, .int 0 0] }) (o := { cls := .type "enumerate", data := .fields #[.none, .bool false, .ref s.heap.objs.size, rawInt 0, .none, .none] }) rfl
  rw [hz] at he
  exact ⟨⟨_, he, rfl⟩, h _ he ⟨_, Heap.get?_push_of_some _ (Heap.get?_push_size _ rfl), rfl, rfl⟩ fun b o x => Heap.get?_push_of_some _ (Heap.get?_push_of_some _ x)⟩
/-- the tuple at a, each of its items in a pair -/
def IteT (K : PySem.W.Frag) (a : Addr) : L2.It :=
  ⟨fun i H => ∃ (xs : List V) (x : V), SqT K H a xs ∧ xs[i]? = some x, fun i H v H' => ∃ T x, v = .ref T ∧ H T = none ∧ H' = upd H T (.tup [.int (i : Nat), x]) ∧ ∀ xs, SqT K H a xs → xs[i]? = some x, fun i H => ∃ xs : List V, SqT K H a xs ∧ xs.length ≤ i⟩
theorem turn_enumT {P : Program} {w : World} {K : PySem.W.Frag} {elts : List Expr} {kk : Nat} {tpos : Pos} (a e it : Addr) :
    Turn P w K (.Tuple elts kk tpos) (IteT K a) [e, it] e (fun i h => (∃ old, IsEnum h e it ((i : Nat) : Int) old) ∧ h.IsTupleIter it a i ∧ e ≠ it ∧ a ≠ it) where
  mem := by simp
  obj := fun i h st b hb => by
    obtain ⟨⟨old, he⟩, ⟨o, ho, hc, hd⟩, _⟩ := st
    have z : b = e ∨ b = it := by simpa using hb
    rcases z with rfl | rfl
    · exact ⟨_, he, fun v q => nomatch q⟩
    · exact ⟨o, ho, fun v q => by rw [hd] at q; cases q⟩
  keep := fun i h h' ⟨⟨old, he⟩, hi, hne⟩ k => ⟨⟨old, k e (by simp) _ he⟩, hi.at fun o q => k it (by simp) o q, hne⟩
  item := by
    intro X hP hw hK hc i pins s σ H E I hf st hg
    subst hP hw hK
    obtain ⟨⟨old, he⟩, hit, hne, hat⟩ := st
    obtain ⟨xs, x, hq, hx⟩ := hg
    obtain ⟨its, rv, p, hz⟩ := I.tuple hq
    obtain ⟨u, hu, ru⟩ := rv.get hx
    have p' : s.heap.IsTuple a its.toArray := p
    have hel : e < s.heap.objs.size := Heap.lt_size he
    have hil : it < s.heap.objs.size := by obtain ⟨_, q, _⟩ := hit; exact Heap.lt_size q
    have hea : e ≠ a := fun z => by
      subst z
      obtain ⟨o, ho, hc, n, hd⟩ := p'
      have he' : s.heap.get? e = some _ := he
      rw [ho] at he'
      cases he'
      cases hd
    have D := Draws.tuple (prog := X.prog) (w := X.w) (A := X.A.in1) (I.ok.hd hc) it a hat its.toArray
    refine wpAny_pyNext_enum_itemD (i := i) D he ⟨hit, p'⟩ (by have := (List.getElem?_eq_some_iff.mp hu).1; simpa using this) hne (by simp [hne, hea]) fun y h' tk hP ho st' hT hsz hk => ?_
    have hy : y = u := by
      have : its[i]? = some y := by simpa using hP
      rw [hu] at this
      exact (Option.some.inj this).symm
    subst hy
    refine ⟨_, rfl, wpAny_letOwnedTupleGo_enum (s := { s with heap := h', toks := tk + 1 }) ho fun h'' he' sb => ?_⟩
    have hT2 := (sb.2 _ (Nat.ne_of_gt hel)).trans hT
    have new : ObjOk X.prog X.w (upd H s.heap.objs.size (.tup [.int (i : Nat), x])) h'' s.heap.objs.size (.tup [.int (i : Nat), x]) :=
      ⟨by show 2 ≤ sizeLine; decide, [.int i tk, y], .cons ⟨_, rfl⟩ (.cons ru .nil), ⟨_, hT2, rfl, _, rfl⟩⟩
    have I1 : Inv X pins σ (upd H s.heap.objs.size (.tup [.int (i : Nat), x])) { s with heap := h'', toks := tk + 1 } :=
      I.turnedNew (ch := [e, it]) (fun b ob hb q => (sb.2 b (fun z => hb (by simp [z]))).trans (hk b ob (fun z => hb (by simp [z])) (fun z => hb (by simp [z])) q)) hf (Nat.le_refl _) new
    refine ⟨.ref s.heap.objs.size, _, I1, rfl, ⟨_, x, rfl, I.hok.fresh (Nat.le_refl _), rfl, fun ys hy => by rw [I.tuple_inj hy hq]; exact hx⟩, ⟨⟨y, ?_⟩, st'.1.at fun o q => (sb.2 it (Ne.symm hne)).trans q, hne, hat⟩, fun b hb => ?_⟩
    · have e1 : ((i + 1 : Nat) : Int) = (i : Int) + 1 := by omega
      rw [e1]; exact he'
    · have z : b = e ∨ b = it := by simpa using hb
      have hb' : b < s.heap.objs.size := by
        rcases z with rfl | rfl
        · exact hel
        · exact hil
      rw [upd_ne (Nat.ne_of_lt hb')]
      exact (hf b hb).1
  done := by
    intro X hP hw hK hc i pins s σ H E I hf st hg
    subst hP hw hK
    obtain ⟨⟨old, he⟩, hit, hne, hat⟩ := st
    obtain ⟨xs, hq, hx⟩ := hg
    obtain ⟨its, rv, p, hz⟩ := I.tuple hq
    have p' : s.heap.IsTuple a its.toArray := p
    obtain ⟨f0, f1, f2, f3, f4, f5⟩ := hf it (by simp)
    have hl := rv.length
    have hh := I.ok.hd hc
    have hT : s.TypeIs (.ref e) "enumerate" := ⟨_, he, rfl⟩
    unfold pyNext
    refine wpAny_bind (wpAny_attempt (wpAny_callSpecial?_slot (name := Str.ofString "__next__") hT F.slot_enumerate_next (wpAny_call_entry F.slot_enumerate_next hT F.entry_enumerate_next ?_ (F.args_enumerate_next_1 _))))
    show wpAny _ _ (field (.ref e) 2 >>= _) _ _ _
    refine wpAny_bind (wpAny_field he rfl (x := .ref it) rfl ?_)
    refine wpAny_bind (wpAny_nextOf_tuple_end (A := X.A.in1) hh hit p' (by simp; omega) fun h' x he' hx' => ?_)
    obtain ⟨o, ho, hcl⟩ := hx'
    refine wpAny_bind (wpAny_isInstance (T := "StopIteration") (b := true) ⟨o, ho, hcl⟩ isSubtype_stop ?_)
    exact wpAny_pure ⟨rfl, I.turned (t' := s.toks) (fun b o hb q => he' b o hb q) f0 f1 f3 f4 f5⟩
  self := fun A i s Q E st h => let ⟨⟨_, he⟩, _⟩ := st; wpAny_pyIter_enum he h
def iEnumT (K : PySem.W.Frag) (ta : TA) : TI := fun σ H R => ta σ H fun vs H1 => ∃ a xs, vs = [.ref a] ∧ SqT K H1 a xs ∧ R (IteT K a) H1
theorem pi_enumT {X : Cx} {e : Expr} {ta : TA} {p pos tpos : Pos} {elts : List Expr} {kk : Nat} (hg : Gl X "enumerate") (hm : X.mg "enumerate" = none) (ha : PA X [e] ta) (hs : starEach [e] X.env = [(false, eval e X.env)]) :
    PI X (.Tuple elts kk tpos) (.Call (.Name "enumerate" p) [e] [] pos) (iEnumT X.K ta) := by
  refine ⟨fun pins s σ H R I h => ?_⟩
  refine Call_ (ld_blt I hg hm boot_enumerate (PyProof.Rows.callWith_type1 (thn (ha.run pos pins s σ H _ I h) fun us s1 ⟨vs, H1, I1, r1, q1⟩ => ?_) hs rfl))
  obtain ⟨a, xs, ex, hq, q⟩ := q1
  subst ex
  cases r1 with
  | cons r rr =>
    cases rr
    cases r
    obtain ⟨its, rv, p', hz⟩ := I1.tuple hq
    have pt : s1.heap.IsTuple a its.toArray := p'
    have hlt : a < s1.heap.objs.size := by obtain ⟨o, ho, _⟩ := pt; exact Heap.lt_size ho
    refine newEnumT pt fun h' he hit hk => wpAny_pyIter_enum he ?_
    have I2 : Inv X pins σ H1 { s1 with heap := h' } := I1.kept (t' := s1.toks) hk
    refine ⟨s1.heap.objs.size + 1, [s1.heap.objs.size + 1, s1.heap.objs.size], _, _, H1, rfl, I2, turn_enumT a (s1.heap.objs.size + 1) s1.heap.objs.size, ⟨⟨.none, he⟩, hit, Nat.succ_ne_self _, Nat.ne_of_lt hlt⟩, fun b hb => ?_, q⟩
    have z : b = s1.heap.objs.size + 1 ∨ b = s1.heap.objs.size := by simpa using hb
    have hle : s1.heap.objs.size ≤ b := by
      rcases z with rfl | rfl
      · exact Nat.le_add_right _ _
      · exact Nat.le_refl _
    exact I1.fpOk hle (I1.hok.fresh hle)
end MI
end
section
set_option Elab.async false
set_option linter.all false
set_option maxHeartbeats 4000000
/-! MI: what is walked. -/
namespace MI
open PySem PySem.Spec PyProof.Rows L2
/-- what was told stays told -/
def Fut (G : GI) (B ι : List Addr) (H : Hp) (B' ι' : List Addr) (H' : Hp) : Prop := ∀ v w, RV G B ι H v w → RV G B' ι' H' v w
theorem Fut.refl {G : GI} {B ι : List Addr} {H : Hp} : Fut G B ι H B ι H := fun _ _ r => r
theorem Fut.trans {G : GI} {B ι B1 ι1 B2 ι2 : List Addr} {H H1 H2 : Hp} (a : Fut G B ι H B1 ι1 H1) (b : Fut G B1 ι1 H1 B2 ι2 H2) : Fut G B ι H B2 ι2 H2 := fun _ _ r => b _ _ (a _ _ r)
theorem Fut.ext {G : GI} {B ι ι' : List Addr} {H H' : Hp} (e : Ext G.K ι H ι' H') : Fut G B ι H B ι' H' := fun _ _ r => r.mono e
/-- the walk J gives the things of p, one by one -/
def Wk (G : GI) (B ι : List Addr) (H : Hp) (J : L2.It) (p : Items) : Prop := ∃ (Gd : Hp → Prop) (Y : Nat → Hp → V → Hp → Prop), Walk J p.1.length Gd Y ∧
  ∀ (B' ι' : List Addr) (H' : Hp) (μ' : Mem), Fut G B ι H B' ι' H' → HR G B' ι' H' μ' → gdOk μ' p.2 = true → Gd H' ∧
    ∀ (i : Nat) (x : V) (H'' : Hp), i < p.1.length → Y i H' x H'' → ∃ v, p.1[i]? = some v ∧ Ext G.K ι' H' ι' H'' ∧ HR G B' ι' H'' μ' ∧ RV G B' ι' H'' v x
def tI (G : GI) (W : WX) (wd : Wd) (it : It) : TI := fun σ H R => ∃ B ι μ ρ, ER G B ι H ρ σ ∧ HR G B ι H μ ∧
  Out (evIt wd it ρ μ) (fun p μ1 => ∀ J H1 ι1, Ext G.K ι H ι1 H1 → HR G B ι1 H1 μ1 → Wk G B ι1 H1 J p → R J H1) (Bad G B ι H W σ)
theorem piW {X : Cx} {tg e : Expr} {t t' : TI} (h : PI X tg e t) (k : ∀ σ H R, t' σ H R → t σ H R) : PI X tg e t' := ⟨fun pins s σ H R I q => h.run pins s σ H R I (k σ H R q)⟩
theorem piOr {X : Cx} {tg e : Expr} {t t' : TI} (h : PI X tg e t) (h' : PI X tg e t') : PI X tg e (fun σ H R => t σ H R ∨ t' σ H R) := ⟨fun pins s σ H R I q => q.elim (h.run pins s σ H R I) (h'.run pins s σ H R I)⟩
section
variable {G : GI} {B ι : List Addr} {H : Hp} {μ : Mem}
/-- a thing that can be walked still holds the same -/
theorem sq_stays {v : MV} {xs : List MV} {μ' : Mem} (h : sqOf μ v = some xs) (g : gdOk μ' (gdOf v xs) = true) : sqOf μ' v = some xs := by
  cases v with
  | loc k =>
    simp only [gdOf, gdOk, List.all_cons, List.all_nil, Bool.and_true, decide_eq_true_eq] at g
    simp only [sqOf, g]
  | _ => simpa [sqOf] using h
theorem wk_list {v : MV} {xs : List MV} {a : Addr} (h : sqOf μ v = some xs) (nt : ∀ ys, v ≠ .tup ys) (r : RV G B ι H v (.ref a)) : Wk G B ι H (Itl G.K a) (xs, gdOf v xs) := by
  refine ⟨fun H' => ∃ ws, SqL G.K H' a ws ∧ ws.length = xs.length, fun i H' x H'' => H'' = H' ∧ ∀ ws, SqL G.K H' a ws → ws[i]? = some x, ⟨?_, ?_, ?_⟩, fun B' ι' H' μ' fu hr g => ?_⟩
  · rintro i H' hi ⟨ws, q, e⟩
    have hi' : i < ws.length := by rw [e]; exact hi
    exact ⟨ws, ws[i], q, by simp [hi']⟩
  · rintro H' ⟨ws, q, e⟩
    exact ⟨ws, q, by rw [e]; exact Nat.le_refl _⟩
  · exact fun i H' x H'' hi q y => y
  · have r' := fu _ _ r
    obtain ⟨b, ws, e, hs, r2, _, hL⟩ := sqOf_rv hr (sq_stays h g) r'
    cases e
    refine ⟨⟨ws, hL nt, r2.length.symm⟩, fun i x H'' hi ⟨e, y⟩ => ?_⟩
    subst e
    obtain ⟨v', hv, rv⟩ := r2.get' (y ws (hL nt))
    exact ⟨v', hv, Ext.refl, hr, rv⟩
theorem wk_tup {xs : List MV} {a : Addr} (r : RV G B ι H (.tup xs) (.ref a)) : Wk G B ι H (Itt G.K a) (xs, []) := by
  refine ⟨fun H' => ∃ ws, SqT G.K H' a ws ∧ ws.length = xs.length, fun i H' x H'' => H'' = H' ∧ ∀ ws, SqT G.K H' a ws → ws[i]? = some x, ⟨?_, ?_, ?_⟩, fun B' ι' H' μ' fu hr g => ?_⟩
  · rintro i H' hi ⟨ws, q, e⟩
    have hi' : i < ws.length := by rw [e]; exact hi
    exact ⟨ws, ws[i], q, by simp [hi']⟩
  · rintro H' ⟨ws, q, e⟩
    exact ⟨ws, q, by rw [e]; exact Nat.le_refl _⟩
  · exact fun i H' x H'' hi q y => y
  · cases fu _ _ r with
    | tup hq r2 =>
      rename_i ws
      refine ⟨⟨ws, hq, r2.length.symm⟩, fun i x H'' hi ⟨e, y⟩ => ?_⟩
      subst e
      obtain ⟨v', hv, rv⟩ := r2.get' (y ws hq)
      exact ⟨v', hv, Ext.refl, hr, rv⟩
theorem wk_range {lo : Int} {n : Nat} : Wk G B ι H (Itr lo n) ((List.range n).map fun (k : Nat) => .int (lo + k), []) := by
  refine ⟨fun _ => True, YFn fun i => .int (lo + i), by simpa using walk_range, fun B' ι' H' μ' fu hr g => ⟨trivial, fun i x H'' hi ⟨e, y⟩ => ?_⟩⟩
  subst e y
  have hi' : i < n := by simpa using hi
  exact ⟨.int (lo + i), by simp [hi'], Ext.refl, hr, .int _⟩
theorem wk_rangeC {lo c : Int} {n : Nat} : Wk G B ι H (Itc lo c n) ((List.range n).map fun (k : Nat) => .int (lo + (k : Nat) * c), []) := by
  refine ⟨fun _ => True, YFn fun i => .int (lo + (i : Nat) * c), by simpa using walk_rangeC, fun B' ι' H' μ' fu hr g => ⟨trivial, fun i x H'' hi ⟨e, y⟩ => ?_⟩⟩
  subst e y
  have hi' : i < n := by simpa using hi
  exact ⟨.int (lo + (i : Nat) * c), by simp [hi'], Ext.refl, hr, .int _⟩
theorem enumF_length : ∀ (xs : List MV) (n : Nat), (enumF n xs).length = xs.length
  | [], _ => rfl
  | x :: xs, n => by simp [enumF, enumF_length xs]
theorem enumF_at : ∀ {xs : List MV} {n i : Nat} {x : MV}, xs[i]? = some x → (enumF n xs)[i]? = some (.tup [.int ((n + i : Nat) : Int), x])
  | _ :: _, n, 0, x, h => by simp at h; subst h; rfl
  | _ :: xs, n, i + 1, x, h => by
    have := enumF_at (n := n + 1) (i := i) (xs := xs) (by simpa using h)
    simp only [enumF, List.getElem?_cons_succ]
    rw [this, show n + 1 + i = n + (i + 1) by omega]
theorem wk_enum {v : MV} {xs : List MV} {a : Addr} (h : sqOf μ v = some xs) (nt : ∀ ys, v ≠ .tup ys) (r : RV G B ι H v (.ref a)) : Wk G B ι H (Ite G.K a) (enumF 0 xs, gdOf v xs) := by
  refine ⟨fun H' => ∃ ws, SqL G.K H' a ws ∧ ws.length = xs.length, (Ite G.K a).yld, ⟨?_, ?_, ?_⟩, fun B' ι' H' μ' fu hr g => ?_⟩
  · rintro i H' hi ⟨ws, q, e⟩
    have hi' : i < ws.length := by rw [e, ← enumF_length xs 0]; exact hi
    exact ⟨ws, ws[i], q, by simp [hi']⟩
  · rintro H' ⟨ws, q, e⟩
    exact ⟨ws, q, by rw [e, enumF_length]; exact Nat.le_refl _⟩
  · exact fun i H' x H'' hi q y => y
  · have r' := fu _ _ r
    obtain ⟨b, ws, e, hs, r2, _, hL⟩ := sqOf_rv hr (sq_stays h g) r'
    cases e
    refine ⟨⟨ws, hL nt, r2.length.symm⟩, fun i x H'' hi ⟨T, y, e1, hT, e2, q⟩ => ?_⟩
    subst e1 e2
    obtain ⟨v', hv, rv⟩ := r2.get' (q ws (hL nt))
    exact ⟨_, by have := enumF_at (n := 0) hv; simpa using this, Ext.push hT, hr.pushO hT, .newTup hT (.cons (.int _) (.cons rv .nil))⟩
theorem wk_enumT {xs : List MV} {a : Addr} (r : RV G B ι H (.tup xs) (.ref a)) : Wk G B ι H (IteT G.K a) (enumF 0 xs, []) := by
  refine ⟨fun H' => ∃ ws, SqT G.K H' a ws ∧ ws.length = xs.length, (IteT G.K a).yld, ⟨?_, ?_, ?_⟩, fun B' ι' H' μ' fu hr g => ?_⟩
  · rintro i H' hi ⟨ws, q, e⟩
    have hi' : i < ws.length := by rw [e, ← enumF_length xs 0]; exact hi
    exact ⟨ws, ws[i], q, by simp [hi']⟩
  · rintro H' ⟨ws, q, e⟩
    exact ⟨ws, q, by rw [e, enumF_length]; exact Nat.le_refl _⟩
  · exact fun i H' x H'' hi q y => y
  · cases fu _ _ r with
    | tup hq r2 =>
      rename_i ws
      refine ⟨⟨ws, hq, r2.length.symm⟩, fun i x H'' hi ⟨T, y, e1, hT, e2, q⟩ => ?_⟩
      subst e1 e2
      obtain ⟨v', hv, rv⟩ := r2.get' (q ws hq)
      exact ⟨_, by have := enumF_at (n := 0) hv; simpa using this, Ext.push hT, hr.pushO hT, .newTup hT (.cons (.int _) (.cons rv .nil))⟩
end
section
variable {X : Cx} {G : GI} {W : WX} {wd : Wd}
theorem tup_of {v : MV} {xs : List MV} {μ : Mem} (h : sqOf μ v = some xs) : (v = .tup xs) ∨ ∀ ys, v ≠ .tup ys := by
  cases v with
  | tup ys => simp [sqOf] at h; exact .inl (by rw [h])
  | _ => exact .inr fun ys z => by cases z
theorem s_seq {tg e : Expr} {e' : E} (hK : X.K = G.K) (h : PE X e (tE G W wd e')) : PI X tg e (tI G W wd (.seq e')) :=
  piW (piOr (pi_list h) (pi_tup h)) fun σ H R ⟨B, ι, μ, ρ, er, hr, h⟩ => by
    simp only [evIt] at h
    have h := h.bnd
    rw [hK]
    cases q : ev wd e' ρ μ with
    | none => rw [q] at h; exact h.elim
    | some z =>
      obtain ⟨o, μ1⟩ := z
      rw [q] at h
      cases o with
      | error x => exact .inl ⟨B, ι, μ, ρ, er, hr, by rw [q]; exact h⟩
      | ok v =>
        obtain ⟨p, hp, g⟩ := Out.ok h
        obtain ⟨xs, e, rfl⟩ := Option.map_eq_some_iff.mp hp
        rcases tup_of e with rfl | nt
        · refine .inr ⟨B, ι, μ, ρ, er, hr, by
            rw [q]
            intro w H1 ι1 e1 hr1 r1 _
            obtain ⟨a, vs, rfl, _, _, hT, _⟩ := sqOf_rv hr1 e r1
            exact ⟨a, rfl, ⟨vs, hT ⟨_, rfl⟩⟩, g _ _ ι1 e1 hr1 (wk_tup r1)⟩⟩
        · refine .inl ⟨B, ι, μ, ρ, er, hr, by
            rw [q]
            intro w H1 ι1 e1 hr1 r1 _
            obtain ⟨a, vs, rfl, _, _, _, hL⟩ := sqOf_rv hr1 e r1
            exact ⟨a, rfl, ⟨vs, hL nt⟩, g _ _ ι1 e1 hr1 (wk_list e nt r1)⟩⟩
/-- one argument that is evaluated -/
theorem one_arg {e' : E} {σ : L2.St} {H : Hp} {Q : List V → Hp → Prop} {B ι : List Addr} {μ : Mem} {ρ : Env} {good : MV → Mem → Prop} (er : ER G B ι H ρ σ) (hr : HR G B ι H μ) (h : Out (ev wd e' ρ μ) good (Bad G B ι H W σ))
    (k : ∀ v μ1 w H1 ι1, good v μ1 → Ext G.K ι H ι1 H1 → HR G B ι1 H1 μ1 → RV G B ι1 H1 v w → Q [w] H1) : tEs G W wd (.cons e' .nil) σ H Q := by
  refine ⟨B, ι, μ, ρ, er, hr, ?_⟩
  cases q : ev wd e' ρ μ with
  | none => rw [q] at h; exact h.elim
  | some z =>
    obtain ⟨o, μ1⟩ := z
    rw [q] at h
    cases o with
    | error x => simp only [evs, q, bnd_error]; exact h
    | ok v =>
      simp only [evs, q, bnd_ok]
      intro vs H1 ι1 e1 hr1 rs
      obtain ⟨w, rfl, r⟩ := rs.one
      exact k v μ1 w H1 ι1 h e1 hr1 r
theorem s_enu {elts : List Expr} {kk : Nat} {p pos tpos : Pos} {e : Expr} {e' : E} (hK : X.K = G.K) (hg : Gl X "enumerate") (hm : X.mg "enumerate" = none) (ha : PA X [e] (tEs G W wd (.cons e' .nil))) (hs : starEach [e] X.env = [(false, eval e X.env)]) :
    PI X (.Tuple elts kk tpos) (.Call (.Name "enumerate" p) [e] [] pos) (tI G W wd (.enu e')) :=
  piW (piOr (pi_enum hg hm ha hs) (pi_enumT hg hm ha hs)) fun σ H R ⟨B, ι, μ, ρ, er, hr, h⟩ => by
    simp only [evIt] at h
    have h := h.bnd
    rw [hK]
    cases q : ev wd e' ρ μ with
    | none => rw [q] at h; exact h.elim
    | some z =>
      obtain ⟨o, μ1⟩ := z
      rw [q] at h
      cases o with
      | error x => exact .inl ⟨B, ι, μ, ρ, er, hr, by simp only [evs, q, bnd_error]; exact h⟩
      | ok v =>
        obtain ⟨p, hp, g⟩ := Out.ok h
        obtain ⟨xs, e, rfl⟩ := Option.map_eq_some_iff.mp hp
        rcases tup_of e with rfl | nt
        · refine .inr (one_arg er hr (good := fun v μ' => v = .tup xs ∧ μ' = μ1) (by rw [q]; exact ⟨rfl, rfl⟩) fun v μ2 w H1 ι1 ⟨e1, e2⟩ e3 hr1 r1 => ?_)
          subst e1 e2
          obtain ⟨a, vs, rfl, _, _, hT, _⟩ := sqOf_rv hr1 e r1
          exact ⟨a, vs, rfl, hT ⟨_, rfl⟩, g _ _ ι1 e3 hr1 (wk_enumT r1)⟩
        · refine .inl (one_arg er hr (good := fun v' μ' => v' = v ∧ μ' = μ1) (by rw [q]; exact ⟨rfl, rfl⟩) fun v' μ2 w H1 ι1 ⟨e1, e2⟩ e3 hr1 r1 => ?_)
          subst e1 e2
          obtain ⟨a, vs, rfl, _, _, _, hL⟩ := sqOf_rv hr1 e r1
          exact ⟨a, vs, rfl, hL nt, g _ _ ι1 e3 hr1 (wk_enum e nt r1)⟩
theorem small_i {i : Int} (h : small i = true) : -(2 ^ 62) ≤ i ∧ i < 2 ^ 62 := by
  simp only [small, Bool.and_eq_true, decide_eq_true_eq] at h
  omega
def esLen : ES → Nat
  | .nil => 0
  | .cons _ es => esLen es + 1
theorem evs_len {ρ : Env} : ∀ {es : ES} {μ μ' : Mem} {xs : List MV}, evs wd es ρ μ = some (.ok xs, μ') → xs.length = esLen es
  | .nil, μ, μ', xs, h => by simp [evs] at h; simp [← h.1, esLen]
  | .cons e es, μ, μ', xs, h => by
    simp only [evs] at h
    cases q : ev wd e ρ μ with
    | none => rw [q] at h; cases h
    | some z =>
      obtain ⟨o, μ1⟩ := z
      cases o with
      | error x => rw [q] at h; cases h
      | ok v =>
        rw [q, bnd_ok] at h
        cases q2 : evs wd es ρ μ1 with
        | none => rw [q2] at h; cases h
        | some z2 =>
          obtain ⟨o2, μ2⟩ := z2
          cases o2 with
          | error x => rw [q2] at h; cases h
          | ok ys =>
            rw [q2, bnd_ok] at h
            cases h
            simp [esLen, evs_len q2]
theorem Out.len {ρ : Env} {es : ES} {μ : Mem} {good : List MV → Mem → Prop} {bad : Ex → Mem → Prop} (h : Out (evs wd es ρ μ) good bad) : Out (evs wd es ρ μ) (fun xs μ' => xs.length = esLen es ∧ good xs μ') bad := by
  cases q : evs wd es ρ μ with
  | none => rw [q] at h; exact h.elim
  | some z =>
    obtain ⟨o, μ1⟩ := z
    rw [q] at h
    cases o with
    | error x => exact h
    | ok xs => exact ⟨evs_len q, h⟩
theorem rngOf_1 {xs ys : List MV} (h : rngOf xs = some ys) (hl : xs.length = 1) : ∃ n, xs = [.int n] ∧ small n = true ∧ ys = (List.range n.toNat).map fun (k : Nat) => .int (0 + k) := by
  unfold rngOf at h
  split at h
  · split at h
    · cases h; exact ⟨_, rfl, by assumption, by simp⟩
    · cases h
  · simp at hl
  · simp at hl
  · cases h
theorem rngOf_2 {xs ys : List MV} (h : rngOf xs = some ys) (hl : xs.length = 2) : ∃ a b, xs = [.int a, .int b] ∧ small a = true ∧ small b = true ∧ ys = (List.range (b - a).toNat).map fun (k : Nat) => .int (a + k) := by
  unfold rngOf at h
  split at h
  · simp at hl
  · split at h
    · rename_i z
      cases h; exact ⟨_, _, rfl, z.1, z.2, rfl⟩
    · cases h
  · simp at hl
  · cases h
theorem rngOf_3 {xs ys : List MV} (h : rngOf xs = some ys) (hl : xs.length = 3) : ∃ a b, xs = [.int a, .int b, .int (-1)] ∧ small a = true ∧ small b = true ∧ ys = (List.range (a - b).toNat).map fun (k : Nat) => .int (a + (k : Nat) * (-1)) := by
  unfold rngOf at h
  split at h
  · simp at hl
  · simp at hl
  · split at h
    · rename_i z
      obtain ⟨z1, z2, rfl⟩ := z
      cases h
      refine ⟨_, _, rfl, z1, z2, ?_⟩
      congr 1
      funext k
      rw [Int.mul_neg, Int.mul_one, Int.sub_eq_add_neg]
    · cases h
  · cases h
theorem s_rng1 {tg a : Expr} {es : ES} {p pos : Pos} (hl : esLen es = 1) (hg : Gl X "range") (hm : X.mg "range" = none) (ha : PA X [a] (tEs G W wd es)) (hs : starEach [a] X.env = [(false, eval a X.env)]) :
    PI X tg (.Call (.Name "range" p) [a] [] pos) (tI G W wd (.rng es)) :=
  piW (pi_range1 hg hm ha hs) fun σ H R ⟨B, ι, μ, ρ, er, hr, h⟩ => by
    simp only [evIt] at h
    refine tEs_then er hr h.bnd.len fun xs μ1 vs H1 ι1 ⟨hx, g⟩ e1 hr1 rs => ?_
    obtain ⟨p, hp, g⟩ := Out.ok g
    obtain ⟨ys, e, rfl⟩ := Option.map_eq_some_iff.mp hp
    obtain ⟨n, rfl, sn, rfl⟩ := rngOf_1 e (hx.trans hl)
    obtain ⟨w, rfl, r⟩ := rs.one
    rw [r.int_inv]
    exact ⟨n, rfl, (small_i sn).1, (small_i sn).2, g _ _ ι1 e1 hr1 wk_range⟩
theorem s_rng2 {tg a b : Expr} {es : ES} {p pos : Pos} (hl : esLen es = 2) (hg : Gl X "range") (hm : X.mg "range" = none) (ha : PA X [a, b] (tEs G W wd es)) (hs : starEach [a, b] X.env = [(false, eval a X.env), (false, eval b X.env)]) (hs2 : starEach [b] X.env = [(false, eval b X.env)]) :
    PI X tg (.Call (.Name "range" p) [a, b] [] pos) (tI G W wd (.rng es)) :=
  piW (pi_range2 hg hm ha hs hs2) fun σ H R ⟨B, ι, μ, ρ, er, hr, h⟩ => by
    simp only [evIt] at h
    refine tEs_then er hr h.bnd.len fun xs μ1 vs H1 ι1 ⟨hx, g⟩ e1 hr1 rs => ?_
    obtain ⟨p, hp, g⟩ := Out.ok g
    obtain ⟨ys, e, rfl⟩ := Option.map_eq_some_iff.mp hp
    obtain ⟨i, j, rfl, si, sj, rfl⟩ := rngOf_2 e (hx.trans hl)
    obtain ⟨v, w, rfl, r1, r2⟩ := rs.two
    rw [r1.int_inv, r2.int_inv]
    exact ⟨i, j, rfl, ⟨(small_i si).1, (small_i si).2, (small_i sj).1, (small_i sj).2⟩, g _ _ ι1 e1 hr1 wk_range⟩
theorem RVs.three {B ι : List Addr} {H : Hp} {x y z : MV} {vs : List V} (r : RVs G B ι H [x, y, z] vs) : ∃ u v w, vs = [u, v, w] ∧ RV G B ι H x u ∧ RV G B ι H y v ∧ RV G B ι H z w := by
  cases r with
  | cons h r =>
    obtain ⟨v, w, rfl, q⟩ := r.two
    exact ⟨_, _, _, rfl, h, q⟩
theorem s_rng3 {tg a b c : Expr} {es : ES} {p pos : Pos} (hl : esLen es = 3) (hg : Gl X "range") (hm : X.mg "range" = none) (ha : PA X [a, b, c] (tEs G W wd es)) (hs : starEach [a, b, c] X.env = (false, eval a X.env) :: starEach [b, c] X.env) (hpl : (backTo pos (starEach [b, c] X.env)).any (·.1) = false) :
    PI X tg (.Call (.Name "range" p) [a, b, c] [] pos) (tI G W wd (.rng es)) :=
  piW (pi_range3 hg hm ha hs hpl) fun σ H R ⟨B, ι, μ, ρ, er, hr, h⟩ => by
    simp only [evIt] at h
    refine tEs_then er hr h.bnd.len fun xs μ1 vs H1 ι1 ⟨hx, g⟩ e1 hr1 rs => ?_
    obtain ⟨p, hp, g⟩ := Out.ok g
    obtain ⟨ys, e, rfl⟩ := Option.map_eq_some_iff.mp hp
    obtain ⟨i, j, rfl, si, sj, rfl⟩ := rngOf_3 e (hx.trans hl)
    obtain ⟨u, v, w, rfl, r1, r2, r3⟩ := rs.three
    rw [r1.int_inv, r2.int_inv, r3.int_inv]
    exact ⟨i, j, -1, _, rfl, RgC.neg (small_i si).1 (small_i si).2 (small_i sj).1 (small_i sj).2, g _ _ ι1 e1 hr1 wk_rangeC⟩
end
end MI
end
section
set_option Elab.async false
set_option linter.all false
set_option maxHeartbeats 4000000
/-! MI: what is written: places, targets. -/
namespace MI
open PySem PySem.Spec PyProof.Rows L2
section
variable {G : GI} {B ι : List Addr} {H : Hp} {μ : Mem}
theorem wr_ext {k : Nat} {a : Addr} {xs : List V} {o : HO} (ho : ∀ ps, o ≠ .tbl ps) (hn : ι[k]? = some a) (h : H a = some (.lst xs)) : Ext G.K ι H ι (upd H a o) :=
  Ext.upd hn (fun ys z => by rw [h] at z; cases z) (fun ob ys z => by rw [h] at z; cases z) ho
theorem wr_extD {k : Nat} {a : Addr} {xs : List (Key × V)} {o : HO} (ho : ∀ ps, o ≠ .tbl ps) (hn : ι[k]? = some a) (h : H a = some (.dK xs)) : Ext G.K ι H ι (upd H a o) :=
  Ext.upd hn (fun ys z => by rw [h] at z; cases z) (fun ob ys z => by rw [h] at z; cases z) ho
theorem wr_lst {k : Nat} {a : Addr} {vs ws : List V} {ys : List MV} (hr : HR G B ι H μ) (hn : ι[k]? = some a) (h : H a = some (.lst vs)) (r : RVs G B ι H ys ws) :
    Ext G.K ι H ι (upd H a (.lst ws)) ∧ HR G B ι (upd H a (.lst ws)) (μ.set k (.lst ys)) := by
  have e : Ext G.K ι H ι (upd H a (.lst ws)) := wr_ext (fun _ z => by cases z) hn h
  exact ⟨e, hr.set (u := .lst ys) hn e ⟨ws, upd_same, r.mono e⟩ (tabs_lst hr.tb h)⟩
theorem wr_dic {k : Nat} {a : Addr} {vs ws : List (Key × V)} {ys : List (Key × MV)} (hr : HR G B ι H μ) (hn : ι[k]? = some a) (h : H a = some (.dK vs)) (r : RKs G B ι H ys ws) :
    Ext G.K ι H ι (upd H a (.dK ws)) ∧ HR G B ι (upd H a (.dK ws)) (μ.set k (.dic ys)) := by
  have e : Ext G.K ι H ι (upd H a (.dK ws)) := wr_extD (fun _ z => by cases z) hn h
  exact ⟨e, hr.set (u := .dic ys) hn e ⟨ws, upd_same, r.mono e⟩ (tabs_dic hr.tb h)⟩
theorem RKs.any {k : Key} {kvs : List (Key × MV)} {kws : List (Key × V)} (r : RKs G B ι H kvs kws) : (kvs.any fun kv => decide (kv.1 = k)) = kws.any fun kv => decide (kv.1 = k) := by
  induction r with
  | nil => rfl
  | cons _ _ ih => simp only [List.any_cons, ih]
theorem RKs.snoc {k : Key} {x : MV} {v : V} {kvs : List (Key × MV)} {kws : List (Key × V)} (r : RKs G B ι H kvs kws) (h : RV G B ι H x v) : RKs G B ι H (kvs ++ [(k, x)]) (kws ++ [(k, v)]) := by
  induction r with
  | nil => exact .cons h .nil
  | cons q _ ih => exact .cons q ih
theorem RKs.over {k : Key} {x : MV} {v : V} {kvs : List (Key × MV)} {kws : List (Key × V)} (h : RV G B ι H x v) (r : RKs G B ι H kvs kws) : RKs G B ι H (kvs.map fun kv => if kv.1 = k then (kv.1, x) else kv) (kws.map fun kv => if kv.1 = k then (kv.1, v) else kv) := by
  induction r with
  | nil => exact .nil
  | @cons k2 x2 xs2 v2 vs2 q _ ih =>
    by_cases e : k2 = k
    · simp only [List.map_cons, e, if_true]; exact .cons h ih
    · simp only [List.map_cons, e, if_false]; exact .cons q ih
theorem RKs.put {k : Key} {x : MV} {v : V} {kvs : List (Key × MV)} {kws : List (Key × V)} (r : RKs G B ι H kvs kws) (h : RV G B ι H x v) : RKs G B ι H (setK kvs k x) (putK kws k v) := by
  unfold setK putK
  rw [r.any (k := k)]
  split
  · exact r.over h
  · exact r.snoc h
/-- what a subscript's store asks -/
def rSetA : TSet := fun o i v H Q => rSetL o i v H Q ∨ rSetD o i v H Q
theorem set_any {X : Cx} (hu : X.A.units + 1 < cLine) : PSet X rSetA := fun pins s σ H o i v ov iv u Q I ro ri rv h =>
  h.elim (set_list pins s σ H o i v ov iv u Q I ro ri rv) (set_dict hu pins s σ H o i v ov iv u Q I ro ri rv)
theorem asgIx_ok {x y z : MV} {o i v : V} {μ' : Mem} {Q : Hp → Prop} (hr : HR G B ι H μ) (h : asgIx μ x y z = some μ') (ro : RV G B ι H x o) (ri : RV G B ι H y i) (rv : RV G B ι H z v)
    (q : ∀ H', Ext G.K ι H ι H' → HR G B ι H' μ' → Q H') : rSetA o i v H Q := by
  unfold asgIx at h
  split at h
  · rename_i k
    cases ro with
    | loc hn =>
      rename_i a
      split at h
      · rename_i xs e
        obtain ⟨a', hn', vs, h1, rs⟩ := hr.get e
        rw [hn] at hn'
        cases hn'
        split at h
        · rename_i j
          obtain ⟨m, hm, rfl⟩ := Option.map_eq_some_iff.mp h
          obtain ⟨e1, hr'⟩ := wr_lst hr hn h1 (rs.set rv m)
          exact .inl ⟨a, vs, j, m, rfl, ri.int_inv, h1, by rw [← rs.length]; exact hm, q _ e1 hr'⟩
        · cases h
      · rename_i kvs e
        obtain ⟨a', hn', vs, h1, rs⟩ := hr.get e
        rw [hn] at hn'
        cases hn'
        obtain ⟨key, hk, h⟩ := Option.bind_eq_some_iff.mp h
        split at h
        · rename_i hl
          cases h
          obtain ⟨e1, hr'⟩ := wr_dic hr hn h1 (rs.put (k := key) rv)
          have e2 := keyOf_rv hk ri
          subst e2
          exact .inr ⟨a, _, rfl, DPut.k h1 (by rw [← rs.length]; exact most_lt hl), q _ e1 hr'⟩
        · cases h
      · cases h
  · cases h
end
mutual
def gNames : G → List Nat
  | .nm i => [i]
  | .tp gs => gsNames gs
  | .ix _ _ => []
def gsNames : GS → List Nat
  | .nil => []
  | .cons g gs => gNames g ++ gsNames gs
end
def tG (G : GI) (wd : Wd) (g : MI.G) : TG := fun v σ H Q => ∃ B ι μ ρ x ρ' μ', ER G B ι H ρ σ ∧ HR G B ι H μ ∧ RV G B ι H x v ∧ asg wd g x ρ μ = some (ρ', μ') ∧
  ∀ σ' H' ι', Ext G.K ι H ι' H' → HR G B ι' H' μ' → ER G B ι' H' ρ' σ' → σ'.length = σ.length → (∀ i, i ∉ gNames g → σ'[i]? = σ[i]?) → Q σ' H'
def tGs (G : GI) (wd : Wd) (g : GS) : TGs := fun vs σ H Q => ∃ B ι μ ρ xs ρ' μ', ER G B ι H ρ σ ∧ HR G B ι H μ ∧ RVs G B ι H xs vs ∧ asgs wd g xs ρ μ = some (ρ', μ') ∧
  ∀ σ' H' ι', Ext G.K ι H ι' H' → HR G B ι' H' μ' → ER G B ι' H' ρ' σ' → σ'.length = σ.length → (∀ i, i ∉ gsNames g → σ'[i]? = σ[i]?) → Q σ' H'
theorem pgW {X : Cx} {e : Expr} {t t' : TG} (h : PG X e t) (k : ∀ v σ H Q, t' v σ H Q → t v σ H Q) : PG X e t' := ⟨fun pins s σ H v u Q I r q => h.run pins s σ H v u Q I r (k v σ H Q q)⟩
theorem pgOr {X : Cx} {e : Expr} {t t' : TG} (h : PG X e t) (h' : PG X e t') : PG X e (fun v σ H Q => t v σ H Q ∨ t' v σ H Q) := ⟨fun pins s σ H v u Q I r q => q.elim (h.run pins s σ H v u Q I r) (h'.run pins s σ H v u Q I r)⟩
theorem pgsW {X : Cx} {e : List Expr} {t t' : TGs} (h : PGs X e t) (k : ∀ v σ H Q, t' v σ H Q → t v σ H Q) : PGs X e t' := ⟨fun pins s σ H v u Q I r q => h.run pins s σ H v u Q I r (k v σ H Q q)⟩
section
variable {X : Cx} {G : GI} {W : WX} {wd : Wd} {B ι : List Addr} {H : Hp}
theorem ER.put {ρ : Env} {σ : L2.St} {i : Nat} {x : MV} {v : V} (er : ER G B ι H ρ σ) (r : RV G B ι H x v) : ER G B ι H (ρ.set i (some x)) (σ.set i (some v)) := by
  refine ⟨by simp [er.len], fun j y h => ?_⟩
  by_cases e : i = j
  · subst e
    have hl : i < ρ.length := by
      have := (List.getElem?_eq_some_iff.mp h).1
      simpa using this
    rw [List.getElem?_set_self hl] at h
    cases h
    exact ⟨v, by rw [List.getElem?_set_self (by rw [← er.len]; exact hl)], r⟩
  · rw [List.getElem?_set_ne e] at h
    rw [List.getElem?_set_ne e]
    exact er.get j y h
theorem g_nm {i : Nat} {x : Str} {pos : Pos} (hN : X.N.Nodup) (hi : X.N[i]? = some x) (hx : Loc X.env.scope x) (hf : X.fn x = true ∨ X.env.scope.names.lookup x = some .local) : PG X (.Name x pos) (tG G wd (.nm i)) :=
  pgW (pg_name hN hi hx hf) fun v σ H Q ⟨B, ι, μ, ρ, x, ρ', μ', er, hr, r, h, q⟩ => by
    simp only [asg] at h
    split at h
    · cases h
      refine q _ _ ι Ext.refl hr (er.put r) (by simp) fun j hj => ?_
      rw [List.getElem?_set_ne]
      rintro rfl
      exact hj (by simp [gNames])
    · cases h
theorem gs_nil : PGs X [] (tGs G wd .nil) :=
  pgsW pgs_nil fun vs σ H Q ⟨B, ι, μ, ρ, xs, ρ', μ', er, hr, r, h, q⟩ => by
    cases r with
    | nil =>
      simp only [asgs] at h
      cases h
      exact ⟨rfl, q _ _ ι Ext.refl hr er rfl fun _ _ => rfl⟩
    | cons _ _ => simp [asgs] at h
theorem gs_cons {e : Expr} {es : List Expr} {g : MI.G} {gs : GS} (h1 : PG X e (tG G wd g)) (h2 : PGs X es (tGs G wd gs)) (hs : (assignEach (e :: es) X.env).map (·.2) = assign e X.env :: (assignEach es X.env).map (·.2)) : PGs X (e :: es) (tGs G wd (.cons g gs)) :=
  pgsW (pgs_cons h1 h2 hs) fun vs σ H Q ⟨B, ι, μ, ρ, xs, ρ', μ', er, hr, r, h, q⟩ => by
    cases r with
    | nil => simp [asgs] at h
    | cons r rs =>
      simp only [asgs] at h
      split at h
      · rename_i ρ1 μ1 e1
        refine ⟨_, _, rfl, B, ι, μ, ρ, _, ρ1, μ1, er, hr, r, e1, fun σ1 H1 ι1 x1 hr1 er1 hl1 hn1 => ?_⟩
        refine ⟨B, ι1, μ1, ρ1, _, ρ', μ', er1, hr1, rs.mono x1, h, fun σ2 H2 ι2 x2 hr2 er2 hl2 hn2 => q σ2 H2 ι2 (x1.trans x2) hr2 er2 (hl2.trans hl1) fun i hi => ?_⟩
        simp only [gsNames, List.mem_append, not_or] at hi
        rw [hn2 i hi.2, hn1 i hi.1]
      · cases h
theorem g_tp {es : List Expr} {k : Nat} {pos : Pos} {gs : GS} {n : Nat} (hK : X.K = G.K) (hc : X.calm = true) (h : PGs X es (tGs G wd gs)) (hn : (assignEach es X.env).length = n) (hst : (assignEach es X.env).findIdx? (·.1) = none) (hl : ∀ xs ρ μ, asgs wd gs xs ρ μ ≠ none → xs.length = n) :
    PG X (.Tuple es k pos) (tG G wd (.tp gs)) :=
  pgW (pgOr (pg_tup hc h hn hst) (pg_unl hc h hn hst)) fun v σ H Q ⟨B, ι, μ, ρ, x, ρ', μ', er, hr, r, h, q⟩ => by
    have hlen : ∀ xs, asgs wd gs xs ρ μ = some (ρ', μ') → xs.length = n := fun xs z => hl xs ρ μ (by rw [z]; simp)
    have other : ((lsOf μ x).bind fun xs => asgs wd gs xs ρ μ) = some (ρ', μ') → (∀ ys, x ≠ .tup ys) → gUnl X.K n (tGs G wd gs) v σ H Q := fun z _ => by
      obtain ⟨xs, e, z⟩ := Option.bind_eq_some_iff.mp z
      obtain ⟨a, vs, rfl, h1, rs⟩ := lsOf_rv hr e r
      exact ⟨a, vs, rfl, .inl (.inl h1), by rw [← rs.length]; exact hlen _ z, B, ι, μ, ρ, xs, ρ', μ', er, hr, rs, z, q⟩
    cases x with
    | tup xs =>
      simp only [asg] at h
      cases r with
      | tup hq rs => exact .inl ⟨_, _, rfl, by rw [hK]; exact hq, by rw [← rs.length]; exact hlen _ h, B, ι, μ, ρ, xs, ρ', μ', er, hr, rs, h, q⟩
    | _ => exact .inr (other (by simpa only [asg] using h) (fun ys z => by cases z))
theorem g_ix {o i : Expr} {a b : E} {pos : Pos} (hu : X.A.units + 1 < cLine) (ho : PE X o (tE G W wd a)) (hi : PE X i (tE G W wd b))
    (ha : ∀ v, assign (.Subscript o i pos) X.env v = (do
      let ov ← holding [v] (eval o X.env)
      let iv ← holding [v, ov] (eval i X.env)
      standAt pos
      holding [v, ov, iv] (setItem ov iv v)
      release [v, ov, iv] [])) : PG X (.Subscript o i pos) (tG G wd (.ix a b)) :=
  pgW (pg_sub ho hi (set_any hu) ha) fun v σ H Q ⟨B, ι, μ, ρ, x, ρ', μ', er, hr, r, h, q⟩ => by
    simp only [asg] at h
    split at h
    · rename_i y μ1 e1
      split at h
      · rename_i z μ2 e2
        obtain ⟨μ3, h3, h⟩ := Option.map_eq_some_iff.mp h
        cases h
        refine tE_then er hr (good := fun v' μ' => v' = y ∧ μ' = μ1) (by rw [e1]; exact ⟨rfl, rfl⟩) fun v1 μ1' w1 H1 ι1 ⟨z1, z2⟩ x1 hr1 r1 _ => ?_
        subst z1 z2
        refine tE_then (er.mono x1) hr1 (good := fun v' μ' => v' = z ∧ μ' = μ2) (by rw [e2]; exact ⟨rfl, rfl⟩) fun v2 μ2' w2 H2 ι2 ⟨z1, z2⟩ x2 hr2 r2 _ => ?_
        subst z1 z2
        refine asgIx_ok hr2 h3 (r1.mono x2) r2 (r.mono (x1.trans x2)) fun H3 x3 hr3 => ?_
        have x123 := (x1.trans x2).trans x3
        exact q σ H3 ι2 x123 hr3 (er.mono x123) rfl fun _ _ => rfl
      · cases h
    · cases h
end
end MI
end
section
set_option Elab.async false
set_option linter.all false
set_option maxHeartbeats 4000000
/-! MI: comprehensions. -/
namespace MI
open PySem PySem.Spec PyProof.Rows L2
section
variable {G : GI} {B ι ι' : List Addr} {H H' : Hp} {D : Addr}
mutual
theorem RV.later {v : MV} {w : V} (e : Ext G.K ι H ι' H') (h : H D = none) : RV G B ι H v w → RV G (D :: B) ι' H' v w
  | .non => .non
  | .bl b => .bl b
  | .int i => .int i
  | .str s => .str s
  | .tup q r => .tup (e.tup _ _ q) (RVs.later e h r)
  | .lv q nb ni r => .lv (e.oth _ _ q ni (fun _ z => by cases z)) (by rw [List.mem_cons, not_or]; exact ⟨ne_of_none q h, nb⟩) (e.ni q (fun _ z => by cases z) ni) (RVs.later e h r)
  | .exo q qd nb ni r => .exo (e.oth _ _ q ni.1 exT_tbl) (e.oth _ _ qd ni.2 (fun _ z => by cases z)) (by simp only [List.mem_cons, not_or]; exact ⟨⟨ne_of_none q h, nb.1⟩, ne_of_none qd h, nb.2⟩) ⟨e.ni q exT_tbl ni.1, e.ni qd (fun _ z => by cases z) ni.2⟩ (RV.later e h r)
  | .thk a => .thk a
  | .loc q => .loc (by
      obtain ⟨t, rfl⟩ := e.pre
      rw [List.getElem?_append_left (List.getElem?_eq_some_iff.mp q).1]; exact q)
  | .flH q ni r => .flH (e.oth _ _ q ni (fun _ z => by cases z)) (e.ni q (fun _ z => by cases z) ni) (RVs.later e h r)
  | .flK q r => .flK q (RVs.later e h r)
theorem RVs.later {v : List MV} {w : List V} (e : Ext G.K ι H ι' H') (h : H D = none) : RVs G B ι H v w → RVs G (D :: B) ι' H' v w
  | .nil => .nil
  | .cons q r => .cons (RV.later e h q) (RVs.later e h r)
end
theorem ER.later {ρ : Env} {σ : L2.St} (e : Ext G.K ι H ι' H') (h : H D = none) (r : ER G B ι H ρ σ) : ER G (D :: B) ι' H' ρ σ :=
  ⟨r.len, fun i v q => let ⟨w, a, b⟩ := r.get i v q; ⟨w, a, b.later e h⟩⟩
/-! the new list grows -/
mutual
theorem RV.grow {ws ws' : List V} {v : MV} {w : V} (h : H D = some (.lst ws)) : RV G (D :: B) ι H v w → RV G (D :: B) ι (upd H D (.lst ws')) v w
  | .non => .non
  | .bl b => .bl b
  | .int i => .int i
  | .str s => .str s
  | .tup q r => .tup (by
      rcases q with (q | ⟨ob, q⟩) | q
      · exact .inl (.inl (by rw [upd_ne (by rintro rfl; rw [h] at q; cases q)]; exact q))
      · exact .inl (.inr ⟨ob, by rw [upd_ne (by rintro rfl; rw [h] at q; cases q)]; exact q⟩)
      · exact .inr q) (RVs.grow h r)
  | .lv q nb ni r => .lv (by rw [upd_ne (by rintro rfl; exact nb List.mem_cons_self)]; exact q) nb ni (RVs.grow h r)
  | .loc q => .loc q
  | .flH q ni r => .flH (by rw [upd_ne (by rintro rfl; rw [h] at q; cases q)]; exact q) ni (RVs.grow h r)
  | .flK q r => .flK q (RVs.grow h r)
  | .exo q qd nb ni r => .exo (by rw [upd_ne (by rintro rfl; exact nb.1 List.mem_cons_self)]; exact q) (by rw [upd_ne (by rintro rfl; exact nb.2 List.mem_cons_self)]; exact qd) nb ni (RV.grow h r)
  | .thk a => .thk a
theorem RVs.grow {ws ws' : List V} {v : List MV} {w : List V} (h : H D = some (.lst ws)) : RVs G (D :: B) ι H v w → RVs G (D :: B) ι (upd H D (.lst ws')) v w
  | .nil => .nil
  | .cons q r => .cons (RV.grow h q) (RVs.grow h r)
end
theorem RKs.grow {ws ws' : List V} {v : List (Key × MV)} {w : List (Key × V)} (h : H D = some (.lst ws)) (r : RKs G (D :: B) ι H v w) : RKs G (D :: B) ι (upd H D (.lst ws')) v w := by
  induction r with
  | nil => exact .nil
  | cons q _ ih => exact .cons (q.grow h) ih
theorem HR.grow {ws ws' : List V} {μ : Mem} (h : H D = some (.lst ws)) (hr : HR G (D :: B) ι H μ) : HR G (D :: B) ι (upd H D (.lst ws')) μ where
  len := hr.len
  nd := hr.nd
  tb := tabs_lst hr.tb h
  ce := ⟨hr.ce.len, fun i v e => let ⟨w, q, z⟩ := hr.ce.get i v e; ⟨w, q, z.grow h⟩⟩
  co := fun p hp => ⟨by rw [upd_ne (fun z => (hr.co p hp).2.2 (by rw [z]; exact List.mem_cons_self))]; exact (hr.co p hp).1, (hr.co p hp).2⟩
  bu := fun b hb => ⟨by
    by_cases e : b = D
    · subst e; exact ⟨_, upd_same, .l⟩
    · rw [upd_ne e]
      exact (hr.bu b hb).1, (hr.bu b hb).2⟩
  ob := fun n b u h1 h2 => by
    have hne : b ≠ D := by
      rintro rfl
      exact (hr.bu b List.mem_cons_self).2 (List.mem_of_getElem? h1)
    have q := hr.ob n b u h1 h2
    cases u with
    | lst xs => obtain ⟨vs, q, r⟩ := q; exact ⟨vs, by rw [upd_ne hne]; exact q, r.grow h⟩
    | dic xs => obtain ⟨vs, q, r⟩ := q; exact ⟨vs, by rw [upd_ne hne]; exact q, r.grow h⟩
theorem Ext.grow {K : PySem.W.Frag} {ws : List V} {o : HO} (e : Ext K ι H ι' H') (hn : H D = none) (h : H' D = some (.lst ws)) : Ext K ι H ι' (L2.upd H' D o) where
  pre := e.pre
  fr := e.fr
  tup := fun a vs q => by
    rcases e.tup a vs q with (q | ⟨ob, q⟩) | q
    · exact .inl (.inl (by rw [upd_ne (by rintro rfl; rw [h] at q; cases q)]; exact q))
    · exact .inl (.inr ⟨ob, by rw [upd_ne (by rintro rfl; rw [h] at q; cases q)]; exact q⟩)
    · exact .inr q
  oth := fun a u q hi ht => by rw [upd_ne (ne_of_none q hn)]; exact e.oth a u q hi ht
  thr := fun a u q n => by
    have z : a ≠ D := ne_of_none q hn
    rw [upd_ne z]; exact e.thr a u q n
end
section
theorem wipe_len (ρ : Env) : ∀ vs : List Nat, (wipe ρ vs).length = ρ.length
  | [] => rfl
  | v :: vs => by simp only [wipe, List.length_set, wipe_len ρ vs]
theorem wipe_get {ρ : Env} {i : Nat} {x : MV} : ∀ {vs : List Nat}, (wipe ρ vs)[i]? = some (some x) → ρ[i]? = some (some x) ∧ i ∉ vs
  | [], h => ⟨h, by simp⟩
  | v :: vs, h => by
    simp only [wipe] at h
    by_cases hi : v = i
    · subst hi
      by_cases hv : v < (wipe ρ vs).length
      · rw [List.getElem?_set_self hv] at h; cases h
      · rw [List.getElem?_eq_none (by simpa using hv)] at h; cases h
    · rw [List.getElem?_set_ne hi] at h
      obtain ⟨h1, h2⟩ := wipe_get h
      exact ⟨h1, by simp only [List.mem_cons, not_or]; exact ⟨fun e => hi e.symm, h2⟩⟩
theorem wipe_at {σ : L2.St} {i : Nat} : ∀ {vs : List Nat}, (L2.wipe σ vs)[i]? = if i ∈ vs ∧ i < σ.length then some none else σ[i]?
  | [] => by simp [L2.wipe]
  | v :: vs => by
    simp only [L2.wipe]
    by_cases hi : v = i
    · subst hi
      by_cases hv : v < σ.length
      · rw [List.getElem?_set_self (by rw [wipe_length]; exact hv)]; simp [hv]
      · rw [List.getElem?_eq_none (by rw [List.length_set, wipe_length]; omega)]
        simp [hv]
    · rw [List.getElem?_set_ne hi, wipe_at]
      have : (i = v) ↔ False := by constructor <;> intro z; exact absurd z.symm hi; exact z.elim
      simp only [List.mem_cons, this, false_or]
theorem wipe_two {σ σ' : L2.St} {vs : List Nat} (hl : σ'.length = σ.length) (h : ∀ i, i ∉ vs → σ'[i]? = (L2.wipe σ vs)[i]?) : L2.wipe σ' vs = L2.wipe σ vs := by
  apply List.ext_getElem?
  intro i
  rw [wipe_at, wipe_at]
  by_cases hi : i ∈ vs
  · by_cases hl2 : i < σ.length
    · simp [hi, hl2, hl]
    · simp only [hi, true_and, hl, hl2, if_false]
      rw [List.getElem?_eq_none (by omega), List.getElem?_eq_none (by omega)]
  · have := h i hi
    rw [wipe_at] at this
    simp only [hi, false_and, if_false] at this ⊢
    exact this
end
section
variable {X : Cx} {G : GI} {W : WX} {wd : Wd} {B ι : List Addr} {H : Hp}
theorem ER.wipe {ρ : Env} {σ : L2.St} (er : ER G B ι H ρ σ) (vs : List Nat) : ER G B ι H (MI.wipe ρ vs) (L2.wipe σ vs) :=
  ⟨by rw [wipe_len, wipe_length]; exact er.len, fun i v h => by
    obtain ⟨h1, h2⟩ := wipe_get h
    obtain ⟨w, q, r⟩ := er.get i v h1
    exact ⟨w, by rw [wipe_at, if_neg (fun z => h2 z.1)]; exact q, r⟩⟩
theorem lcmL_ok {gd : List (Nat × List MV)} {step : MV → Mem → R (Option MV)} : ∀ {xs acc : List MV} {μ : Mem}, lcmL gd step xs acc μ ≠ none → ∃ ys μ', lcmL gd step xs acc μ = some (.ok ys, μ')
  | [], acc, μ, h => by
    unfold lcmL at h ⊢
    split at h
    · rename_i z; rw [if_pos z]; exact ⟨_, _, rfl⟩
    · exact absurd rfl h
  | x :: xs, acc, μ, h => by
    unfold lcmL at h ⊢
    split at h
    · rename_i z
      rw [if_pos z]
      split at h
      · exact lcmL_ok h
      · exact lcmL_ok h
      · exact absurd rfl h
    · exact absurd rfl h
theorem lcmL_gd {gd : List (Nat × List MV)} {step : MV → Mem → R (Option MV)} : ∀ {xs acc : List MV} {μ : Mem}, lcmL gd step xs acc μ ≠ none → gdOk μ gd = true
  | [], acc, μ, h => by
    unfold lcmL at h
    split at h
    · assumption
    · exact absurd rfl h
  | x :: xs, acc, μ, h => by
    unfold lcmL at h
    split at h
    · rename_i z; exact z.1
    · exact absurd rfl h
/-- errors stay where they are -/
abbrev W0 : WX := fun _ _ _ _ => False
/-- what a turn of a comprehension does -/
noncomputable def lcStep (wd : Wd) (own : List Nat) (g : MI.G) (c e : E) (ρ : Env) (x : MV) (μ : Mem) : R (Option MV) := match asg wd g x (MI.wipe ρ own) μ with
  | some (ρ', μ') => match ev wd c ρ' μ' with
    | some (.ok (.bl true), μ1) => bnd (ev wd e ρ' μ1) fun y μ2 => some (.ok (some y), μ2)
    | some (.ok (.bl false), μ1) => some (.ok none, μ1)
    | _ => none
  | none => none
theorem ev_lcm {own : List Nat} {it : It} {g : MI.G} {c e : E} {ρ : Env} {μ : Mem} : ev wd (.lcm own it g c e) ρ μ = bnd (evIt wd it ρ μ) fun p μ => bnd (lcmL p.2 (lcStep wd own g c e ρ) p.1 [] μ) fun ys μ => some (.ok (.lv ys), μ) := by
  rw [ev]
  rfl
theorem drop_at {α : Type} {xs : List α} {i : Nat} {x : α} (h : xs[i]? = some x) : xs.drop i = x :: xs.drop (i + 1) := by
  obtain ⟨hl, e⟩ := List.getElem?_eq_some_iff.mp h
  rw [List.drop_eq_getElem_cons hl, e]
theorem lcm_of {own : List Nat} {it : It} {g : MI.G} {c e : E} {σ : L2.St} {Q : VK} (hg : ∀ i ∈ gNames g, i ∈ own) (h : tE G W wd (.lcm own it g c e) σ H Q) :
    tLc (tI G W wd it) (tG G wd g) (tT G W0 wd c) (tE G W0 wd e) own σ H Q := by
  obtain ⟨B, ι, μ, ρ, er, hr, h⟩ := h
  rw [ev_lcm] at h
  refine ⟨B, ι, μ, ρ, er, hr, h.bnd.mono (fun p μ1 h J H1 ι1 e1 hr1 wk => ?_) fun _ _ q => q⟩
  intro D hD
  have hne : lcmL p.2 (lcStep wd own g c e ρ) p.1 [] μ1 ≠ none := fun z => by rw [z] at h; exact h
  obtain ⟨fin, μf, hf⟩ := lcmL_ok hne
  rw [hf] at h
  have gd : Gd G B ι H true Q (.lv fin) μf := h
  clear h hne
  obtain ⟨Gw, Y, wlk, wk⟩ := wk
  refine lc_it wlk (fun i H' => ∃ ι' μ' acc ws, Ext G.K ι1 H1 ι' H' ∧ HR G (D :: B) ι' H' μ' ∧ H' D = some (.lst ws) ∧ RVs G (D :: B) ι' H' acc ws ∧ lcmL p.2 (lcStep wd own g c e ρ) (p.1.drop i) acc μ' = some (.ok fin, μf)) ?_ ?_ ?_ ?_
  · exact ⟨ι1, μ1, [], [], Ext.push hD, hr1.busy hD .l, upd_same, .nil, hf⟩
  · rintro i H' hi ⟨ι', μ', acc, ws, x1, x2, x3, x4, x5⟩
    exact (wk _ _ _ _ (fun _ _ r => r.later x1 hD) x2 (lcmL_gd (by rw [x5]; simp))).1
  · rintro i x H' H'' hi ⟨ι', μ', acc, ws, x1, x2, x3, x4, x5⟩ y
    have fu : Fut G B ι1 H1 (D :: B) ι' H' := fun _ _ r => r.later x1 hD
    have gok := lcmL_gd (by rw [x5]; simp : lcmL p.2 (lcStep wd own g c e ρ) (p.1.drop i) acc μ' ≠ none)
    obtain ⟨v, hv, y1, y2, y3⟩ := (wk _ _ _ _ fu x2 gok).2 i x H'' hi y
    rw [drop_at hv] at x5
    unfold lcmL at x5
    have erw : ER G (D :: B) ι' H'' (MI.wipe ρ own) (L2.wipe σ own) := (((er.mono e1).later x1 hD).mono y1).wipe own
    have hD'' : H'' D = some (.lst ws) := y1.oth _ _ x3 (x2.bu D List.mem_cons_self).2 (fun _ z => by cases z)
    split at x5
    · rename_i z
      obtain ⟨z1, z2⟩ := z
      cases hs : lcStep wd own g c e ρ v μ' with
      | none => rw [hs] at x5; cases x5
      | some rr =>
        unfold lcStep at hs
        split at hs
        · rename_i ρ2 μ2 ha
          refine ⟨D :: B, ι', μ', MI.wipe ρ own, v, ρ2, μ2, erw, y2, y3, ha, fun σ3 H3 ι3 a1 a2 a3 a4 a5 => ⟨?_, ?_⟩⟩
          · refine wipe_two (a4.trans (wipe_length σ own)) fun j hj => a5 j fun hm => hj (hg j hm)
          · have step : ∀ {H4 : Hp} {ι4 : List Addr}, Ext G.K ι3 H3 ι4 H4 → Ext G.K ι1 H1 ι4 H4 := fun q => ((x1.trans y1).trans a1).trans q
            have hD3 : H3 D = some (.lst ws) := a1.oth _ _ hD'' (y2.bu D List.mem_cons_self).2 (fun _ z => by cases z)
            split at hs
            · rename_i μ4 hc
              refine tE_then a3 a2 (good := fun v' μ' => v' = .bl true ∧ μ' = μ4) (by rw [hc]; exact ⟨rfl, rfl⟩) fun v1 μ1' w1 H4 ι4 ⟨q1, q2⟩ b1 b2 b3 _ => ?_
              subst q1 q2
              refine ⟨true, b3.bl_inv, ?_⟩
              refine iteT ?_
              have hD4 : H4 D = some (.lst ws) := b1.oth _ _ hD3 (a2.bu D List.mem_cons_self).2 (fun _ z => by cases z)
              cases he : ev wd e ρ2 μ1' with
              | none => rw [he] at hs; cases hs
              | some ee =>
                obtain ⟨oo, μ5⟩ := ee
                rw [he] at hs
                cases oo with
                | error xx =>
                  cases hs
                  rename_i hsx
                  have hsx' : lcStep wd own g c e ρ v μ' = some (.error xx, μ5) := by
                    unfold lcStep
                    rw [ha]
                    simp only [hc, he, bnd_error]
                  rw [hsx'] at x5
                  cases x5
                | ok yv =>
                  have hsx' : lcStep wd own g c e ρ v μ' = some (.ok (some yv), μ5) := by
                    unfold lcStep
                    rw [ha]
                    simp only [hc, he, bnd_ok]
                  rw [hsx'] at x5
                  have x5 : lcmL p.2 (lcStep wd own g c e ρ) (p.1.drop (i + 1)) (acc ++ [yv]) μ5 = some (.ok fin, μf) := x5
                  refine tE_then (a3.mono b1) b2 (good := fun v' μ' => v' = yv ∧ μ' = μ5) (by rw [he]; exact ⟨rfl, rfl⟩) fun v2 μ2' w2 H5 ι5 ⟨q1, q2⟩ c1 c2 c3 _ => ?_
                  subst q1 q2
                  have hD5 : H5 D = some (.lst ws) := c1.oth _ _ hD4 (b2.bu D List.mem_cons_self).2 (fun _ z => by cases z)
                  have x4' := (((x4.mono y1).mono a1).mono b1).mono c1
                  refine ⟨ws, hD5, by rw [← x4.length]; exact most_lt z2, ι5, _, _, _, (step (b1.trans c1)).grow hD hD5, c2.grow hD5, upd_same, (x4'.append (.cons c3 .nil)).grow hD5, x5⟩
            · rename_i μ4 hc
              cases hs
              have hsx' : lcStep wd own g c e ρ v μ' = some (.ok none, μ4) := by
                unfold lcStep
                rw [ha]
                simp only [hc]
              rw [hsx'] at x5
              have x5 : lcmL p.2 (lcStep wd own g c e ρ) (p.1.drop (i + 1)) acc μ4 = some (.ok fin, μf) := x5
              refine tE_then a3 a2 (good := fun v' μ' => v' = .bl false ∧ μ' = μ4) (by rw [hc]; exact ⟨rfl, rfl⟩) fun v1 μ1' w1 H4 ι4 ⟨q1, q2⟩ b1 b2 b3 _ => ?_
              subst q1 q2
              refine ⟨false, b3.bl_inv, ?_⟩
              refine iteF ?_
              have hD4 : H4 D = some (.lst ws) := b1.oth _ _ hD3 (a2.bu D List.mem_cons_self).2 (fun _ z => by cases z)
              exact ⟨ι4, _, acc, ws, step b1, b2, hD4, ((x4.mono y1).mono a1).mono b1, x5⟩
            · cases hs
        · cases hs
    · cases x5
  · rintro H' ⟨ι', μ', acc, ws, x1, x2, x3, x4, x5⟩
    rw [List.drop_length] at x5
    unfold lcmL at x5
    split at x5
    · cases x5
      have e2 := e1.trans x1
      have hHD : Nw H D := (Nw.of hD).back e1
      exact gd (.ref D) H' ι' e2 x2.idle (.lv x3 (hr1.no hD) (x2.bu D List.mem_cons_self).2 x4.idle) fun _ xs e => by
        cases e
        exact ⟨D, ws, rfl, hHD, x3, x2, x4⟩
    · cases x5
end
end MI
end
section
set_option Elab.async false
set_option linter.all false
set_option maxHeartbeats 4000000
/-! MI: statements. -/
namespace MI
open PySem PySem.Spec PyProof.Rows L2
section
variable (G : GI) (B ι : List Addr) (H : Hp) (W : WX)
/-- how a statement ends, as D asks it -/
def OutS (D : Ends) (r : RS) : Prop := match r with
  | none => False
  | some (.nxt ρ, μ) => ∀ σ' H' ι', Ext G.K ι H ι' H' → HR G B ι' H' μ → ER G B ι' H' ρ σ' → D.nx σ' H'
  | some (.brk ρ, μ) => ∀ σ' H' ι', Ext G.K ι H ι' H' → HR G B ι' H' μ → ER G B ι' H' ρ σ' → D.bk σ' H'
  | some (.cnt ρ, μ) => ∀ σ' H' ι', Ext G.K ι H ι' H' → HR G B ι' H' μ → ER G B ι' H' ρ σ' → D.ct σ' H'
  | some (.ret v, μ) => ∀ w H' ι', Ext G.K ι H ι' H' → HR G B ι' H' μ → RV G B ι' H' v w → D.rt w H'
  | some (.exc x ρ, μ) => ∀ cls d σ' H' ι', Ext G.K ι H ι' H' → HR G B ι' H' μ → ER G B ι' H' ρ σ' → RX G B ι' H' cls d x → W cls d σ' H'
end
section
variable {G : GI} {B ι ι' : List Addr} {H H' : Hp} {W : WX} {D : Ends}
theorem OutS.ext {r : RS} (h : OutS G B ι H W D r) (e : Ext G.K ι H ι' H') : OutS G B ι' H' W D r := by
  match r, h with
  | some (.nxt ρ, μ), h => exact fun σ' H2 ι2 e2 => h σ' H2 ι2 (e.trans e2)
  | some (.brk ρ, μ), h => exact fun σ' H2 ι2 e2 => h σ' H2 ι2 (e.trans e2)
  | some (.cnt ρ, μ), h => exact fun σ' H2 ι2 e2 => h σ' H2 ι2 (e.trans e2)
  | some (.ret v, μ), h => exact fun w H2 ι2 e2 => h w H2 ι2 (e.trans e2)
  | some (.exc x ρ, μ), h => exact fun c d σ' H2 ι2 e2 => h c d σ' H2 ι2 (e.trans e2)
/-- behind an expression -/
theorem OutS.thenE {α : Type} {ρ : Env} {r : R α} {k : α → Mem → RS} {σ : L2.St} (er : ER G B ι H ρ σ) (h : OutS G B ι H W D (thenE ρ r k)) : Out r (fun v μ => OutS G B ι H W D (k v μ)) (Bad G B ι H W σ) := by
  match r, h with
  | some (.ok v, μ), h => exact h
  | some (.error x, μ), h => exact fun cls d H' ι' e hr rx => h cls d σ H' ι' e hr (er.mono e) rx
end
def tS (G : GI) (W : WX) (wd : Wd) (s : S) : TS := fun D σ H => ∃ B ι μ ρ, ER G B ι H ρ σ ∧ HR G B ι H μ ∧ OutS G B ι H W D (exec wd s ρ μ)
def tSs (G : GI) (W : WX) (wd : Wd) (s : SS) : TS := fun D σ H => ∃ B ι μ ρ, ER G B ι H ρ σ ∧ HR G B ι H μ ∧ OutS G B ι H W D (execs wd s ρ μ)
section
variable {X : Cx} {G : GI} {W : WX} {wd : Wd}
theorem ss_nil : PSs X [] (tSs G W wd .nil) := pssW pss_nil fun D σ H ⟨B, ι, μ, ρ, er, hr, h⟩ => by
  simp only [execs] at h
  exact h σ H ι Ext.refl hr er
theorem ss_cons {st : Stmt} {rest : List Stmt} {s : S} {ss : SS} (h1 : PS X st (tS G W wd s)) (h2 : PSs X rest (tSs G W wd ss)) : PSs X (st :: rest) (tSs G W wd (.cons s ss)) :=
  pssW (pss_cons h1 h2) fun D σ H ⟨B, ι, μ, ρ, er, hr, h⟩ => by
    simp only [execs] at h
    refine ⟨B, ι, μ, ρ, er, hr, ?_⟩
    match q : exec wd s ρ μ with
    | none => rw [q] at h; exact h.elim
    | some (.nxt ρ1, μ1) =>
      rw [q] at h
      exact fun σ1 H1 ι1 e1 hr1 er1 => ⟨B, ι1, μ1, ρ1, er1, hr1, h.ext e1⟩
    | some (.brk ρ1, μ1) => rw [q] at h; exact h
    | some (.cnt ρ1, μ1) => rw [q] at h; exact h
    | some (.ret v, μ1) => rw [q] at h; exact h
    | some (.exc x ρ1, μ1) => rw [q] at h; exact h
theorem asg_of {g : MI.G} {e : E} {D : Ends} {σ : L2.St} {H : Hp} (h : tS G W wd (.asg g e) D σ H) : tAsg (tE G W wd e) (tG G wd g) D σ H := by
  obtain ⟨B, ι, μ, ρ, er, hr, h⟩ := h
  simp only [exec] at h
  refine tE_then er hr (h.thenE er) fun v μ1 w H1 ι1 g1 e1 hr1 r1 _ => ?_
  unfold asgK at g1
  cases q : asg wd g v ρ μ1 with
  | none => rw [q] at g1; exact g1.elim
  | some p =>
    obtain ⟨ρ', μ'⟩ := p
    rw [q] at g1
    exact ⟨B, ι1, μ1, ρ, v, ρ', μ', er.mono e1, hr1, r1, q, fun σ' H' ι' x1 x2 x3 _ _ => g1 σ' H' ι' (e1.trans x1) x2 x3⟩
theorem s_asg {tg e : Expr} {g : MI.G} {e' : E} {pos : Pos} (he : PE X e (tE G W wd e')) (hg : PG X tg (tG G wd g)) (hs : swapsWithSole [tg] e pos.line X.env = pure false) (hw : swappedStores [tg] e X.env = pure none) (h1 : (assignEach [tg] X.env).map (·.2) = [assign tg X.env]) :
    PS X (.Assign [tg] e pos) (tS G W wd (.asg g e')) := psW (ps_asg he hg hs hw h1) fun D σ H h => asg_of h
/-- a, b = x, y -/
theorem s_par {i j : Nat} {x y : Str} {a b : Expr} {a' b' : E} {px py pt pos : Pos} {kt k2 pt2} (hc : X.calm = true) (hN : X.N.Nodup) (hi : X.N[i]? = some x) (hj : X.N[j]? = some y) (hij : i ≠ j)
    (hx : X.env.scope.names.lookup x = some .local) (hy : X.env.scope.names.lookup y = some .local) (ha : PA X [a, b] (tEs G W wd (.cons a' (.cons b' .nil))))
    (hw : swappedStores [.Tuple [.Name x px, .Name y py] kt pt] (.Tuple [a, b] k2 pt2) X.env = pure (some [x, y]))
    (hs : swapsWithSole [.Tuple [.Name x px, .Name y py] kt pt] (.Tuple [a, b] k2 pt2) pos.line X.env = pure false) :
    PS X (.Assign [.Tuple [.Name x px, .Name y py] kt pt] (.Tuple [a, b] k2 pt2) pos) (tS G W wd (.asg (.tp (.cons (.nm i) (.cons (.nm j) .nil))) (.tup (.cons a' (.cons b' .nil))))) :=
  psW (ps_par hc hN hi hj hij hx hy ha hw hs) fun D σ H ⟨B, ι, μ, ρ, er, hr, h⟩ => by
    simp only [exec] at h
    have h := h.thenE er
    simp only [ev] at h
    refine tEs_then er hr h.bnd fun xs μ1 vs H1 ι1 g e1 hr1 rs => ?_
    split at g
    · have g : OutS G B ι H W D (asgK (asg wd (.tp (.cons (.nm i) (.cons (.nm j) .nil))) (.tup xs) ρ μ1)) := g
      simp only [asg] at g
      match xs, rs with
      | [], rs => exact g.elim
      | [p], rs => unfold asgs at g; simp only [asg] at g; split at g <;> simp only [asgs, asgK, Option.map_none] at g <;> exact g.elim
      | p :: q :: r :: t, rs =>
        exfalso
        by_cases hi2 : i < ρ.length <;> by_cases hj2 : j < ρ.length <;> simp [asgs, asg, asgK, hi2, hj2, OutS] at g
      | [p, q], rs =>
        obtain ⟨v, w, rfl, r1, r2⟩ := rs.two
        refine ⟨v, w, rfl, ?_⟩
        by_cases hi2 : i < ρ.length
        · by_cases hj2 : j < ρ.length
          · simp only [asgs, asg, asgK, hi2, hj2, List.length_set, if_true, Option.map_some] at g
            exact g _ H1 ι1 e1 hr1 (((er.mono e1).put r1).put r2)
          · simp [asgs, asg, asgK, hi2, hj2, OutS] at g
        · simp [asgs, asg, asgK, hi2, OutS] at g
    · exact g.elim
theorem s_ex {e : Expr} {e' : E} {pos : Pos} (he : PE X e (tE G W wd e')) (hs : swapsWith e none pos.line X.env = pure false) : PS X (.Expr e pos) (tS G W wd (.ex e')) :=
  psW (ps_expr he hs) fun D σ H ⟨B, ι, μ, ρ, er, hr, h⟩ => by
    simp only [exec] at h
    exact tE_then er hr (h.thenE er) fun v μ1 w H1 ι1 g e1 hr1 r1 _ => g σ H1 ι1 e1 hr1 (er.mono e1)
theorem s_ret {e : Expr} {e' : E} {pos : Pos} (he : PE X e (tE G W wd e')) : PS X (.Return (some e) pos) (tS G W wd (.ret e')) :=
  psW (ps_ret he) fun D σ H ⟨B, ι, μ, ρ, er, hr, h⟩ => by
    simp only [exec] at h
    exact tE_then er hr (h.thenE er) fun v μ1 w H1 ι1 g e1 hr1 r1 _ => g w H1 ι1 e1 hr1 r1
theorem s_retN {pos : Pos} : PS X (.Return none pos) (tS G W wd (.ret (.con .non))) :=
  psW ps_retN fun D σ H ⟨B, ι, μ, ρ, er, hr, h⟩ => by
    simp only [exec, ev, thenE_ok] at h
    exact h _ H ι Ext.refl hr .non
theorem s_pas {pos : Pos} : PS X (.Pass pos) (tS G W wd .pas) := psW ps_pass fun D σ H ⟨B, ι, μ, ρ, er, hr, h⟩ => by
  simp only [exec] at h
  exact h σ H ι Ext.refl hr er
theorem s_brk {pos : Pos} : PS X (.Break pos) (tS G W wd .brk) := psW ps_break fun D σ H ⟨B, ι, μ, ρ, er, hr, h⟩ => by
  simp only [exec] at h
  exact h σ H ι Ext.refl hr er
theorem s_cnt {pos : Pos} : PS X (.Continue pos) (tS G W wd .cnt) := psW ps_continue fun D σ H ⟨B, ι, μ, ρ, er, hr, h⟩ => by
  simp only [exec] at h
  exact h σ H ι Ext.refl hr er
theorem s_nev {x : Stmt} : PS X x (tS G W wd .nev) := psW ps_never fun D σ H ⟨B, ι, μ, ρ, er, hr, h⟩ => by
  simp only [exec] at h
  exact h.elim
theorem s_ite {c : Expr} {a b : List Stmt} {c' : E} {a' b' : SS} {pos : Pos} (hc : PT X c (tT G W wd c')) (ha : PSs X a (tSs G W wd a')) (hb : PSs X b (tSs G W wd b')) : PS X (.If c a b pos) (tS G W wd (.ite c' a' b')) :=
  psW (ps_if hc ha hb) fun D σ H ⟨B, ι, μ, ρ, er, hr, h⟩ => by
    simp only [exec] at h
    refine tE_then er hr (h.thenE er) fun v μ1 w H1 ι1 g e1 hr1 r1 _ => ?_
    split at g
    · exact ⟨true, r1.bl_inv, iteT ⟨B, ι1, μ1, ρ, er.mono e1, hr1, g.ext e1⟩⟩
    · exact ⟨false, r1.bl_inv, iteF ⟨B, ι1, μ1, ρ, er.mono e1, hr1, g.ext e1⟩⟩
    · exact g.elim
theorem wh_to {fu : Option Nat} {t : Env → Mem → R MV} {b : Env → Mem → RS} {ρ : Env} {μ : Mem} {r : Fl × Mem} (h : wh fu t b ρ μ = some r) : ∃ n, whN t b n ρ μ = some r := by
  unfold wh at h
  split at h
  · exact ⟨_, h⟩
  · exact whD_to h
theorem s_whl {c : Expr} {body : List Stmt} {c' : E} {b' : SS} {pos : Pos} (hp : PassesOwn (model X.prog X.w) X.A X.env X.xe) (hc : PT X c (tT G W wd c')) (hb : PSs X body (tSs G W wd b')) : PS X (.While c body [] pos) (tS G W wd (.whl c' b')) :=
  psW (ps_while hp hc hb) fun D σ H ⟨B, ι, μ, ρ, er, hr, h⟩ => by
    simp only [exec] at h
    obtain ⟨r, hw⟩ : ∃ r, wh wd.fu (fun ρ μ => ev wd c' ρ μ) (fun ρ μ => execs wd b' ρ μ) ρ μ = some r := by
      cases q : wh wd.fu (fun ρ μ => ev wd c' ρ μ) (fun ρ μ => execs wd b' ρ μ) ρ μ with
      | none => rw [q] at h; exact h.elim
      | some r => exact ⟨r, rfl⟩
    rw [hw] at h
    obtain ⟨n0, hn⟩ := wh_to hw
    refine ⟨fun m σ1 H1 => ∃ ι1 μ1 ρ1, Ext G.K ι H ι1 H1 ∧ HR G B ι1 H1 μ1 ∧ ER G B ι1 H1 ρ1 σ1 ∧ whN (fun ρ μ => ev wd c' ρ μ) (fun ρ μ => execs wd b' ρ μ) m ρ1 μ1 = some r, ⟨n0, ι, μ, ρ, Ext.refl, hr, er, hn⟩, ?_⟩
    rintro m σ1 H1 ⟨ι1, μ1, ρ1, e1, hr1, er1, hm⟩
    cases m with
    | zero => simp [whN] at hm
    | succ m =>
      rw [whN] at hm
      have he := h.ext e1
      match q : ev wd c' ρ1 μ1 with
      | none => rw [q] at hm; cases hm
      | some (.error x, μ2) =>
        rw [q] at hm
        cases hm
        exact ⟨B, ι1, μ1, ρ1, er1, hr1, by rw [q]; exact fun cls d H' ι' x1 x2 x3 => he cls d σ1 H' ι' x1 x2 (er1.mono x1) x3⟩
      | some (.ok v, μ2) =>
        rw [q] at hm
        refine tE_then er1 hr1 (good := fun v' μ' => v' = v ∧ μ' = μ2) (by rw [q]; exact ⟨rfl, rfl⟩) fun v' μ' w H2 ι2 ⟨z1, z2⟩ x1 hr2 r2 _ => ?_
        subst z1 z2
        cases v' with
        | bl k =>
          refine ⟨k, r2.bl_inv, ?_⟩
          cases k with
          | false =>
            simp only at hm
            cases hm
            exact iteF (he σ1 H2 ι2 x1 hr2 (er1.mono x1))
          | true =>
            simp only at hm
            refine iteT ⟨fun σ3 H3 => ∃ ι3 μ3 ρ3, Ext G.K ι H ι3 H3 ∧ HR G B ι3 H3 μ3 ∧ ER G B ι3 H3 ρ3 σ3 ∧ whN (fun ρ μ => ev wd c' ρ μ) (fun ρ μ => execs wd b' ρ μ) m ρ3 μ3 = some r, fun σ' H' z => ⟨m, Nat.lt_succ_self _, z⟩, ?_⟩
            refine ⟨B, ι2, μ', ρ1, er1.mono x1, hr2, ?_⟩
            have e2 := e1.trans x1
            match q2 : execs wd b' ρ1 μ' with
            | none => rw [q2] at hm; cases hm
            | some (.nxt ρ3, μ3) => rw [q2] at hm; exact fun σ3 H3 ι3 y1 y2 y3 => ⟨ι3, μ3, ρ3, e2.trans y1, y2, y3, hm⟩
            | some (.cnt ρ3, μ3) => rw [q2] at hm; exact fun σ3 H3 ι3 y1 y2 y3 => ⟨ι3, μ3, ρ3, e2.trans y1, y2, y3, hm⟩
            | some (.brk ρ3, μ3) => rw [q2] at hm; cases hm; exact he.ext x1
            | some (.ret v, μ3) => rw [q2] at hm; cases hm; exact he.ext x1
            | some (.exc x ρ3, μ3) => rw [q2] at hm; cases hm; exact he.ext x1
        | _ => cases hm
/-- a turn of a for -/
noncomputable def frStep (wd : Wd) (g : MI.G) (b : SS) (x : MV) (ρ : Env) (μ : Mem) : RS := match asg wd g x ρ μ with
  | some (ρ', μ') => execs wd b ρ' μ'
  | none => none
theorem forL_gd {gd : List (Nat × List MV)} {step : MV → Env → Mem → RS} {xs : List MV} {ρ : Env} {μ : Mem} (h : forL gd step xs ρ μ ≠ none) : gdOk μ gd = true := by
  cases xs <;> (unfold forL at h; split at h; assumption; exact absurd rfl h)
theorem s_fr {tg iter : Expr} {body : List Stmt} {it : It} {g : MI.G} {b' : SS} {pos : Pos} (hp : PassesOwn (model X.prog X.w) X.A X.env X.xe) (hc : X.calm = true) (hi : PI X tg iter (tI G W wd it)) (hg : PG X tg (tG G wd g)) (hb : PSs X body (tSs G W wd b'))
    (hs : ∀ x, foldedSetIterable iter X.env x = pure x) : PS X (.For tg iter body [] pos) (tS G W wd (.fr g it b')) :=
  psW (ps_for hp hc hi hg hb hs) fun D σ H ⟨B, ι, μ, ρ, er, hr, h⟩ => by
    simp only [exec] at h
    refine ⟨B, ι, μ, ρ, er, hr, (h.thenE er).mono (fun p μ1 g1 J H1 ι1 e1 hr1 wk => ?_) fun _ _ q => q⟩
    have g1 : OutS G B ι H W D (forL p.2 (frStep wd g b') p.1 ρ μ1) := g1
    obtain ⟨Gw, Y, wlk, wk⟩ := wk
    have def_ : ∀ {xs : List MV} {ρ : Env} {μ : Mem}, OutS G B ι H W D (forL p.2 (frStep wd g b') xs ρ μ) → forL p.2 (frStep wd g b') xs ρ μ ≠ none := fun z q => by rw [q] at z; exact z
    refine for_it wlk (fun i σ2 H2 => ∃ ι2 μ2 ρ2, Ext G.K ι1 H1 ι2 H2 ∧ HR G B ι2 H2 μ2 ∧ ER G B ι2 H2 ρ2 σ2 ∧ OutS G B ι H W D (forL p.2 (frStep wd g b') (p.1.drop i) ρ2 μ2)) ?_ ?_ ?_ ?_
    · exact ⟨ι1, μ1, ρ, Ext.refl, hr1, er.mono e1, g1⟩
    · rintro i σ2 H2 hi ⟨ι2, μ2, ρ2, x1, x2, x3, x4⟩
      exact (wk _ _ _ _ (Fut.ext x1) x2 (forL_gd (def_ x4))).1
    · rintro i x σ2 H2 H3 hi ⟨ι2, μ2, ρ2, x1, x2, x3, x4⟩ y
      have gok := forL_gd (def_ x4)
      obtain ⟨v, hv, y1, y2, y3⟩ := (wk _ _ _ _ (Fut.ext x1) x2 gok).2 i x H3 hi y
      rw [drop_at hv] at x4
      unfold forL at x4
      rw [if_pos gok] at x4
      match q : frStep wd g b' v ρ2 μ2 with
      | none => rw [q] at x4; exact x4.elim
      | some (f, μ4) =>
        have q' := q
        unfold frStep at q'
        split at q'
        · rename_i ρ3 μ3 ha
          refine ⟨B, ι2, μ2, ρ2, v, ρ3, μ3, x3.mono y1, y2, y3, ha, fun σ4 H4 ι4 a1 a2 a3 _ _ => ⟨B, ι4, μ3, ρ3, a3, a2, ?_⟩⟩
          have e4 := (x1.trans y1).trans a1
          rw [q'] 
          rw [q] at x4
          cases f with
          | nxt ρ5 => exact fun σ5 H5 ι5 c1 c2 c3 => ⟨ι5, μ4, ρ5, e4.trans c1, c2, c3, x4⟩
          | cnt ρ5 => exact fun σ5 H5 ι5 c1 c2 c3 => ⟨ι5, μ4, ρ5, e4.trans c1, c2, c3, x4⟩
          | brk ρ5 => exact x4.ext (e1.trans e4)
          | ret v => exact x4.ext (e1.trans e4)
          | exc x ρ5 => exact x4.ext (e1.trans e4)
        · cases q'
    · rintro σ2 H2 ⟨ι2, μ2, ρ2, x1, x2, x3, x4⟩
      have gok := forL_gd (def_ x4)
      rw [List.drop_length] at x4
      unfold forL at x4
      rw [if_pos gok] at x4
      exact x4 σ2 H2 ι2 (e1.trans x1) x2 x3
end
end MI
end
section
set_option Elab.async false
set_option linter.all false
set_option maxHeartbeats 4000000
/-! MI: isinstance, methods, rows of numbers, dict displays. -/
namespace MI
open PySem PySem.Spec PyProof.Rows L2
/-! ### isinstance -/
def tyM (μ : Mem) : MV → Option String
  | .non => some "NoneType"
  | .bl _ => some "bool"
  | .int _ => some "int"
  | .str _ => some "str"
  | .tup _ => some "tuple"
  | .lv _ => some "list"
  | .fl _ => some "list"
  | .loc k => match μ[k]? with
    | some (.lst _) => some "list"
    | some (.dic _) => some "dict"
    | none => none
  | _ => none
def clN : Cl → Option String
  | .int => some "int"
  | .bool => some "bool"
  | .tuple => some "tuple"
  | .list => some "list"
  | .str => some "str"
  | .dict => some "dict"
  | .own _ => none
section
variable {G : GI} {B ι : List Addr} {H : Hp} {μ : Mem}
theorem ty_of {v : MV} {w : V} {t : String} (hr : HR G B ι H μ) (r : RV G B ι H v w) (h : tyM μ v = some t) : TyX G.K H w (.type t) := by
  cases r with
  | non => cases h; exact .base .non
  | bl b => cases h; exact .base (.bl b)
  | int i => cases h; exact .base (.int i)
  | str s => cases h; exact .base (.str s)
  | tup q _ =>
    cases h
    rcases q with (q | ⟨o, q⟩) | ⟨o, its, n, q1, q2, _⟩
    · exact .base (.tup q)
    · exact .fTuple q
    · exact .kTuple q1 q2
  | lv q _ _ _ => cases h; exact .base (.lst q)
  | flH q _ _ => cases h; exact .base (.frz q)
  | flK q _ => cases h; exact .kList q.1 q.2.1
  | exo _ _ _ _ _ => simp [tyM] at h
  | thk _ => simp [tyM] at h
  | loc hn =>
    rename_i n a
    simp only [tyM] at h
    split at h
    · rename_i xs e
      cases h
      obtain ⟨a', hn', vs, q, _⟩ := hr.get e
      rw [hn] at hn'
      cases hn'
      exact .base (.lst q)
    · rename_i xs e
      cases h
      obtain ⟨a', hn', vs, q, _⟩ := hr.get e
      rw [hn] at hn'
      cases hn'
      exact .base (.dK q)
    · cases h
theorem ty_some {sub : Nat → Nat → Option Bool} {v : MV} {c : Cl} {n : String} {b : Bool} (hc : clN c = some n) (h : isCls μ sub v [c] = some b) : ∃ t, tyM μ v = some t := by
  cases v with
  | loc k =>
    unfold isCls at h
    simp only [tyM]
    cases e : μ[k]? with
    | none => cases c <;> simp [clN, e] at h hc
    | some o => cases o <;> exact ⟨_, rfl⟩
  | exo _ _ => unfold isCls at h; cases c <;> simp [isCl, clN] at h hc
  | thk _ => unfold isCls at h; cases c <;> simp [isCl] at h
  | _ => exact ⟨_, rfl⟩
theorem kit_cl {sub : Nat → Nat → Option Bool} {v : MV} {c : Cl} {n t : String} {b : Bool} (hc : clN c = some n) (ht : tyM μ v = some t) (h : isCls μ sub v [c] = some b) : kitB t n = some b := by
  cases v with
  | loc k =>
    simp only [tyM] at ht
    unfold isCls at h
    split at ht
    · rename_i xs e
      cases ht
      simp only [e, Option.bind_some] at h
      cases c <;> simp only [clN, reduceCtorEq, Option.some.injEq] at hc <;> subst hc <;> simp [isCls] at h <;> subst h <;> decide +kernel
    · rename_i xs e
      cases ht
      simp only [e, Option.bind_some] at h
      cases c <;> simp only [clN, reduceCtorEq, Option.some.injEq] at hc <;> subst hc <;> simp [isCls] at h <;> subst h <;> decide +kernel
    · cases ht
  | exo _ _ => simp [tyM] at ht
  | thk _ => simp [tyM] at ht
  | _ =>
    simp only [tyM, Option.some.injEq] at ht
    subst ht
    unfold isCls at h
    cases c <;> simp only [clN, reduceCtorEq, Option.some.injEq] at hc <;> subst hc <;> simp [isCl, isCls] at h <;> subst h <;> decide +kernel
end
section
variable {X : Cx} {G : GI} {W : WX} {wd : Wd}
theorem s_isi {x y : Str} {a : Expr} {a' : E} {c : Cl} {n : String} {p q pos : Pos} (hK : X.K = G.K) (hc : clN c = some n) (hx : x = "isinstance") (hg : Gl X x) (hm : X.mg x = none) (hgy : Gl X y) (hmy : X.mg y = none) (hv : bootBuiltins y = some (.type n)) (hny : y ≠ "__name__") (hdy : (y == ("__debug__" : Str)) = false)
    (ha : PE X a (tE G W wd a')) (he : starEach [a, .Name y q] X.env = (false, eval a X.env) :: starEach [.Name y q] X.env) (hpl : (backTo pos (starEach [.Name y q] X.env)).any (·.1) = false) :
    PE X (.Call (.Name x p) [a, .Name y q] [] pos) (tE G W wd (.isi a' [c])) := by
  subst hx
  have hny2 : PE X (.Name y q) (tC (.ty n)) := pe_bltn hgy hmy hv rfl hny hdy
  have hargs : PA X [a, .Name y q] (tCons (tE G W wd a') (tCons (tC (.ty n)) tNil)) := pa_cons ha (pa_cons hny2 pa_nil rfl) he
  have call : PE X (.Call (.Name "isinstance" p) [a, .Name y q] [] pos) (tCB (rIsi X.K) (tCons (tE G W wd a') (tCons (tC (.ty n)) tNil))) :=
    pe_callB call_isi hg hm (by decide +kernel) hargs (by decide) (by decide) he hpl
  exact peW call fun σ H Q ⟨B, ι, μ, ρ, er, hr, h⟩ => by
    simp only [ev] at h
    have h := h.bnd
    cases q0 : ev wd a' ρ μ with
    | none => rw [q0] at h; exact h.elim
    | some z =>
      obtain ⟨o, μ1⟩ := z
      rw [q0] at h
      cases o with
      | error e => exact ⟨B, ι, μ, ρ, er, hr, by rw [q0]; exact h⟩
      | ok v =>
        refine tE_then er hr (good := fun v' μ' => v' = v ∧ μ' = μ1) (by rw [q0]; exact ⟨rfl, rfl⟩) fun v' μ' w H1 ι1 ⟨z1, z2⟩ e1 hr1 r1 _ => ?_
        subst z1 z2
        obtain ⟨b, hb, g⟩ := Out.ok h
        obtain ⟨b', hb', rfl⟩ := Option.map_eq_some_iff.mp hb
        obtain ⟨t, ht⟩ := ty_some hc hb'
        exact ⟨w, .ty n, .type t, .type n, b', rfl, .ty n, by rw [hK]; exact ty_of hr1 r1 ht, by rw [hK]; exact kit_ty (kit_cl hc ht hb'), g _ H1 ι1 e1 hr1 (.bl _) fun z => by cases z⟩
/-! ### methods of lists -/
def meId : Me → String
  | .append => "list.append"
  | .pop0 => "list.pop"
  | .pop1 => "list.pop"
def MeR (X : Cx) (G : GI) (m : Me) : Prop := ∃ r : V → List V → Hp → VK → Prop, MtR X (meId m) r ∧ ∀ {B ι : List Addr} {H : Hp} {μ μ' : Mem} {o z : MV} {xs : List MV} {w : V} {vs : List V} {Q : VK}, HR G B ι H μ → RV G B ι H o w → RVs G B ι H xs vs → evMe μ m o xs = some (z, μ') →
  (∀ (u : V) (H' : Hp), Ext G.K ι H ι H' → HR G B ι H' μ' → RV G B ι H' z u → Q u H') → r w vs H Q
theorem m_append : MeR X G .append := by
  refine ⟨_, mt_append, fun {B ι H μ μ' o z xs w vs Q} hr ro rs h q => ?_⟩
  unfold evMe at h
  split at h <;> try contradiction
  rename_i k v _
  split at h
  · rename_i ys e
    split at h
    · rename_i hl
      cases h
      obtain ⟨a, hn, ws, h1, r2⟩ := hr.get e
      cases ro with
      | loc hn' =>
        rw [hn] at hn'
        cases hn'
        obtain ⟨u, rfl, r⟩ := rs.one
        obtain ⟨e1, hr'⟩ := wr_lst hr hn h1 (r2.append (.cons r .nil))
        exact ⟨a, ws, u, rfl, rfl, h1, by rw [← r2.length]; exact most_lt hl, q _ _ e1 hr' .non⟩
    · cases h
  · cases h
theorem last_at {xs : List MV} {vs : List V} {B ι : List Addr} {H : Hp} {y : MV} (r : RVs G B ι H xs vs) (h : xs[xs.length - 1]? = some y) : ∃ u, vs[vs.length - 1]? = some u ∧ RV G B ι H y u := by
  rw [r.length] at h
  exact r.get h
theorem m_pop0 : MeR X G .pop0 := by
  refine ⟨_, mt_pop, fun {B ι H μ μ' o z xs w vs Q} hr ro rs h q => ?_⟩
  unfold evMe at h
  split at h <;> try contradiction
  rename_i k _
  split at h
  · rename_i ys e
    obtain ⟨y, hy, e2⟩ := Option.map_eq_some_iff.mp h
    cases e2
    obtain ⟨a, hn, ws, h1, r2⟩ := hr.get e
    cases ro with
    | loc hn' =>
      rw [hn] at hn'
      cases hn'
      cases rs
      obtain ⟨u, hu, ru⟩ := last_at r2 hy
      obtain ⟨e1, hr'⟩ := wr_lst hr hn h1 r2.dropLast
      exact ⟨a, ws, u, rfl, rfl, h1, hu, q _ _ e1 hr' (ru.mono e1)⟩
  · cases h
theorem m_pop1 : MeR X G .pop1 := by
  refine ⟨_, mt_popAt, fun {B ι H μ μ' o z xs w vs Q} hr ro rs h q => ?_⟩
  unfold evMe at h
  split at h <;> try contradiction
  rename_i k i _
  split at h
  · rename_i ys e
    obtain ⟨j, hj, h⟩ := Option.bind_eq_some_iff.mp h
    split at h
    · rename_i hl
      obtain ⟨y, hy, e2⟩ := Option.map_eq_some_iff.mp h
      cases e2
      obtain ⟨a, hn, ws, h1, r2⟩ := hr.get e
      cases ro with
      | loc hn' =>
        rw [hn] at hn'
        cases hn'
        obtain ⟨u, rfl, r⟩ := rs.one
        rw [r.int_inv]
        obtain ⟨u, hu, ru⟩ := r2.get hy
        obtain ⟨e1, hr'⟩ := wr_lst hr hn h1 (r2.eraseIdx j)
        obtain ⟨s1, s2, s3, s4⟩ := ixN_seq hj
        have hl' : ys.length ≤ 16000000 := hl
        exact ⟨a, ws, i, j, u, rfl, rfl, h1, by omega, by omega, by rw [← r2.length]; exact s1, hu, q _ _ e1 hr' (ru.mono e1)⟩
    · cases h
  · cases h
theorem tyV_loc {B ι : List Addr} {H : Hp} {μ μ' : Mem} {m : Me} {o z : MV} {xs : List MV} {w : V} (hr : HR G B ι H μ) (ro : RV G B ι H o w) (h : ∃ k ys, o = .loc k ∧ μ[k]? = some (.lst ys)) : tyV G.K "list" w H := by
  obtain ⟨k, ys, rfl, e⟩ := h
  obtain ⟨a, hn, ws, h1, r2⟩ := hr.get e
  cases ro with
  | loc hn' =>
    rw [hn] at hn'
    cases hn'
    exact .inl ⟨rfl, ws, .inl (.inl h1)⟩
theorem evMe_loc {μ μ' : Mem} {m : Me} {o z : MV} {xs : List MV} (h : evMe μ m o xs = some (z, μ')) : ∃ k ys, o = .loc k ∧ μ[k]? = some (.lst ys) := by
  unfold evMe at h
  split at h <;> try contradiction
  all_goals
    split at h
    · rename_i e; exact ⟨_, _, rfl, e⟩
    · cases h
theorem s_mth {m : Me} {name : Str} {o : Expr} {args : List Expr} {o' : E} {es' : ES} {apos cpos : Pos} (hK : X.K = G.K) (hm : MeR X G m) (slot : ∀ r, MtR X (meId m) r → PE X (.Call (.Attribute o name apos) args [] cpos) (tBM X.K "list" r (tE G W wd o') (tEs G W wd es'))) :
    PE X (.Call (.Attribute o name apos) args [] cpos) (tE G W wd (.mth m o' es')) := by
  obtain ⟨r, h1, h2⟩ := hm
  exact peW (slot r h1) fun σ H Q ⟨B, ι, μ, ρ, er, hr, h⟩ => by
    simp only [ev] at h
    refine tE_then er hr h.bnd fun x μ1 v H1 ι1 g e1 hr1 rx _ => ?_
    split at g
    · rename_i ls e
      obtain ⟨a, vs, rfl, hv, _⟩ := lsOf_rv hr1 e rx
      refine ⟨.inl ⟨rfl, vs, .inl (.inl hv)⟩, ?_⟩
      refine tEs_then (er.mono e1) hr1 (g.bnd.mono (fun _ _ q => q) fun _ _ q => q.ext e1) fun xs μ2 vs H2 ι2 g e2 hr2 rs => ?_
      split at g
      · rename_i z μ3 hz
        exact h2 hr2 (rx.mono e2) rs hz fun u H' e' hr' ru => g u H' ι2 ((e1.trans e2).trans e') hr' ru fun y => by cases y
      · exact g.elim
    · exact g.elim
theorem s_append {o e : Expr} {o' e' : E} {name : Str} {apos cpos : Pos} (hK : X.K = G.K) (hn : name = "append") (ho : PE X o (tE G W wd o')) (he : PE X e (tE G W wd e')) (hb : attributeBase o name X.env (eval o X.env) = eval o X.env)
    (hf : ((backTo cpos (starEach [e] X.env)).all (fun x => !x.1) && (backToKw cpos (keywordEach [] X.env)).all (fun x => x.1.isSome)
      && decide ([e].length + ([] : List Keyword).length + (if ([] : List Keyword).isEmpty then 0 else 1) < 30)) = true) (hl : (apos.endLine == cpos.line) = true) (hs : starEach [e] X.env = (false, eval e X.env) :: starEach [] X.env) (hp : (backTo cpos (starEach [] X.env)).any (·.1) = false) :
    PE X (.Call (.Attribute o name apos) [e] [] cpos) (tE G W wd (.mth .append o' (.cons e' .nil))) := by
  subst hn
  exact s_mth hK m_append fun r hr => pe_bm PySem.F.plainAttrs_list PySem.F.slot_list_append PySem.F.type_list_append hr ho (s_acons he s_anil hs) hb hf hl hs hp
theorem s_pop1 {o e : Expr} {o' e' : E} {name : Str} {apos cpos : Pos} (hK : X.K = G.K) (hn : name = "pop") (ho : PE X o (tE G W wd o')) (he : PE X e (tE G W wd e')) (hb : attributeBase o name X.env (eval o X.env) = eval o X.env)
    (hf : ((backTo cpos (starEach [e] X.env)).all (fun x => !x.1) && (backToKw cpos (keywordEach [] X.env)).all (fun x => x.1.isSome)
      && decide ([e].length + ([] : List Keyword).length + (if ([] : List Keyword).isEmpty then 0 else 1) < 30)) = true) (hl : (apos.endLine == cpos.line) = true) (hs : starEach [e] X.env = (false, eval e X.env) :: starEach [] X.env) (hp : (backTo cpos (starEach [] X.env)).any (·.1) = false) :
    PE X (.Call (.Attribute o name apos) [e] [] cpos) (tE G W wd (.mth .pop1 o' (.cons e' .nil))) := by
  subst hn
  exact s_mth hK m_pop1 fun r hr => pe_bm PySem.F.plainAttrs_list PySem.F.slot_list_pop PySem.F.type_list_pop hr ho (s_acons he s_anil hs) hb hf hl hs hp
theorem s_pop0 {o : Expr} {o' : E} {name : Str} {apos cpos : Pos} (hK : X.K = G.K) (hn : name = "pop") (ho : PE X o (tE G W wd o')) (hb : attributeBase o name X.env (eval o X.env) = eval o X.env) (hl : (apos.endLine == cpos.line) = true) :
    PE X (.Call (.Attribute o name apos) [] [] cpos) (tE G W wd (.mth .pop0 o' .nil)) := by
  subst hn
  refine s_mth hK m_pop0 fun r hr => peW (pe_bm0 PySem.F.plainAttrs_list PySem.F.slot_list_pop PySem.F.type_list_pop hr ho hb hl) fun σ H Q h => ?_
  obtain ⟨B, ι, μ, ρ, er, hr', h⟩ := h
  refine ⟨B, ι, μ, ρ, er, hr', h.mono (fun v μ' g w H' ι' e' h1 r1 n1 => ?_) fun _ _ q => q⟩
  obtain ⟨ty, B2, ι2, μ2, ρ2, er2, hr2, h2⟩ := g w H' ι' e' h1 r1 n1
  simp only [evs] at h2
  exact ⟨ty, h2 [] H' ι2 Ext.refl hr2 .nil⟩
/-! ### rows of numbers -/
theorem rg_rv {B ι : List Addr} {H : Hp} {a b : Int} : RVs G B ι H ((List.range (b - a).toNat).map fun (k : Nat) => .int (a + k)) (rgV a b) := by
  unfold rgV
  generalize (b - a).toNat = n
  suffices h : ∀ l : List Nat, RVs G B ι H (l.map fun (k : Nat) => .int (a + k)) (l.map fun k => V.int (a + (k : Nat))) from h _
  intro l
  induction l with
  | nil => exact .nil
  | cons x l ih => exact .cons (.int _) ih
theorem lrg_ok {t : Bool} {es : ES} {σ : L2.St} {H : Hp} {Q : VK} (h : tE G W wd (.lrg t es) σ H Q) : tEs G W wd es σ H fun vs H1 => vs.length = esLen es ∧ (esLen es = 1 → ∃ n, vs = [.int n] ∧ RgOk 0 n ∧ ∀ q, H1 q = none → Q (.ref q) (upd H1 q (if t = true then .tup (rgV 0 n) else .lst (rgV 0 n)))) ∧
    (esLen es = 2 → ∃ i j, vs = [.int i, .int j] ∧ RgOk i j ∧ ∀ q, H1 q = none → Q (.ref q) (upd H1 q (if t = true then .tup (rgV i j) else .lst (rgV i j)))) := by
  obtain ⟨B, ι, μ, ρ, er, hr, h⟩ := h
  simp only [ev] at h
  refine tEs_then er hr h.bnd.len fun xs μ1 vs H1 ι1 ⟨hx, g⟩ e1 hr1 rs => ?_
  obtain ⟨z, hz, g⟩ := Out.ok g
  obtain ⟨ys, hy, hz⟩ := Option.bind_eq_some_iff.mp hz
  split at hz
  · rename_i hl
    cases hz
    have fin : ∀ {a b : Int}, ys = (List.range (b - a).toNat).map (fun (k : Nat) => .int (a + k)) → ∀ q, H1 q = none → Q (.ref q) (upd H1 q (if t = true then .tup (rgV a b) else .lst (rgV a b))) := fun {a b} e q hq => by
      subst e
      cases t with
      | true => exact g _ _ ι1 (e1.trans (Ext.push hq)) (hr1.pushO hq) (RV.newTup hq rg_rv) fun z ys e => by cases e
      | false => exact g _ _ ι1 (e1.trans (Ext.push hq)) (hr1.pushO hq) (RV.newLst hr1 hq rg_rv) ((New.lst hr1 hq rg_rv).ext e1)
    refine ⟨by rw [← rs.length]; exact hx, fun h1 => ?_, fun h2 => ?_⟩
    · obtain ⟨n, rfl, sn, rfl⟩ := rngOf_1 hy (hx.trans h1)
      obtain ⟨w, rfl, r⟩ := rs.one
      rw [r.int_inv]
      have sl := small_i sn
      have hl' : ((List.range n.toNat).map fun (k : Nat) => MV.int (0 + k)).length ≤ 16000000 := hl
      simp only [List.length_map, List.length_range] at hl'
      exact ⟨n, rfl, ⟨by omega, by omega, sl.1, sl.2, by omega⟩, fin (by rw [Int.sub_zero])⟩
    · obtain ⟨i, j, rfl, si, sj, rfl⟩ := rngOf_2 hy (hx.trans h2)
      obtain ⟨v, w, rfl, r1, r2⟩ := rs.two
      rw [r1.int_inv, r2.int_inv]
      have hl' : ((List.range (j - i).toNat).map fun (k : Nat) => MV.int (i + k)).length ≤ 16000000 := hl
      simp only [List.length_map, List.length_range] at hl'
      exact ⟨i, j, rfl, ⟨(small_i si).1, (small_i si).2, (small_i sj).1, (small_i sj).2, by omega⟩, fin rfl⟩
  · cases hz
/-- an argument list of one, as an expression -/
theorem tEs_one {e : E} {σ : L2.St} {H : Hp} {Q : List V → Hp → Prop} (h : tEs G W wd (.cons e .nil) σ H Q) : tE G W wd e σ H fun x H1 => Q [x] H1 := by
  obtain ⟨B, ι, μ, ρ, er, hr, h⟩ := h
  simp only [evs] at h
  refine tE_then er hr h.bnd fun x μ1 v H1 ι1 g e1 hr1 rx _ => ?_
  exact g [v] H1 ι1 e1 hr1 (.cons rx .nil)
theorem s_lrg1 {f : Str} {a : Expr} {a' : E} {t : Bool} {p q pos rpos : Pos} (hc : X.calm = true) (ht : f = if t = true then "tuple" else "list") (hg : Gl X f) (hm : X.mg f = none) (hgr : Gl X "range") (hmr : X.mg "range" = none) (ha : PE X a (tE G W wd a')) (hs : starEach [a] X.env = (false, eval a X.env) :: starEach [] X.env)
    (hs2 : starEach [.Call (.Name "range" q) [a] [] rpos] X.env = (false, eval (.Call (.Name "range" q) [a] [] rpos) X.env) :: starEach [] X.env) : PE X (.Call (.Name f p) [.Call (.Name "range" q) [a] [] rpos] [] pos) (tE G W wd (.lrg t (.cons a' .nil))) := by
  have rg := prg_1 (p := q) (pos := rpos) hgr hmr ha hs
  have go : ∀ {σ H Q}, tE G W wd (.lrg t (.cons a' .nil)) σ H Q → tE G W wd a' σ H fun x H1 => ∃ n, x = .int n ∧ RgOk 0 n ∧ ∀ q, H1 q = none → Q (.ref q) (upd H1 q (if t = true then .tup (rgV 0 n) else .lst (rgV 0 n))) := fun {σ H Q} h => by
    have z := tEs_one (lrg_ok h)
    obtain ⟨B, ι, μ, ρ, er, hr, z⟩ := z
    refine ⟨B, ι, μ, ρ, er, hr, z.mono (fun v μ' g w H' ι' e1 h1 r1 n1 => ?_) fun _ _ q => q⟩
    obtain ⟨n, e, rest⟩ := (g w H' ι' e1 h1 r1 n1).2.1 rfl
    exact ⟨n, by simpa using e, rest⟩
  cases t with
  | true =>
    have ht : f = "tuple" := ht
    subst ht
    exact peW (pe_tupRg hc hg hm rg hs2) fun σ H Q h => by
      obtain ⟨B, ι, μ, ρ, er, hr, z⟩ := go h
      exact ⟨B, ι, μ, ρ, er, hr, z.mono (fun v μ' g w H' ι' e1 h1 r1 n1 => g w H' ι' e1 h1 r1 n1) fun _ _ q => q⟩
  | false =>
    have ht : f = "list" := ht
    subst ht
    exact peW (pe_listRg hc hg hm rg hs2) fun σ H Q h => by
      obtain ⟨B, ι, μ, ρ, er, hr, z⟩ := go h
      exact ⟨B, ι, μ, ρ, er, hr, z.mono (fun v μ' g w H' ι' e1 h1 r1 n1 => g w H' ι' e1 h1 r1 n1) fun _ _ q => q⟩
end
end MI
end
section
set_option Elab.async false
set_option linter.all false
set_option maxHeartbeats 4000000
/-! MI: dict displays. -/
namespace MI
open PySem PySem.Spec PyProof.Rows L2
section
variable {G : GI} {B ι : List Addr} {H : Hp} {D : Addr}
mutual
theorem RV.fill {ws : List (Key × V)} {o : HO} {v : MV} {w : V} (h : H D = some (.dK ws)) : RV G (D :: B) ι H v w → RV G (D :: B) ι (upd H D o) v w
  | .non => .non
  | .bl b => .bl b
  | .int i => .int i
  | .str s => .str s
  | .tup q r => .tup (by
      rcases q with (q | ⟨ob, q⟩) | q
      · exact .inl (.inl (by rw [upd_ne (by rintro rfl; rw [h] at q; cases q)]; exact q))
      · exact .inl (.inr ⟨ob, by rw [upd_ne (by rintro rfl; rw [h] at q; cases q)]; exact q⟩)
      · exact .inr q) (RVs.fill h r)
  | .lv q nb ni r => .lv (by rw [upd_ne (by rintro rfl; exact nb List.mem_cons_self)]; exact q) nb ni (RVs.fill h r)
  | .loc q => .loc q
  | .flH q ni r => .flH (by rw [upd_ne (by rintro rfl; rw [h] at q; cases q)]; exact q) ni (RVs.fill h r)
  | .flK q r => .flK q (RVs.fill h r)
  | .exo q qd nb ni r => .exo (by rw [upd_ne (by rintro rfl; exact nb.1 List.mem_cons_self)]; exact q) (by rw [upd_ne (by rintro rfl; exact nb.2 List.mem_cons_self)]; exact qd) nb ni (RV.fill h r)
  | .thk a => .thk a
theorem RVs.fill {ws : List (Key × V)} {o : HO} {v : List MV} {w : List V} (h : H D = some (.dK ws)) : RVs G (D :: B) ι H v w → RVs G (D :: B) ι (upd H D o) v w
  | .nil => .nil
  | .cons q r => .cons (RV.fill h q) (RVs.fill h r)
end
theorem RKs.fill {ws : List (Key × V)} {o : HO} {v : List (Key × MV)} {w : List (Key × V)} (h : H D = some (.dK ws)) (r : RKs G (D :: B) ι H v w) : RKs G (D :: B) ι (upd H D o) v w := by
  induction r with
  | nil => exact .nil
  | cons q _ ih => exact .cons (q.fill h) ih
theorem HR.fill {ws : List (Key × V)} {o : HO} {μ : Mem} (ho : BO o) (h : H D = some (.dK ws)) (hr : HR G (D :: B) ι H μ) : HR G (D :: B) ι (upd H D o) μ where
  len := hr.len
  nd := hr.nd
  tb := tabs_dic hr.tb h
  ce := ⟨hr.ce.len, fun i v e => let ⟨w, q, z⟩ := hr.ce.get i v e; ⟨w, q, z.fill h⟩⟩
  co := fun p hp => ⟨by rw [upd_ne (fun z => (hr.co p hp).2.2 (by rw [z]; exact List.mem_cons_self))]; exact (hr.co p hp).1, (hr.co p hp).2⟩
  bu := fun b hb => ⟨by
    by_cases e : b = D
    · subst e; exact ⟨_, upd_same, ho⟩
    · rw [upd_ne e]
      exact (hr.bu b hb).1, (hr.bu b hb).2⟩
  ob := fun n b u h1 h2 => by
    have hne : b ≠ D := by
      rintro rfl
      exact (hr.bu b List.mem_cons_self).2 (List.mem_of_getElem? h1)
    have q := hr.ob n b u h1 h2
    cases u with
    | lst xs => obtain ⟨vs, q, r⟩ := q; exact ⟨vs, by rw [upd_ne hne]; exact q, r.fill h⟩
    | dic xs => obtain ⟨vs, q, r⟩ := q; exact ⟨vs, by rw [upd_ne hne]; exact q, r.fill h⟩
theorem Ext.fill {K : PySem.W.Frag} {ι ι' : List Addr} {H H' : Hp} {ws : List (Key × V)} {o : HO} (e : Ext K ι H ι' H') (hn : H D = none) (h : H' D = some (.dK ws)) : Ext K ι H ι' (L2.upd H' D o) where
  pre := e.pre
  fr := e.fr
  tup := fun a vs q => by
    rcases e.tup a vs q with (q | ⟨ob, q⟩) | q
    · exact .inl (.inl (by rw [upd_ne (by rintro rfl; rw [h] at q; cases q)]; exact q))
    · exact .inl (.inr ⟨ob, by rw [upd_ne (by rintro rfl; rw [h] at q; cases q)]; exact q⟩)
    · exact .inr q
  oth := fun a u q hi ht => by rw [upd_ne (ne_of_none q hn)]; exact e.oth a u q hi ht
  thr := fun a u q n => by
    have z : a ≠ D := ne_of_none q hn
    rw [upd_ne z]; exact e.thr a u q n
theorem RX.idle {cls : Value} {d : Option Addr} {x : Ex} (r : RX G (D :: B) ι H cls d x) : RX G B ι H cls d x := by
  obtain ⟨h1, da, w, h2, h3, h4⟩ := r
  exact ⟨h1, da, w, h2, h3, h4.idle⟩
theorem RKs.zip : ∀ {ks : List Key} {xs : List MV} {vs : List V}, RVs G B ι H xs vs → xs.length = ks.length → RKs G B ι H (ks.zip xs) (ks.zip vs)
  | [], _, _, _, _ => by simp; exact .nil
  | k :: ks, _, _, .nil, h => by simp at h
  | k :: ks, _, _, .cons q r, h => .cons q (RKs.zip r (by simpa using h))
end
/-- merged into nothing -/
theorem merge_new : ∀ {ks more : List Key} {vs : List V} {acc : List (Key × V)}, (∀ k ∈ ks, k ∉ acc.map (·.1)) → ks.Nodup → mergeK acc (ks.zip vs) = acc ++ ks.zip vs
  | [], _, vs, acc, _, _ => by simp [mergeK]
  | k :: ks, more, [], acc, _, _ => by simp [mergeK]
  | k :: ks, more, v :: vs, acc, h, nd => by
    have e : mergeK acc ((k :: ks).zip (v :: vs)) = mergeK (putK acc k v) (ks.zip vs) := rfl
    have hk : (acc.any fun kv => decide (kv.1 = k)) = false := by
      rw [List.any_eq_false]
      intro p hp z
      have := h k List.mem_cons_self
      exact this (by rw [List.mem_map]; exact ⟨p, hp, by simpa using z⟩)
    have e2 : putK acc k v = acc ++ [(k, v)] := by
      unfold putK
      rw [hk]
      simp
    rw [e, e2, merge_new (more := more) (fun k' hk' => ?_) (List.nodup_cons.mp nd).2]
    · simp
    · simp only [List.map_append, List.map_cons, List.map_nil, List.mem_append, List.mem_singleton, not_or]
      exact ⟨h k' (List.mem_cons_of_mem _ hk'), fun z => by subst z; exact (List.nodup_cons.mp nd).1 hk'⟩
section
variable {X : Cx} {G : GI} {W : WX} {wd : Wd}
/-- the values of a display, one by one -/
inductive DPs (X : Cx) (G : GI) (W : WX) (wd : Wd) : List Key → ES → List (Option Expr) → List Expr → Prop where
  | nil : DPs X G W wd [] .nil [] []
  | cons {k : Key} {ks : List Key} {e' : E} {es' : ES} {kx : Expr} {kxs : List (Option Expr)} {e : Expr} {es : List Expr} (hk : PE X kx (tC (kV k))) (he : PE X e (tE G W wd e')) (r : DPs X G W wd ks es' kxs es) : DPs X G W wd (k :: ks) (.cons e' es') (some kx :: kxs) (e :: es)
def dTrs (G : GI) (W : WX) (wd : Wd) : List Key → ES → List (TE × TE)
  | k :: ks, .cons e es => (tC (kV k), tE G W wd e) :: dTrs G W wd ks es
  | _, _ => []
theorem DPs.pps {pos : Pos} {ks : List Key} {es' : ES} {kxs : List (Option Expr)} {es : List Expr} (h : DPs X G W wd ks es' kxs es) : PPs X pos kxs es (dTrs G W wd ks es') := by
  induction h with
  | nil => exact pps_nil
  | cons hk he _ ih => exact pps_cons hk he ih
theorem DPs.len {ks : List Key} {es' : ES} {kxs : List (Option Expr)} {es : List Expr} (h : DPs X G W wd ks es' kxs es) : kxs.length = es.length ∧ ks.length = es.length ∧ esLen es' = ks.length ∧ kxs.all (·.isSome) = true := by
  induction h with
  | nil => exact ⟨rfl, rfl, rfl, rfl⟩
  | cons _ _ _ ih => exact ⟨by simp [ih.1], by simp [ih.2.1], by simp [esLen, ih.2.2.1], by simp [ih.2.2.2]⟩
theorem tPairs_of : ∀ {ks : List Key} {es : ES} {σ : L2.St} {H : Hp} {Q : List (V × V) → Hp → Prop} {B ι : List Addr} {μ : Mem} {ρ : Env} {good : List MV → Mem → Prop}, esLen es = ks.length → ER G B ι H ρ σ → HR G B ι H μ → Out (evs wd es ρ μ) good (Bad G B ι H W σ) →
    (∀ xs μ' vs H' ι', xs.length = ks.length → good xs μ' → Ext G.K ι H ι' H' → HR G B ι' H' μ' → RVs G B ι' H' xs vs → Q ((ks.zip vs).map fun kv => (kV kv.1, kv.2)) H') → tPairs (dTrs G W wd ks es) σ H Q
  | [], .nil, σ, H, Q, B, ι, μ, ρ, good, _, er, hr, h, k => by
    simp only [evs] at h
    exact k [] μ [] H ι rfl h Ext.refl hr .nil
  | k0 :: ks, .cons e es, σ, H, Q, B, ι, μ, ρ, good, hl, er, hr, h, k => by
    simp only [evs] at h
    show tE G W wd e σ H _
    refine tE_then er hr h.bnd fun x μ1 v H1 ι1 g e1 hr1 rx _ => ?_
    refine tPairs_of (by simpa [esLen] using hl) (er.mono e1) hr1 (g.bnd.mono (fun _ _ q => q) fun _ _ q => q.ext e1) fun xs μ' vs H' ι' hx g' e2 hr2 rs => ?_
    have g' : good (x :: xs) μ' := g'
    exact k (x :: xs) μ' (v :: vs) H' ι' (by simp [hx]) g' (e1.trans e2) hr2 (.cons (rx.mono e2) rs)
  | [], .cons e es, _, _, _, _, _, _, _, _, hl, _, _, _, _ => by simp [esLen] at hl
  | _ :: _, .nil, _, _, _, _, _, _, _, _, hl, _, _, _, _ => by simp [esLen] at hl
theorem s_dsp {ks : List Key} {es' : ES} {kxs : List (Option Expr)} {es : List Expr} {pos : Pos} (h : DPs X G W wd ks es' kxs es) (h0 : kxs ≠ []) (h15 : kxs.length ≤ 15) : PE X (.Dict kxs es pos) (tE G W wd (.dsp ks es')) :=
  peW (pe_disp h.pps h.len.2.2.2 h.len.1 h0 h15) fun σ H Q ⟨B, ι, μ, ρ, er, hr, z⟩ => by
    simp only [ev] at z
    intro p hp
    have er1 : ER G (p :: B) ι (upd H p (.dK [])) ρ σ := er.busy hp
    have hr1 : HR G (p :: B) ι (upd H p (.dK [])) μ := hr.busy hp .d
    have e0 : Ext G.K ι H ι (upd H p (.dK [])) := Ext.push hp
    refine tPairs_of h.len.2.2.1 er1 hr1 (z.bnd.mono (fun _ _ q => q) fun x μ' q cls d H' ι' e2 hr2 rx => q cls d H' ι' (e0.trans e2) hr2.idle rx.idle) fun xs μ' vs H' ι' hx g e2 hr2 rs => ?_
    have hD : H' p = some (.dK []) := e2.oth _ _ upd_same (hr1.bu p List.mem_cons_self).2 (fun _ y => by cases y)
    refine ⟨hD, ks.zip vs, rfl, ?_, ?_⟩
    · have := h.len
      rw [List.length_zip]
      omega
    split at g
    · rename_i hk
      have em : mergeK [] (ks.zip vs) = ks.zip vs := by
        rw [merge_new (more := []) (by simp) hk.2.1]; rfl
      rw [em]
      have eD := (e0.trans e2).fill (o := .dK (ks.zip vs)) hp hD
      have hr3 := hr2.fill (o := .dK (ks.zip vs)) .d hD
      have rk := (RKs.zip rs hk.1).fill (o := .dK (ks.zip vs)) hD
      have hf : ∀ o ws, (upd H' p (.dK (ks.zip vs))) p ≠ some (.frz o (.lst ws)) := fun o ws y => by rw [upd_same] at y; cases y
      have hr4 : HR G B (ι' ++ [p]) (upd H' p (.dK (ks.zip vs))) (μ' ++ [.dic (ks.zip xs)]) := hr3.own (o := .dic (ks.zip xs)) hf (hr.no hp) ⟨_, upd_same, rk.own hf⟩
      refine g (.ref p) _ (ι' ++ [p]) ?_ hr4 (.loc ?_) (fun y => by cases y)
      · refine ⟨?_, fun b hb => ?_, eD.tup, eD.oth, eD.thr⟩
        · obtain ⟨t, rfl⟩ := eD.pre
          exact ⟨t ++ [p], by simp⟩
        · rcases List.mem_append.mp hb with y | y
          · exact eD.fr b y
          · simp at y; subst y; exact .inr (Nw.of hp)
      · rw [← hr2.len]; simp
    · exact g.elim
end
end MI
end
section
set_option Elab.async false
set_option linter.all false
set_option maxHeartbeats 8000000
/-! MI: programs beside the text: what is looked at. -/
namespace MI
open PySem PySem.Spec PyProof.Rows L2
/-- a name of the module: a constant, a def (its number, its parameters, its defaults) -/
inductive GE where
  | con (v : MV) | fn (f np : Nat) (ds : List MV) (sg : List (List Str × List Nat)) | cls (c : Nat) (rs : Bool) | hr (f : Nat)
structure CS where
  N : List Str
  sc : Scope
  fo : Str → Bool
  gl : List (Str × GE)
  bi : List Str
  hd : Bool := false
  lm : Bool := false
def relS (scope sc : Scope) : Scope := { scope with names := scope.names.map fun (n, k) => if (k == .free && sc.kind == .function && sc.names.lookup n == some .cell) then (n, .cell) else (n, k) }
def CS.blk (cs : CS) (scope : Scope) : CS := { cs with sc := relS scope cs.sc, fo := fun x => scope.names.lookup x == some .cell, hd := false, lm := false }
def CS.lam (cs : CS) (scope : Scope) : CS := { cs with sc := scope, fo := fun _ => false, hd := false, lm := false }
/-- no parameters -/
def noArgs : Arguments → Bool
  | ⟨[], [], none, [], [], none, []⟩ => true
  | _ => false
/-- a check: a part of the program, a part of the text -/
inductive Q where
  | e (a : E) (x : Expr) | es (a : ES) (xs : List Expr) | t (a : E) (x : Expr) | w (a : E) (op : BoolOp) (xs : List Expr) (pos : Pos) | o (h : Bool) (a : E) (x : Option Expr)
  | i (a : It) (tg x : Expr) | g (a : MI.G) (x : Expr) | gs (a : GS) (xs : List Expr) | d (ks : List Key) (es : ES) (kxs : List (Option Expr)) (vs : List Expr) | k (a : ES) (kws : List Keyword)
def plainE : Expr → Bool
  | .Starred .. => false
  | _ => true
def sliceE : Expr → Bool
  | .Slice .. => true
  | _ => false
def testE : Expr → Bool
  | .UnaryOp .. | .BoolOp .. | .IfExp .. | .Compare .. => false
  | _ => true
def setE : Expr → Bool
  | .Set .. => true
  | _ => false
def baseE : Expr → Bool
  | .Name .. | .Subscript .. => true
  | .Call (.Attribute ..) .. => true
  | _ => false
def conOk : MV → Const → Bool
  | .non, .none => true
  | .bl a, .bool b => a == b
  | .int i, .int j => i == j
  | .str s, .str t => decide (s = t)
  | _, _ => false
def nd (x : Str) : Bool := !(x == ("__debug__" : Str))
def ncd (x : Str) : Bool := !(x == ("__classdict__" : Str))
def CS.glx (cs : CS) (x : Str) : Bool := decide (cs.sc.names.lookup x = some .globalImplicit)
def CS.vis (cs : CS) (x : Str) : Bool := decide (cs.sc.names.lookup x = some .local) || decide (cs.sc.names.lookup x = some .cell) || decide (cs.sc.names.lookup x = some .free)
/-- a built-in of that name -/
def CS.blt (cs : CS) (x y : Str) : Bool := decide (x = y) && cs.glx x && decide (x ∈ cs.bi)
def biN : Bi → Option Str
  | .len => some "len"
  | .abs => some "abs"
  | .min2 => some "min"
  | .max2 => some "max"
  | .int1 => some "int"
  | .tup1 => some "tuple"
  | .lst1 => some "list"
  | .srt1 => some "sorted"
  | .all1 => some "all"
  | .any1 => some "any"
  | .sum1 => some "sum"
  | _ => none
def clS : Cl → Option Str
  | .int => some "int"
  | .bool => some "bool"
  | .tuple => some "tuple"
  | .list => some "list"
  | .str => some "str"
  | .dict => some "dict"
  | .own _ => none
def dkey : L2.Key → Expr → Bool
  | .inl i, .Constant (.int j) _ _ => i == j
  | .inr s, .Constant (.str t) _ _ => decide (s = t)
  | _, _ => false
def ownN (N : List Str) (own : List Nat) : List (Str × Nat) := own.map fun i => (N.getD i "", i)
def noCall : Expr → Bool
  | .Starred .. => false
  | _ => true
section
variable (r : CS → Q → Bool) (cs : CS)
def ckE : E → Expr → Bool
  | .con v, .Constant c _ _ => conOk v c
  | .con v, .Name x _ => cs.glx x && nd x && (match cs.gl.lookup x with
    | some (.con w) => decide (v = w)
    | _ => false)
  | .var i, .Name x _ => decide (cs.N[i]? = some x) && cs.vis x && nd x && ncd x
  | .bin o a b, .BinOp l op u _ => decide (opOf op = some o) && r cs (.e a l) && r cs (.e b u)
  | .neg a, .UnaryOp .USub l _ => r cs (.e a l)
  | .nt a, .UnaryOp .Not l _ => r cs (.e a l)
  | .cmp o a b, .Compare l [op] [u] _ => decide (copOf op = some o) && !behindInMarks op u && r cs (.e a l) && r cs (.e b u)
  | .chn o p a b c, .Compare l [op, op'] [m, u] _ => decide (copOf op = some o) && decide (copOf op' = some p) && !lastMarks [op, op'] [m, u] && r cs (.e a l) && r cs (.e b m) && r cs (.e c u)
  | .an a b, .BoolOp .And [x, y] _ => r cs (.e a x) && r cs (.e b y)
  | .an a b, .BoolOp .And (x :: y :: z :: rest) pos => r cs (.e a x) && r cs (.e b (.BoolOp .And (y :: z :: rest) pos))
  | .orr a b, .BoolOp .Or [x, y] _ => r cs (.e a x) && r cs (.e b y)
  | .orr a b, .BoolOp .Or (x :: y :: z :: rest) pos => r cs (.e a x) && r cs (.e b (.BoolOp .Or (y :: z :: rest) pos))
  | .ife c a b, .IfExp t x y _ => r cs (.t c t) && r cs (.e a x) && r cs (.e b y)
  | .tup es, .Tuple xs _ _ => r cs (.es es xs)
  | .lst es, .List xs _ => r cs (.es es xs)
  | .chg a, x => al a && r cs (.e a x)
  | .idx a b, .Subscript x i _ => !sliceE i && r cs (.e a x) && r cs (.e b i)
  | .slc a hl lo hh hi, .Subscript x (.Slice l u none _) _ => r cs (.e a x) && r cs (.o hl lo l) && r cs (.o hh hi u)
  | .app _ f es ds, .Call (.Name x _) (y :: ys) [] _ => cs.glx x && nd x && (match cs.gl.lookup x with
    | some (.fn f' np dvs _) => decide (f = f') && decide (ds.length ≤ dvs.length) && decide (ds = dvs.drop (dvs.length - ds.length)) && decide (esLen es + ds.length = np)
    | _ => false) && plainE y && ys.all plainE && r cs (.es es (y :: ys))
  | .apk f es sel, .Call (.Name x _) [] kws _ => cs.glx x && nd x && (match cs.gl.lookup x with
    | some (.fn f' np _ sg) => decide (f = f') && sg.any (fun p => decide (kws.map (·.arg) = p.1.map some) && decide (sel = p.2.map .inl) && decide (p.1.length = esLen es)) && decide (sel.length = np)
    | _ => false) && r cs (.k es kws)
  | .hrd f a, .Call (.Name x _) [.Lambda params body scope _] [] _ => cs.lm && cs.glx x && nd x && (match cs.gl.lookup x with
    | some (.hr f') => decide (f = f')
    | _ => false) && LamX.lamSB cs.sc scope && noArgs params && r (cs.lam scope) (.e a body)
  | .blt f es, .Call (.Name x _) (y :: ys) [] _ => cs.glx x && decide (x ∈ cs.bi) && decide (biN f = some x) && plainE y && ys.all plainE && r cs (.es es (y :: ys))
  | .isi a [.own d], .Call (.Name x _) [y, .Name t _] [] _ => cs.blt x "isinstance" && cs.glx t && nd t && (match cs.gl.lookup t with
    | some (.cls d' _) => decide (d = d')
    | _ => false) && plainE y && r cs (.e a y)
  | .isi a [c], .Call (.Name x _) [y, .Name t _] [] _ => cs.blt x "isinstance" && cs.glx t && decide (t ∈ cs.bi) && decide (clS c = some t) && plainE y && r cs (.e a y)
  | .fld f a, .Attribute y n _ => decide (f = n) && decide (f ≠ "") && baseE y && r cs (.e a y)
  | .mth .append o (.cons e .nil), .Call (.Attribute b nm apos) [y] [] cpos => decide (nm = ("append" : Str)) && baseE b && (apos.endLine == cpos.line) && plainE y && r cs (.e o b) && r cs (.e e y)
  | .mth .pop1 o (.cons e .nil), .Call (.Attribute b nm apos) [y] [] cpos => decide (nm = ("pop" : Str)) && baseE b && (apos.endLine == cpos.line) && plainE y && r cs (.e o b) && r cs (.e e y)
  | .mth .pop0 o .nil, .Call (.Attribute b nm apos) [] [] cpos => decide (nm = ("pop" : Str)) && baseE b && (apos.endLine == cpos.line) && r cs (.e o b)
  | .sdf o k, .Call (.Attribute b nm apos) [y, .List [] _] [] cpos => decide (nm = ("setdefault" : Str)) && baseE b && (apos.endLine == cpos.line) && plainE y && r cs (.e o b) && r cs (.e k y)
  | .lcm own it g c e, .ListComp elt [⟨tg, iter, ifs, 0⟩] scope _ => blkC cs.N cs.sc scope (ownN cs.N own) && (gNames g).all (fun i => decide (i ∈ own)) && !setE iter && r cs (.i it tg iter) && r (cs.blk scope) (.g g tg) && r (cs.blk scope) (.e e elt) && (match ifs with
    | [] => (match c with
      | .con (.bl true) => true
      | _ => false)
    | [t] => r (cs.blk scope) (.t c t)
    | _ => false)
  | .lrg t (.cons a .nil), .Call (.Name f _) [.Call (.Name q _) [y] [] _] [] _ => cs.blt f (if t = true then "tuple" else "list") && cs.blt q "range" && plainE y && r cs (.e a y)
  | .dsp [] .nil, .Dict [] [] _ => true
  | .dsp ks es, .Dict kxs vs _ => decide (kxs ≠ []) && decide (kxs.length ≤ 15) && r cs (.d ks es kxs vs)
  | _, _ => false
def ckEs : ES → List Expr → Bool
  | .nil, [] => true
  | .cons a es, x :: xs => plainE x && r cs (.e a x) && r cs (.es es xs)
  | _, _ => false
def ckK : ES → List Keyword → Bool
  | .nil, [] => true
  | .cons a es, ⟨_, x, _⟩ :: xs => plainE x && r cs (.e a x) && r cs (.k es xs)
  | _, _ => false
def ckT : E → Expr → Bool
  | .cmp o a b, .Compare l [op] [u] _ => decide (copOf op = some o) && !behindInMarks op u && r cs (.e a l) && r cs (.e b u)
  | .chn o p a b c, .Compare l [op, op'] [m, u] _ => decide (copOf op = some o) && decide (copOf op' = some p) && !lastMarks [op, op'] [m, u] && r cs (.e a l) && r cs (.e b m) && r cs (.e c u)
  | .nt a, .UnaryOp .Not x _ => r cs (.t a x)
  | .an a b, .BoolOp .And (x :: y :: rest) pos => r cs (.t a x) && r cs (.w b .And (y :: rest) pos)
  | .orr a b, .BoolOp .Or (x :: y :: rest) pos => r cs (.t a x) && r cs (.w b .Or (y :: rest) pos)
  | a, x => testE x && r cs (.e a x)
def ckW : E → BoolOp → List Expr → Pos → Bool
  | a, _, [x], _ => r cs (.t a x)
  | .an a b, .And, x :: y :: rest, pos => r cs (.t a x) && r cs (.w b .And (y :: rest) pos)
  | .orr a b, .Or, x :: y :: rest, pos => r cs (.t a x) && r cs (.w b .Or (y :: rest) pos)
  | _, _, _, _ => false
def ckO : Bool → E → Option Expr → Bool
  | false, .con .non, none => true
  | true, a, some x => r cs (.e a x)
  | _, _, _ => false
def ckI : It → Expr → Expr → Bool
  | .enu a, .Tuple _ _ _, .Call (.Name x _) [y] [] _ => cs.blt x "enumerate" && plainE y && r cs (.e a y)
  | .zip a b, .Tuple _ _ _, .Call (.Name x _) [y, z] [] _ => cs.blt x "zip" && plainE y && plainE z && r cs (.es (.cons a (.cons b .nil)) [y, z])
  | .rng es, _, .Call (.Name x _) [a] [] _ => cs.blt x "range" && decide (esLen es = 1) && plainE a && r cs (.es es [a])
  | .rng es, _, .Call (.Name x _) [a, b] [] _ => cs.blt x "range" && decide (esLen es = 2) && plainE a && plainE b && r cs (.es es [a, b])
  | .rng es, _, .Call (.Name x _) [a, b, c] [] _ => cs.blt x "range" && decide (esLen es = 3) && plainE a && plainE b && plainE c && r cs (.es es [a, b, c])
  | .seq a, _, x => r cs (.e a x)
  | _, _, _ => false
def gsLen : GS → Nat
  | .nil => 0
  | .cons _ gs => gsLen gs + 1
def ckG : MI.G → Expr → Bool
  | .nm i, .Name x _ => decide (cs.N[i]? = some x) && (decide (cs.sc.names.lookup x = some .local) || (decide (cs.sc.names.lookup x = some .cell) && cs.fo x))
  | .tp gs, .Tuple es _ _ => es.all plainE && decide (gsLen gs = es.length) && r cs (.gs gs es)
  | .ix a b, .Subscript o i _ => !sliceE i && r cs (.e a o) && r cs (.e b i)
  | _, _ => false
def ckGs : GS → List Expr → Bool
  | .nil, [] => true
  | .cons g gs, x :: xs => plainE x && r cs (.g g x) && r cs (.gs gs xs)
  | _, _ => false
def ckD : List L2.Key → ES → List (Option Expr) → List Expr → Bool
  | [], .nil, [], [] => true
  | k :: ks, .cons a es, some kx :: kxs, x :: xs => dkey k kx && r cs (.e a x) && r cs (.d ks es kxs xs)
  | _, _, _, _ => false
end
def ck : Nat → CS → Q → Bool
  | 0, _, _ => false
  | n + 1, cs, q => match q with
    | .e a x => ckE (ck n) cs a x
    | .es a x => ckEs (ck n) cs a x
    | .t a x => ckT (ck n) cs a x
    | .w a op xs pos => ckW (ck n) cs a op xs pos
    | .o h a x => ckO (ck n) cs h a x
    | .i a tg x => ckI (ck n) cs a tg x
    | .g a x => ckG (ck n) cs a x
    | .gs a xs => ckGs (ck n) cs a xs
    | .d ks es kxs vs => ckD (ck n) cs ks es kxs vs
    | .k a kws => ckK (ck n) cs a kws
end MI
end
section
set_option Elab.async false
set_option linter.all false
set_option maxHeartbeats 8000000
/-! MI: calls by keywords alone. -/
namespace MI
open PySem PySem.Spec PyProof.Rows L2
def pick {α : Type} (pm : List Nat) (xs : List α) : List α := pm.filterMap (xs[·]?)
theorem pick_vals : ∀ {pm : List Nat} {vs : List V} {us : List Value}, Vals vs us → Vals (pick pm vs) (pick pm us)
  | [], _, _, _ => .nil
  | i :: pm, vs, us, r => by
    have ih := pick_vals (pm := pm) r
    unfold pick at ih ⊢
    rw [List.filterMap_cons, List.filterMap_cons]
    have hl := r.length
    by_cases hi : i < vs.length
    · have hi2 : i < us.length := by omega
      rw [List.getElem?_eq_getElem hi, List.getElem?_eq_getElem hi2]
      obtain ⟨u, hu, ru⟩ := r.get (List.getElem?_eq_getElem hi)
      rw [List.getElem?_eq_getElem hi2] at hu
      cases hu
      exact .cons ru ih
    · rw [List.getElem?_eq_none (by omega), List.getElem?_eq_none (by omega)]
      exact ih
theorem pick_rv {G : GI} {B ι : List Addr} {H : Hp} {xs : List MV} {vs : List V} (r : RVs G B ι H xs vs) : ∀ {pm : List Nat} {ys : List MV}, selA (pm.map .inl) xs = some ys → RVs G B ι H ys (pick pm vs) ∧ ys.length = pm.length
  | [], ys, h => by
    simp only [List.map_nil, selA] at h
    cases h
    exact ⟨.nil, rfl⟩
  | i :: pm, ys, h => by
    simp only [List.map_cons, selA] at h
    obtain ⟨x, hx, h⟩ := Option.bind_eq_some_iff.mp h
    obtain ⟨zs, hz, rfl⟩ := Option.map_eq_some_iff.mp h
    obtain ⟨v, hv, rv⟩ := r.get hx
    have ih := pick_rv r hz
    refine ⟨?_, by simp [ih.2]⟩
    unfold pick
    rw [List.filterMap_cons, hv]
    exact .cons rv ih.1
/-- what is known of a def that may be called by keywords -/
structure FnKw (X : Cx) (G : GI) (wd : Wd) (k : Nat) (x : Str) (f np : Nat) (ks : List Str) (pm : List Nat) : Prop where
  ex : ∃ (fa : Addr) (fd : FuncData) (ps : List Str), X.mg x = some (.ref fa) ∧ PySem.W.keepIn X.K (.ref fa) = true ∧ KBn X.K fd ps 0 ks (fun _ ws => pick pm ws) (fun _ zs => pick pm zs) ∧ FnOk X.prog X.w X.K X.mg X.base (L2.CX X.prog X.w) k fa fd ps (spM G (wd.call f) np)
def tEsK (G : GI) (W : WX) (wd : Wd) (es : ES) : TA := tEs G W wd es
theorem kw_names {env : PySem.Env} {pos : Pos} : ∀ {kws : List Keyword} {ks : List Str}, kws.map (·.arg) = ks.map some → (backToKw pos (keywordEach kws env)).all (·.1.isSome) = true ∧ (backToKw pos (keywordEach kws env)).filterMap (·.1) = ks ∧ (backToKw pos (keywordEach kws env)).any (·.1.isNone) = false
  | [], [], _ => ⟨rfl, rfl, rfl⟩
  | [], _ :: _, h => by simp at h
  | _ :: _, [], h => by simp at h
  | ⟨nm, v, p⟩ :: kws, k :: ks, h => by
    simp only [List.map_cons, List.cons.injEq] at h
    obtain ⟨h1, h2⟩ := h
    have h1 : nm = some k := h1
    subst h1
    have ih := kw_names (env := env) (pos := pos) h2
    unfold backToKw at ih ⊢
    refine ⟨?_, ?_, ?_⟩
    · simp only [keywordEach, List.map_cons, List.all_cons, Option.isSome_some, Bool.true_and]; exact ih.1
    · simp only [keywordEach, List.map_cons, List.filterMap_cons]; rw [ih.2.1]
    · simp only [keywordEach, List.map_cons, List.any_cons, Option.isNone_some, Bool.false_or]; exact ih.2.2
section
variable {X : Cx} {G : GI} {W : WX} {wd : Wd}
theorem s_knil : PK X [] (tEs G W wd .nil) := ⟨fun pos pins s σ H Q I ⟨B, ι, μ, ρ, er, hr, h⟩ => pk_nil.run pos pins s σ H Q I (by
  simp only [evs] at h
  exact h [] H ι Ext.refl hr .nil)⟩
theorem s_kcons {e : Expr} {kws : List Keyword} {e' : E} {es' : ES} {nm : Option Str} {kpos : Pos} (he : PE X e (tE G W wd e')) (hes : PK X kws (tEs G W wd es')) : PK X (⟨nm, e, kpos⟩ :: kws) (tEs G W wd (.cons e' es')) :=
  ⟨fun pos pins s σ H Q I ⟨B, ι, μ, ρ, er, hr, h⟩ => (pk_cons he hes).run pos pins s σ H Q I (by
    simp only [evs] at h
    refine tE_then er hr h.bnd fun x μ1 v H1 ι1 g e1 hr1 rx _ => ?_
    refine tEs_then (er.mono e1) hr1 (g.bnd.mono (fun _ _ q => q) fun _ _ q => q.ext e1) fun xs μ2 vs H2 ι2 g e2 hr2 rs => ?_
    exact g (v :: vs) H2 ι2 (e1.trans e2) hr2 (.cons (rx.mono e2) rs))⟩
theorem s_apk {k f np : Nat} {x : Str} {kws : List Keyword} {e' : ES} {ks : List Str} {pm : List Nat} {p pos : Pos} (tk : Takes X W) (F : FnKw X G wd k x f np ks pm) (hn : pm.length = np) (hr : Room k X.A) (hg : Gl X x) (hdb : (x == ("__debug__" : Str)) = false) (hk : kws.map (·.arg) = ks.map some) (hl : ks.length = esLen e')
    (ha : PK X kws (tEs G W wd e')) : PE X (.Call (.Name x p) [] kws pos) (tE G W wd (.apk f e' (pm.map .inl))) := by
  obtain ⟨fa, fd, ps, hm, hkp, hb, F⟩ := F.ex
  obtain ⟨n1, n2, n3⟩ := kw_names (env := X.env) (pos := pos) hk
  refine ⟨fun pins s σ H Q I ⟨B, ι, μ, ρ, er, hr0, h⟩ => ?_⟩
  simp only [ev] at h
  refine wpAny_Call_Name_kw (ld_glob I hg hm ?_ hdb)
  refine PySem.W.callWith_KW0 (h₀ := X.base) I.ok.mod.kin hkp n1 (thn (ha.run pos pins s σ H (fun vs H1 => vs.length = esLen e' ∧ spM G (wd.call f) np (pick pm vs) H1 Q (WE W σ)) I ?_) fun ws s2 ⟨zs, H2, I2, rz, hz, q2⟩ => ⟨I2.kIn, ?_⟩) (by
    rw [n3] <;> rfl)
  · refine tEs_then er hr0 h.bnd.len fun xs μ1 vs H1 ι1 ⟨hx, g⟩ e1 hr1 rs => ?_
    refine ⟨by rw [← rs.length]; exact hx, ?_⟩
    split at g
    · rename_i ys hs
      obtain ⟨r2, l2⟩ := pick_rv rs hs
      refine ⟨by rw [← r2.length, l2, hn], B, ι1, μ1, ys, hr1, r2, ?_⟩
      exact gc_of hr1 (g.mono (fun v μ' q w H' ι' e' hr' rv => q w H' ι' (e1.trans e') hr' rv fun z => by cases z) fun x μ' q cls d H' ι' e' hr' rx => q cls d H' ι' (e1.trans e') hr' rx)
    · exact g.elim
  · rw [n2]
    refine wpAny_call (codeAny_mono (F.run X.A X.stack s2 H2 ⟨[], ks.zip ws⟩ (pick pm ws) (pick pm zs) Q (WE W σ) hr I2.env0 (hb.to s2 [] ws I2.kIn rfl (rz.length.symm.trans (hz.trans hl.symm))) (pick_vals rz) q2) fun r s' hq => ?_)
    cases r with
    | error e => exact passAt tk σ pins H2 s2 e s' I2 hq
    | ok fl =>
      cases fl with
      | ret u => exact I2.after hq
      | next => exact False.elim hq
      | brk => exact False.elim hq
      | cont => exact False.elim hq
end
end MI
end
section
set_option Elab.async false
set_option linter.all false
set_option maxHeartbeats 8000000
/-! MI: errors that are held: isinstance, their field. -/
namespace MI
open PySem PySem.Spec PyProof.Rows L2
/-- what the text's error class at C, with the field f, must be -/
structure ExF (K : PySem.W.Frag) (C : Addr) (f : Str) : Prop where
  cl : (PySem.W.clsIn K C).isSome = true
  ga : PySem.W.findIn K (.ref C) "__getattribute__" = some (some (.builtin "BaseException.__getattribute__"))
  gg : PySem.W.findIn K (.ref C) "__getattr__" = some none
  sb : PySem.W.subIn K (.ref C) (.type "BaseException") = some true
  ca : PySem.W.findIn K (.ref C) "__class__" = some (some (.builtin "object.__class__"))
  cg : PySem.W.specialIn K (.builtin "object.__class__") "__get__" = some (some (.builtin "getset_descriptor.__get__"))
  ct : PySem.W.takesIn K (.builtin "object.__class__") = some true
  mo : PySem.W.mroIn K C (.type "object") = some true
  hd : PySem.W.hasDictIn K C = true
  no : PySem.W.findIn K (.ref C) f = some none
def exfB (K : PySem.W.Frag) (C : Addr) (f : Str) : Bool := (PySem.W.clsIn K C).isSome && decide (PySem.W.findIn K (.ref C) "__getattribute__" = some (some (.builtin "BaseException.__getattribute__"))) && decide (PySem.W.findIn K (.ref C) "__getattr__" = some none) &&
  decide (PySem.W.subIn K (.ref C) (.type "BaseException") = some true) && decide (PySem.W.findIn K (.ref C) "__class__" = some (some (.builtin "object.__class__"))) && decide (PySem.W.specialIn K (.builtin "object.__class__") "__get__" = some (some (.builtin "getset_descriptor.__get__"))) &&
  decide (PySem.W.takesIn K (.builtin "object.__class__") = some true) && decide (PySem.W.mroIn K C (.type "object") = some true) && PySem.W.hasDictIn K C && decide (PySem.W.findIn K (.ref C) f = some none)
theorem exf_of {K : PySem.W.Frag} {C : Addr} {f : Str} (h : exfB K C f = true) : ExF K C f := by
  unfold exfB at h
  simp only [Bool.and_eq_true, decide_eq_true_eq] at h
  obtain ⟨⟨⟨⟨⟨⟨⟨⟨⟨h1, h2⟩, h3⟩, h4⟩, h5⟩, h6⟩, h7⟩, h8⟩, h9⟩, h10⟩ := h
  exact ⟨h1, h2, h3, h4, h5, h6, h7, h8, h9, h10⟩
/-- the classes that stand beneath each other -/
def ClsOk (G : GI) (wd : Wd) : Prop := G.fld = wd.fld ∧ (∀ c d b, wd.sub c d = some b → ExF G.K (G.cls c) (G.fld c) ∧ PySem.W.kitOne G.K (.ref (G.cls c)) (.ref (G.cls d)) = some b ∧ PySem.W.exmOne G.K (.ref (G.cls c)) (.ref (G.cls d)) = some b) ∧ ∀ c, wd.fld c ≠ "" → ∃ d b, wd.sub c d = some b
section
variable {X : Cx} {G : GI} {W : WX} {wd : Wd} {B ι : List Addr} {H : Hp} {μ : Mem}
theorem inst_of {pins : List (Addr × Obj)} {σ : L2.St} {s : Shared} {C dd a : Addr} {f : Str} {w : V} (I : Inv X pins σ H s) (h : H a = some (exT C dd a)) (hd : H dd = some (.xd [(f, w)])) :
    ∃ (oe od : Obj) (mA : Str → Option Value), PySem.W.InstAt s.heap a oe C (some od) ∧ (∀ n, PySem.W.lookIn n od = some (mA n)) ∧ ∀ n, RelO ([(f, w)].lookup n) (mA n) := by
  have x : ObjOk X.prog X.w H s.heap a (exT C dd a) := I.hok a _ h
  obtain ⟨⟨oe, vs, h1, h2, h3, h4⟩, _, _⟩ := x
  have y : ObjOk X.prog X.w H s.heap dd (.xd [(f, w)]) := I.hok dd _ hd
  obtain ⟨mA, hns, hr⟩ := y
  obtain ⟨od, ho, hl⟩ := lookIn_ns hns
  exact ⟨oe, od, mA, ⟨h1, h2, by unfold PySem.W.notCls; rw [h4] <;> rfl, by rw [h3]; exact ho⟩, hl, hr⟩
/-- isinstance(e, C) of an error -/
def rIsX (K : PySem.W.Frag) : List V → Hp → VK → Prop := fun xs H Q => ∃ (a C dd D : Addr) (f : Str) (w : V) (b : Bool), xs = [.ref a, .ref D] ∧ H a = some (exT C dd a) ∧ H dd = some (.xd [(f, w)]) ∧ ExF K C f ∧ PySem.W.kitOne K (.ref C) (.ref D) = some b ∧ Q (.bl b) H
theorem call_isX : CallR X (.builtin "isinstance") (rIsX X.K) := by
  intro pins s σ H xs us Q I r h
  obtain ⟨a, C, dd, D, f, w, b, rfl, h1, h2, F, e, q⟩ := h
  obtain ⟨u1, u2, rfl, r1, r2⟩ := vals2 r
  cases (show u1 = Value.ref a from r1)
  cases (show u2 = Value.ref D from r2)
  obtain ⟨oe, od, mA, J, _, _⟩ := inst_of I h1 h2
  exact PySem.W.kia_one (PySem.W.kitx_exc F.cl F.ga F.gg F.sb F.ca F.cg F.ct F.mo) I.kIn J e (fun z => nomatch z) fun tk => ⟨.bl b, H, I.tok tk, rfl, q⟩
theorem isi_own {sub : Nat → Nat → Option Bool} {v : MV} {d : Nat} {b : Bool} (h : isCls μ sub v [.own d] = some b) : ∃ c x, v = .exo c x ∧ sub c d = some b := by
  have fin : ∀ {o : Option Bool}, (o.bind fun b => if b = true then some true else isCls μ sub v []) = some b → o = some b := fun {o} z => by
    cases o with
    | none => cases z
    | some k => cases k <;> simpa [isCls] using z
  unfold isCls at h
  have h := fin h
  cases v with
  | exo c x => exact ⟨c, x, rfl, by simpa [isCl] using h⟩
  | loc k => simp at h
  | _ => simp [isCl] at h
theorem s_isiE {x t : Str} {y : Expr} {a : E} {d : Nat} {p q pos : Pos} (hK : X.K = G.K) (cl : ClsOk G wd) (hx : x = "isinstance") (hg : Gl X x) (hm : X.mg x = none) (hgt : Gl X t) (hmt : X.mg t = some (.ref (G.cls d))) (hdt : (t == ("__debug__" : Str)) = false)
    (ha : PE X y (tE G W wd a)) (he : starEach [y, .Name t q] X.env = (false, eval y X.env) :: starEach [.Name t q] X.env) (hpl : (backTo pos (starEach [.Name t q] X.env)).any (·.1) = false) : PE X (.Call (.Name x p) [y, .Name t q] [] pos) (tE G W wd (.isi a [.own d])) := by
  subst hx
  have h2 : PE X (.Name t q) (tC (.ref (G.cls d))) := pe_glob hgt hmt rfl hdt
  have call := pe_callB (X := X) (p := p) (pos := pos) call_isX hg hm (by decide +kernel) (pa_cons ha (pa_cons h2 pa_nil rfl) he) (by decide) (by decide) he hpl
  exact peW call fun σ H Q ⟨B, ι, μ, ρ, er, hr, h⟩ => by
    simp only [ev] at h
    refine tE_then er hr h.bnd fun v μ1 w H1 ι1 g e1 hr1 r1 _ => ?_
    obtain ⟨b, hb, g2⟩ := Out.ok g
    clear g
    obtain ⟨b', hb', rfl⟩ := Option.map_eq_some_iff.mp hb
    obtain ⟨c, z, rfl, hs⟩ := isi_own hb'
    obtain ⟨F, k1, _⟩ := cl.2.1 c d b' hs
    cases r1 with
    | exo q1 q2 nb ni r1 => exact ⟨_, _, _, _, _, _, b', rfl, q1, q2, by rw [hK]; exact F, by rw [hK]; exact k1, g2 _ H1 ι1 e1 hr1 (.bl _) fun z => by cases z⟩
/-- e.f of an error -/
theorem s_fld {f n : Str} {y : Expr} {a : E} {pos : Pos} (hK : X.K = G.K) (cl : ClsOk G wd) (hc : f ≠ "") (hn : f = n) (hb : attributeBase y n X.env (eval y X.env) = eval y X.env) (ha : PE X y (tE G W wd a)) : PE X (.Attribute y n pos) (tE G W wd (.fld f a)) := by
  subst hn
  refine ⟨fun pins s σ H Q I ⟨B, ι, μ, ρ, er, hr, h⟩ => ?_⟩
  simp only [ev] at h
  refine attr_of hb (thn (ha.run pins s σ H (fun x H1 => ∃ (a C dd : Addr) (w : V), x = .ref a ∧ H1 a = some (exT C dd a) ∧ H1 dd = some (.xd [(f, w)]) ∧ ExF G.K C f ∧ Q w H1) I ?_) fun u s1 hh => ?_)
  · refine tE_then er hr h.bnd fun v μ1 w H1 ι1 g e1 hr1 r1 _ => ?_
    cases v with
    | exo c y =>
      have g : Out (if wd.fld c = f then some (.ok y, μ1) else none) (Gd G B ι H (al (.fld f a)) Q) (Bad G B ι H W σ) := g
      split at g
      · rename_i hf
        have hf2 : G.fld c = f := by rw [cl.1]; exact hf
        obtain ⟨d, b, hs⟩ := cl.2.2 c (by rw [hf]; exact hc)
        obtain ⟨F, _, _⟩ := cl.2.1 c d b hs
        cases r1 with
        | exo q1 q2 nb ni r1 =>
          rw [hf2] at F q2
          exact ⟨_, _, _, _, rfl, q1, q2, F, g _ H1 ι1 e1 hr1 r1 fun z => by cases z⟩
      · exact g.elim
    | _ => exact g.elim
  · obtain ⟨x, H1, I1, rx, a, C, dd, w, ex, q1, q2, F, q⟩ := hh
    subst ex
    obtain rfl : u = Value.ref a := rx
    obtain ⟨oe, od, mA, J, hl, hr2⟩ := inst_of I1 q1 q2
    obtain ⟨u, hu, ru⟩ := RelO.some_of (v := w) (o := mA f) (by
      have := hr2 f
      simp [List.lookup] at this
      exact this)
    exact HandSPX.exc_get I1.kIn J (by rw [hK]; exact F.ga) (by rw [hK]; exact F.gg) (by rw [hK]; exact F.sb) (PySem.W.findObj_own (by rw [hK]; exact F.hd) (by rw [hK]; exact F.no) rfl (by rw [hl, hu])) (handed_of ru) ⟨w, H1, I1.tok _, ru, q⟩
end
end MI
end
section
set_option Elab.async false
set_option linter.all false
set_option maxHeartbeats 8000000
set_option maxRecDepth 100000
/-! MI: an error of the text is made: its class's __init__ calls the one above, then sets the field. -/
namespace MI
open PySem PySem.Calls PyProof.Rows PySem.HandSPX
/-- the text of such an __init__ -/
def xArgs (f : Str) (p1 p2 : Pos) : Arguments := { posonlyargs := [], args := [⟨"self", none, p1⟩, ⟨f, none, p2⟩], vararg := none, kwonlyargs := [], kw_defaults := [], kwarg := none, defaults := [] }
def xBody (f msg : Str) (j : Nat) (q : List Pos) : List Stmt := [.Expr (.Call (.Attribute (.Call (.Name "super" (q.getD 0 ⟨0, 0, 0, 0⟩)) [] [] (q.getD 1 ⟨0, 0, 0, 0⟩)) "__init__" (q.getD 2 ⟨0, 0, 0, 0⟩)) [.Constant (.str msg) j (q.getD 3 ⟨0, 0, 0, 0⟩)] [] (q.getD 4 ⟨0, 0, 0, 0⟩)) (q.getD 5 ⟨0, 0, 0, 0⟩),
  .Assign [.Attribute (.Name "self" (q.getD 6 ⟨0, 0, 0, 0⟩)) f (q.getD 7 ⟨0, 0, 0, 0⟩)] (.Name f (q.getD 8 ⟨0, 0, 0, 0⟩)) (q.getD 9 ⟨0, 0, 0, 0⟩)]
/-- what must be known of the class at C, whose field is f -/
structure MkT (prog : Program) (K : W.Frag) (C : Addr) (f : Str) : Prop where
  cls : ∃ nm q N bs bm sn sub ab col dd k0 k1 k2 k3 k5, K.lookup C = some (excClassObj nm q C N bs bm true sn sub ab col dd k0 k1 k2 k3 k5 "ValueError.__new__") ∧ refsVE bm = true
  sa : W.findIn K (.ref C) "__setattr__" = some (some (.builtin "object.__setattr__"))
  no : W.findIn K (.ref C) f = some none
  kC : W.keepIn K (.ref C) = true
  sb : W.subIn K (.ref C) (.type "BaseException") = some true
  ty : W.typeIn K (.ref C) = some (.type "type")
  sv : W.subIn K (.ref C) (.type "ValueError") = some true
  up : W.ks_superIn K C C "__init__" = some (some (.builtin "ValueError.__init__"))
  tp : W.nsIn K cStatics "thirdparty.any" = some none
  me : W.mroIn K C (.ref C) = some true
  su : W.nsIn K mainGlobals "super" = some none
  top : (prog.main.scope.names.lookup ("super" : Str)).isSome = false
  fd : (f == ("__debug__" : Str)) = false
  fs : (f == ("self" : Str)) = false
  fn : ∃ (fI cc cda : Addr) (oc ccl cl : Value) (od cdd cld : Option Addr) (osl ccs csl : Array (Option Value)) (vs : Array Value) (file : Str) (tf : Tok) (qual : Str) (sc : Scope) (kV doc pm ct : Value) (an : Option Addr) (p1 p2 : Pos) (msg : Str) (j : Nat) (ps : List Pos),
    W.findIn K (.ref C) "__init__" = some (some (.ref fI)) ∧ W.typeIn K (.ref fI) = some (.type "function") ∧
    K.lookup fI = some ⟨oc, od, .func (W.ksFn "__init__" qual (xArgs f p1 p2) (xBody f msg j ps) sc .none kV doc pm an (.ref cda) ct cc), osl⟩ ∧ W.codeIn K (.ref cda) qual = true ∧
    K.lookup cc = some ⟨cl, cld, .cell (some (.ref C)), csl⟩ ∧ K.lookup cda = some ⟨ccl, cdd, .fields vs, ccs⟩ ∧ vs[2]? = some (.str file tf) ∧ ((prog.main.file : Str) == file) = true ∧
    sc.kind = .function ∧ sc.isCoroutine = false ∧ sc.isGenerator = false ∧ (∀ x ∈ sc.names, x.2 ≠ .cell) ∧ sc.names.lookup ("self" : Str) = some NameKind.local ∧ sc.names.lookup f = some NameKind.local ∧ sc.names.lookup ("super" : Str) = some NameKind.globalImplicit ∧ sc.names.lookup ("__class__" : Str) = some NameKind.free ∧ ((ps.getD 2 ⟨0, 0, 0, 0⟩).endLine == (ps.getD 4 ⟨0, 0, 0, 0⟩).line) = true ∧
    ∀ a b : Value, bindArgs (W.ksFn "__init__" qual (xArgs f p1 p2) (xBody f msg j ps) sc .none kV doc pm an (.ref cda) ct cc) ⟨[a, b], []⟩ = pure [(("self" : Str), a), (f, b)]
/-- what such an __init__ leaves of a fresh error at x -/
structure MkEnd (h h' : Heap) (x C dx t1 : Addr) (f : Str) (v : Value) : Prop where
  keep : ∀ b o, b ≠ x → h.get? b = some o → h'.get? b = some o
  obj : h'.get? x = some { cls := .ref C, dict := some dx, data := .fields #[.ref t1, .none, .none, .none, .bool false, .none] }
  dbig : h.objs.size ≤ dx
  dne : dx ≠ x
  ns : h'.Ns1 dx (fun y => if y = f then some v else none)
theorem one_long (v : Value) : [v].length ≤ sizeLine := by
  rw [sizeLine_eq]
  show 1 ≤ 16777216
  decide
section
variable {prog : Program} {w : World} {A : Around} {E : Value → Shared → Prop} {R : Result → Shared → Prop} {s : Shared} {K : W.Frag} {mg mb : Str → Option Value} {C : Addr} {f : Str}
theorem mk_init (T : MkT prog K C f) {fI x t0 : Addr} {v : Value} (X : K.In s.heap) (hG : s.heap.Ns mainGlobals mg) (hB : s.heap.Ns builtinsNs mb) (hb : mb "super" = some (.type "super")) (lim : s.heap.NoLimit) (hi : W.findIn K (.ref C) "__init__" = some (some (.ref fI)))
    (hx : s.heap.get? x = some (excO C t0)) (hnx : K.lookup x = none) (hroom : A.depth < recursionLimit) (hq : ∀ h' tk dx t1, MkEnd s.heap h' x C dx t1 f v → R (.ok (.ret .none)) { s with heap := h', toks := tk }) :
    codeAny (model prog w) A (.call (.ref fI) ⟨[.ref x, v], []⟩) R s := by
  obtain ⟨fI', cc, cda, oc, ccl, cl, od, cdd, cld, osl, ccs, csl, vs, file, tf, qual, sc, kV, doc, pm, ct, an, p1, p2, msg, j, ps, hi', htI, ho, hcd, hcell, hcode, hvs, hfile, k1, k2, k3, k4, k5, k6, k7, k8, kl, k9⟩ := T.fn
  rw [hi] at hi'
  cases hi'
  obtain ⟨nm, q, N, bs, bm, sn, sub, ab, col, dd, z0, z1, z2, z3, z5, hC, hbm⟩ := T.cls
  have hcl : W.clsIn K C = some { name := nm, bases := bs, mro := .ref C :: bm, ns := N, qualname := q, hasDict := true, slotNames := sn, subclasses := sub, abstract := ab, collection := col, hasDel := false } := by unfold W.clsIn; rw [hC] <;> rfl
  refine ks_codeAny_call_defAt (fd := W.ksFn "__init__" qual (xArgs f p1 p2) (xBody f msg j ps) sc .none kV doc pm an (.ref cda) ct cc) (body := xBody f msg j ps) (binds := [("self", .ref x), (f, v)]) hroom (X _ _ ho) rfl lim (W.codeRec_of X hcd) rfl
    (BindsTo.of_eq (k9 _ _)) k4 (fun y hy => by
      rcases List.mem_cons.mp hy with e | hy
      · rw [e]; exact k5
      · rw [List.mem_singleton.mp hy]; exact k6) (fun h₁ hns kk => ?_) k2 k3 k1
  have X₁ : K.In h₁ := X.keeps kk
  have hx₁ := kk _ _ hx
  have hlx : x < s.heap.objs.size := Heap.lt_size hx
  have hself : ([(("self" : Str), Value.ref x), (f, v)].reverse.lookup ("self" : Str)) = some (.ref x) := by
    have e : (("self" : Str) == f) = false := by
      have := T.fs
      rw [beq_eq_false_iff_ne] at this ⊢
      exact fun z => this z.symm
    simp [List.lookup, e]
  have hval : ([(("self" : Str), Value.ref x), (f, v)].reverse.lookup f) = some v := by simp [List.lookup]
  show PySem.wpAt (model prog w) (A.deeper (W.ksEnv qual sc s.heap.objs.size fI (.ref cda) cc)) (.func (xBody f msg j ps) (W.ksEnv qual sc s.heap.objs.size fI (.ref cda) cc)) (PySem.execs (xBody f msg j ps) (W.ksEnv qual sc s.heap.objs.size fI (.ref cda) cc)) _ _ _
  obtain ⟨hh, g, d, tk, os⟩ := s
  -- super().__init__(msg)
  refine ks_wpAt_execs_cons (ks_wpAt_Expr_any (ks_wpAt_MethodCall (pl := L2.plainOf (.Call (.Name "super" (ps.getD 0 ⟨0, 0, 0, 0⟩)) [] [] (ps.getD 1 ⟨0, 0, 0, 0⟩)) (W.ksEnv qual sc hh.objs.size fI (.ref cda) cc)) ?_ ?_) ?_ rfl)
  rotate_left
  · show (attributeBase _ _ _ _ >>= fun ov => standAt _ >>= fun _ => methodCall _ _ _ _ _ ov _ _ _) = _
    exact congrArg _ (funext fun ov => congrArg _ (funext fun _ => L2.mcall_line rfl kl))
  · show (interactive (W.ksEnv qual sc hh.objs.size fI (.ref cda) cc)) = false
    simp [interactive, W.ksEnv, W.envX, k1]
  obtain ⟨oD, cdD, hD1, hD2⟩ : ∃ oD cdD, h₁.get? C = some oD ∧ oD.data = .cls cdD := ⟨_, _, X₁ _ _ hC, rfl⟩
  have hG₁ : h₁.Ns mainGlobals mg := hG.keeps kk
  have hB₁ : h₁.Ns builtinsNs mb := hB.keeps kk
  have hms : mg "super" = none := W.mg_none_of X hG T.su
  refine ks_wpAt_super_base (env := W.ksEnv qual sc hh.objs.size fI (.ref cda) cc) k7 k8 (by decide) rfl (X₁ _ _ ho) rfl rfl rfl (X₁ _ _ hcode) rfl hvs hfile T.top ?_
  refine W.ks_loadName_global k1 k7 (loadGlobal_builtin (env := W.ksEnv qual sc hh.objs.size fI (.ref cda) cc) hG₁ hms hB₁ hb ⟨rfl, ?_⟩)
  refine wpAny_loadName_free k1 k8 rfl ⟨_, X₁ _ _ hcell, rfl⟩ ?_
  refine wpAny_loadName_local k1 k5 hns hself ?_
  refine ks_wpAny_isType_cls hD1 hD2 ⟨rfl, ?_⟩
  refine ks_wpAny_call_super hD1 hD2 hx₁ rfl (fun c e => by cases e) (W.looks_mroIn X₁ T.me) (fun h₂ hso k₂ => ?_)
  have X₂ : K.In h₂ := X₁.keeps k₂
  have hx₂ := k₂ _ _ hx₁
  have I₂ : W.InstAt h₂ x (excO C t0) C none := ⟨hx₂, rfl, rfl, trivial⟩
  refine W.kxs_getMethod W.kxs_ValueError hso (W.looks_opaque X₂ T.tp) (l₀ := .ref C :: bm) (fun A Q E s k q => wpAny_bind ((W.looks_clsIn X₂ hcl) A _ E s k (wpAny_pure q))) rfl X₂ (by
    have := T.up
    unfold W.ks_superIn at this
    rw [hcl] at this
    exact this) (I₂.type.andThen (W.looks_subIn X₂ T.sv)) (W.ks_ne X₂ I₂ hcl) (by decide) ?_
  have k₃ : ∀ b o, h₂.get? b = some o → (h₂.push (W.kxs_mw "ValueError.__init__" x)).get? b = some o := fun b o e => Heap.get?_push_of_some _ e
  have hu : (h₂.push (W.kxs_mw "ValueError.__init__" x)).get? h₂.objs.size = some (W.kxs_mw "ValueError.__init__" x) := Heap.get?_push_at rfl rfl
  refine W.kxs_callWith (i := "ValueError.__init__") (x := x) rfl (evalArgs_plain ?_)
  refine Calls.spliced_cons ?_
  refine Calls.Constant_str (k := j) (pos := ps.getD 3 ⟨0, 0, 0, 0⟩) ?_
  refine Calls.spliced_nil ⟨hu, ?_⟩
  -- the bound one is called
  have hC₃ := k₃ _ _ (X₂ _ _ hC)
  have hx₃ := k₃ _ _ hx₂
  have FB := F.excBase_ValueError
  refine wpAny_call (codeAny_of_tree ?_)
  show wpAny _ _ (callAny (.ref h₂.objs.size) ⟨[.str msg _], []⟩) _ _ _
  unfold callAny
  refine wpAny_bind (wpAny_load hu ?_)
  have e1 : (Value.type "method-wrapper" == Value.type "method" || Value.type "method-wrapper" == Value.type "builtin_function_or_method" || Value.type "method-wrapper" == Value.type "method-wrapper") = true := by decide
  simp only [W.kxs_mw, e1, if_true]
  refine W.KFB.if_so (by decide) (wpAny_bind (W.check_bound_init FB.toExcCallFacts hC₃ hx₃ rfl (wpAny_bind (wpAny_pure (wpAny_pure ?_)))))
  refine ⟨plainId_quiet FB.init.plain _, codeAny_builtin FB.initEntry (W.exc_init_tree (cls := .ref C) (t0 := t0) (dv := none) (c2 := .none) (c3 := .none) (b4 := .bool false) hx₃ (one_long _) fun h₄ k₄ hx₄ _ => ?_)⟩
  -- self.f = f
  have hL : hh.objs.size ≠ x := Nat.ne_of_gt hlx
  have old : ∀ b o, b ≠ x → h₁.get? b = some o → h₄.get? b = some o := fun b o hb e => k₄ b o hb (k₃ _ _ (k₂ _ _ e))
  have X₄ : K.In h₄ := fun b o e => old b o (fun z => by rw [z, hnx] at e; cases e) (X₁ _ _ e)
  have hns₄ : h₄.Ns hh.objs.size (fun y => [(("self" : Str), Value.ref x), (f, v)].reverse.lookup y) := by
    obtain ⟨oL, es, ep, h1, r⟩ := hns
    exact ⟨oL, es, ep, old _ _ hL h1, r⟩
  refine ks_wpAt_execs_cons (ks_wpAt_Assign_Attr (wpAt_of_wpAny ?_) rfl)
  refine wpAny_Name (wpAny_loadName_local k1 k6 hns₄ hval ?_) T.fd
  refine wpAny_Name (wpAny_loadName_local k1 k5 hns₄ hself ?_) (by decide)
  have hx₄' : h₄.get? x = some (excO C (h₂.push (W.kxs_mw "ValueError.__init__" x)).objs.size) := hx₄
  refine W.set_plain X₄ (ox := excO C (h₂.push (W.kxs_mw "ValueError.__init__" x)).objs.size) (od := none) ⟨hx₄', rfl, rfl, trivial⟩ T.sa ?_
  refine exc_osa X₄ hx₄' hcl (show refsVE (.ref C :: bm) = true from hbm) rfl T.no (fun h₅ tk₅ dx k₅ dn dne hx₅ hn₅ => ?_)
  refine wpAt_of_wpAny (wpAny_execs_nil ?_)
  exact hq h₅ tk₅ dx _ ⟨fun b o hb e => k₅ b o hb (old b o hb (kk b o e)), hx₅, Nat.le_trans (Nat.le_of_lt hns₄.lt) dn, dne, hn₅⟩
/-- such an error, made -/
structure MkD (h h' : Heap) (e C d : Addr) (f : Str) (v : Value) : Prop where
  keep : ∀ b o, h.get? b = some o → h'.get? b = some o
  new : h.objs.size ≤ e
  obj : ∃ oe vs, h'.get? e = some oe ∧ oe.cls = .ref C ∧ oe.dict = some d ∧ oe.data = .fields vs ∧ vs[1]? = some .none
  dbig : h.objs.size ≤ d
  dne : d ≠ e
  ns : h'.Ns1 d (fun y => if y = f then some v else none)
theorem mk_made (T : MkT prog K C f) {v : Value} (X : K.In s.heap) (hG : s.heap.Ns mainGlobals mg) (hB : s.heap.Ns builtinsNs mb) (hb : mb "super" = some (.type "super")) (lim : s.heap.NoLimit) (hroom : A.depth + 1 < recursionLimit)
    (hq : ∀ h' tk e d, MkD s.heap h' e C d f v → R (.ok (.ret (.ref e))) { s with heap := h', toks := tk }) : codeAny (model prog w) A (.call (.ref C) ⟨[v], []⟩) R s := by
  obtain ⟨nm, q, N, bs, bm, sn, sub, ab, col, dd, z0, z1, z2, z3, z5, hC, hbm⟩ := T.cls
  obtain ⟨fI, _, _, _, _, _, _, _, _, _, _, _, _, _, _, _, _, _, _, _, _, _, _, _, _, _, _, hi, htI, _⟩ := id T.fn
  obtain ⟨hp, g, dr, tk, os⟩ := s
  have k : ∀ b o, hp.get? b = some o → ((hp.push (W.kdv_tup [v])).push (excO C hp.objs.size)).get? b = some o := fun b o e => Heap.get?_push_of_some _ (Heap.get?_push_of_some _ e)
  have hz : (hp.push (W.kdv_tup [v])).objs.size = hp.objs.size + 1 := Heap.size_push ..
  have hget : ((hp.push (W.kdv_tup [v])).push (excO C hp.objs.size)).get? (hp.objs.size + 1) = some (excO C hp.objs.size) := by
    have := Heap.get?_push_size (hp.push (W.kdv_tup [v])) (o := excO C hp.objs.size) rfl
    rw [hz] at this; exact this
  have hnx : K.lookup (hp.objs.size + 1) = none := by
    cases e : K.lookup (hp.objs.size + 1) with
    | none => rfl
    | some o => exact absurd (Nat.lt_of_succ_lt (Heap.lt_size (X _ _ e))) (Nat.lt_irrefl _)
  refine call_own F.excBase_ValueError (fun Y => refsVE_contains Y bm hbm) (X _ _ hC) (W.looks_findIn X hi) (fun self => W.bind_fn X self htI) (one_long v) ?_
  refine mk_init (s := ⟨(hp.push (W.kdv_tup [v])).push (excO C hp.objs.size), g, dr, tk, os⟩) T (X.keeps k) (hG.keeps k) (hB.keeps k) hb (lim.keeps k) hi hget hnx hroom fun h' tk' dx t1 M => ?_
  have z : hp.objs.size + 2 ≤ dx := by
    have := M.dbig
    rw [show (Shared.heap ⟨(hp.push (W.kdv_tup [v])).push (excO C hp.objs.size), g, dr, tk, os⟩) = (hp.push (W.kdv_tup [v])).push (excO C hp.objs.size) from rfl, Heap.size_push, hz] at this
    exact this
  exact ⟨rfl, hq h' tk' (hp.objs.size + 1) dx ⟨fun b o e => M.keep b o (Nat.ne_of_lt (Nat.lt_succ_of_lt (Heap.lt_size e))) (k b o e), Nat.le_succ _, ⟨_, _, M.obj, rfl, rfl, rfl, rfl⟩, by show hp.objs.size ≤ dx; omega, M.dne, M.ns⟩⟩
end
end MI
end
section
set_option Elab.async false
set_option linter.all false
set_option maxHeartbeats 8000000
/-! MI: raise of an error of the text. -/
namespace MI
open PySem PySem.Spec PyProof.Rows L2
section
variable {X : Cx} {G : GI} {W : WX} {wd : Wd}
theorem relO_one {v : V} {v' : Value} (r : RelV v v') (f g : Str) : RelO (List.lookup g [(f, v)]) (if g = f then some v' else none) := by
  by_cases hw : g = f
  · subst hw
    rw [if_pos rfl]
    have q : List.lookup g [(g, v)] = some v := by simp [List.lookup]
    rw [q]
    exact r
  · rw [if_neg hw]
    have qw : (g == f) = false := by simpa using hw
    have q2 : List.lookup g [(f, v)] = none := by simp [List.lookup, qw]
    rw [q2]
    trivial
/-- the making of an error, as the raise wants it -/
theorem pmk_mi {C : Addr} {f x : Str} {a : Expr} {ta : TA} {p pos : Pos} {k : Nat} (T : MkT X.prog X.K C f) (hr : Room k X.A) (ha : PA X [a] ta) (hg : Gl X x) (hm : X.mg x = some (.ref C)) (hd : (x == ("__debug__" : Str)) = false)
    (he : starEach (a :: []) X.env = (false, eval a X.env) :: starEach [] X.env) : PMk X (.Call (.Name x p) [a] [] pos) (fun σ H Q => ta σ H fun vs H1 => ∃ v, vs = [v] ∧ ∀ d, H1 d = none → Q (.ref C) (some d) (upd H1 d (.xd [(f, v)]))) := by
  intro pins s σ H Q I h
  refine wpAny_Call_Name_kw (ld_glob I hg hm ?_ hd)
  refine PySem.W.callWith_K (h₀ := X.base) I.ok.mod.kin T.kC (thn (ha.run pos pins s σ H _ I h) fun us s1 hh => ?_) he rfl
  obtain ⟨vs, H1, I1, r1, v, ev, q1⟩ := hh
  subst ev
  refine ⟨I1.kIn, ?_⟩
  cases r1 with
  | @cons _ v' _ us' rv rn =>
    cases rn
    show wpAny _ _ (call (.ref C) [v']) _ _ _
    have lim := I1.nolimit
    obtain ⟨mb, b1, b2⟩ := I1.mod.blt
    have hG := I1.mod.glob.keeps I1.bk
    have hB := b1.keeps I1.bk
    have hb : mb "super" = some (.type "super") := (b2 "super" (by decide)).trans (by decide +kernel)
    obtain ⟨hp, g, dr, tk, os⟩ := s1
    refine wpAny_call (mk_made T I1.kIn hG hB hb lim (by have := hr.dp; omega) fun h' tk' e d M => ?_)
    show MkP X pins σ Q (.ref e) ⟨h', g, dr, tk', os⟩
    obtain ⟨oe, fv, hoe, hc, hdd, hdat, h1⟩ := M.obj
    obtain ⟨G', g1, g2⟩ := restrict h' fun b => decide (b ≠ e)
    have gk : ∀ b, b ≠ e → G'.get? b = h'.get? b := fun b hb => g1 b (decide_eq_true hb)
    have ge : G'.get? e = none := g2 e (by simp)
    have old : ∀ b o, hp.get? b = some o → G'.get? b = some o := fun b o q => (gk b (Nat.ne_of_lt (Nat.lt_of_lt_of_le (Heap.lt_size q) M.new))).trans (M.keep b o q)
    have ob : ObjOk X.prog X.w (upd H1 d (.xd [(f, v)])) G' d (.xd [(f, v)]) := ⟨_, M.ns.at (fun o q => (gk d M.dne).trans q), fun n => relO_one rv f n⟩
    have J : Inv X pins σ (upd H1 d (.xd [(f, v)])) ⟨G', g, dr, tk', os⟩ := I1.laid (t' := tk') old M.dbig ob
    refine ⟨e, oe, fv, ⟨G', g, dr, tk', os⟩, _, .ref C, some d, rfl, J, fun b o q => ?_, ge, hoe, ⟨hc, hdd⟩, hdat, h1, ?_, rfl, I1.bare, raises_own T.sb T.ty, q1 d (I1.hok.fresh M.dbig)⟩
    · by_cases hb : b = e
      · rw [hb] at q
        exact absurd (q.symm.trans ge) (by simp)
      · exact (gk b hb).symm.trans q
    · rw [upd_ne (Ne.symm M.dne)]
      exact I1.hok.fresh M.new
theorem s_rai {c k : Nat} {x : Str} {y : Expr} {a : E} {p pos pos2 : Pos} (hK : X.K = G.K) (hc : X.calm = true) (tk : Takes X W) (T : MkT X.prog X.K (G.cls c) (G.fld c)) (hr : Room k X.A) (ha : PA X [y] (tEs G W wd (.cons a .nil))) (hg : Gl X x) (hm : X.mg x = some (.ref (G.cls c))) (hd : (x == ("__debug__" : Str)) = false)
    (he : starEach (y :: []) X.env = (false, eval y X.env) :: starEach [] X.env) : PS X (.Raise (some (.Call (.Name x p) [y] [] pos)) none pos2) (tS G W wd (.rai c a)) :=
  psW (ps_raise hc tk (pmk_mi T hr ha hg hm hd he)) fun D σ H ⟨B, ι, μ, ρ, er, hr, h⟩ => by
    simp only [exec] at h
    refine one_arg er hr (h.thenE er) fun v μ1 w H1 ι1 g e1 hr1 r1 => ⟨w, rfl, fun d hd => ?_⟩
    have e2 : Ext G.K ι1 H1 ι1 (upd H1 d (.xd [(G.fld c, w)])) := Ext.push hd
    exact g (.ref (G.cls c)) (some d) σ _ ι1 (e1.trans e2) (hr1.pushO hd) ((er.mono e1).mono e2) ⟨rfl, d, w, rfl, upd_same, r1.mono e2⟩
end
end MI
end
section
set_option Elab.async false
set_option linter.all false
set_option maxHeartbeats 8000000
/-! MI: try: x = thunk() / except (A, B, C) as e: y = e. -/
namespace MI
open PySem PySem.Spec PyProof.Rows L2
section
variable {X : Cx} {pins : List (Addr × Obj)} {σ : L2.St} {H : Hp} {s : Shared}
/-- an object of the heap is tracked from now on -/
theorem inv_track {a : Addr} {o : HO} (I : Inv X pins σ H s) (n0 : X.s_0.heap.get? a = none) (hn : H a = none) (nL : X.env.locals ≠ a) (nc : ∀ x c, X.env.cells.lookup x = some c → c ≠ a) (np : ∀ p ∈ X.pn ++ pins, p.1 ≠ a) (new : ObjOk X.prog X.w (upd H a o) s.heap a o) : Inv X pins σ (upd H a o) s := by
  have ne0 : ∀ b u, X.s_0.heap.get? b = some u → b ≠ a := fun b u e z => by rw [z, n0] at e; cases e
  refine ⟨I.ok, I.os, I.bare, ⟨I.base.keep, I.base.slot, fun b u e n hb => ?_, I.base.there, fun b xs e => ?_, fun b u v e => ?_, fun b ps e => ?_⟩, I.loc, I.cell, ?_, fun x c e => ?_, fun p hp => ?_, fun b u e => ?_, I.len⟩
  · rw [upd_ne (ne0 b u e)]; exact I.base.free b u e n hb
  · have q := I.base.tups b xs e
    rw [upd_ne (ne_of_none q hn)]; exact q
  · have q := I.base.frzs b u v e
    rw [upd_ne (ne_of_none q hn)]; exact q
  · obtain ⟨m, q⟩ := I.base.tbls b ps e
    exact ⟨m, by rw [upd_ne (ne_of_none q hn)]; exact q⟩
  · rw [upd_ne nL]; exact I.free
  · rw [upd_ne (nc x c e)]; exact I.freeC x c e
  · obtain ⟨e, n, ne, nf, d⟩ := I.pin p hp
    exact ⟨e, by rw [upd_ne (np p hp)]; exact n, ne, nf, d⟩
  · by_cases hb : b = a
    · subst hb
      rw [upd_same] at e
      cases e
      exact new
    · rw [upd_ne hb] at e
      exact (I.hok b u e).stay (fun _ _ _ q => q) (fun c q => by rw [upd_ne (ne_of_none q hn)]; exact q) fun c xs q => by rw [upd_ne (ne_of_none q hn)]; exact q
end
/-- an error in flight, where an object is laid -/
theorem fly_push {B h : Heap} {l : List PySem.Env} {a : Addr} {Z : Obj → Prop} {o : Obj} (f : HandSPX.FlyingZ B l a Z h) : HandSPX.FlyingZ B l a Z (h.push o) := by
  obtain ⟨k1, k2, k3, oe, vs, T, oT, ts, h1, h2, h3, h4, h5, h6, h7, h8, h9⟩ := f
  refine ⟨fun b u e => Heap.get?_push_of_some _ (k1 b u e), k2, k3.of_keeps fun b u e _ => ⟨u, Heap.get?_push_of_some _ e, rfl⟩, oe, vs, T, oT, ts, Heap.get?_push_of_some _ h1, h2, h3, h4, h5, h6, Heap.get?_push_of_some _ h7, h8, h9⟩
/-- names of classes in a row, told -/
theorem spl_names {X : Cx} {pins : List (Addr × Obj)} {σ : L2.St} {H : Hp} {s : Shared} {pos : Pos} {E : Value → Shared → Prop} (I : Inv X pins σ H s) : ∀ {xs : List (Str × Pos)} {cs : List Addr} {Q : List Value → Shared → Prop}, xs.length = cs.length →
    (∀ p ∈ xs.zip cs, Gl X p.1.1 ∧ X.mg p.1.1 = some (.ref p.2) ∧ (p.1.1 == ("__debug__" : Str)) = false) → Q (cs.map Value.ref) s → wpAny (model X.prog X.w) X.A (spliced (backTo pos (starEach (xs.map fun p => .Name p.1 p.2) X.env))) Q E s
  | [], [], _, _, _, q => Calls.spliced_nil q
  | [], _ :: _, _, h, _, _ => by simp at h
  | _ :: _, [], _, h, _, _ => by simp at h
  | (x, p) :: xs, c :: cs, Q, h, k, q => by
    obtain ⟨h1, h2, h3⟩ := k ((x, p), c) (by simp)
    refine Calls.spliced_cons (ld_glob I h1 h2 ?_ h3)
    exact spl_names I (Q := fun us s' => Q (.ref c :: us) s') (by simpa using h) (fun z hz => k z (by simp only [List.zip_cons_cons, List.mem_cons]; exact .inr hz)) q
section
variable {X : Cx} {body : List Stmt} {tb : WX → TS} {Wout : WX} {i j : Nat} {n z : Str} {xs : List (Str × Pos)} {cs : List Addr} {kk : Nat} {tp np zp p5 p6 pos : Pos}
/-- what the clause wishes of an error of the body: it is held by the name in slot j -/
def wTrk (K : PySem.W.Frag) (cs : List Addr) (i j : Nat) (D : Ends) : WX := fun cls d σ H => PySem.W.exmAny K cls (cs.map Value.ref) = some true ∧ ∃ C dd, cls = .ref C ∧ d = some dd ∧
  ∀ a, H a = none → D.nx (((σ.set i (some (.ref a))).set j (some (.ref a))).set i none) (upd H a (exT C dd a))
theorem ps_try_trk (hs : X.stack = X.env :: X.outer) (hf : X.env.frame = some X.env.locals) (hex : X.ex = []) (hN : X.N.Nodup) (hi : X.N[i]? = some n) (hln : X.env.kindOf n = some .local) (hj : X.N[j]? = some z) (hlz : X.env.kindOf z = some .local)
    (hl : xs.length = cs.length) (h3 : cs.length = 3) (hc : ∀ p ∈ xs.zip cs, Gl X p.1.1 ∧ X.mg p.1.1 = some (.ref p.2) ∧ (p.1.1 == ("__debug__" : Str)) = false) (hdn : (n == ("__debug__" : Str)) = false) (hcn : (n == ("__classdict__" : Str)) = false) (hlen : ∀ {pins σ H s}, Inv X pins σ H s → i < σ.length)
    (hb : ∀ (W : WX) (pn : List (Addr × Obj)) (xe : Value → Shared → Prop), Takes (X.tr pn xe) W → PassesOwn (model X.prog X.w) X.A X.env xe → PSs (X.tr pn xe) body (tb W)) :
    PS X (.Try body [.ExceptHandler (some (.Tuple (xs.map fun p => .Name p.1 p.2) kk tp)) (some n) [.Assign [.Name z p5] (.Name n np) p6] zp] [] [] pos) (fun D σ H => tb (wTrk X.K cs i j D) D σ H) := by
  refine ⟨fun pins s σ H D I h => ?_⟩
  have ok := I.ok
  have hfr : X.A.frames = some (X.env :: X.outer) := by rw [ok.frames, hs]
  refine wpAny_Try_except ?_
  refine wpAny_mono ((hb (wTrk X.K cs i j D) (X.pn ++ pins) (fun e s₁ => wpAny (model X.prog X.w) X.A (noteFrame e X.env) (fun _ s₂ => wpAny (model X.prog X.w) X.A (setFlight e none) (fun _ s₃ =>
    wpAny (model X.prog X.w) X.A (handleBy e X.env [.ExceptHandler (some (.Tuple (xs.map fun p => .Name p.1 p.2) kk tp)) (some n) [.Assign [.Name z p5] (.Name n np) p6] zp]) (SP X pins D) X.xe s₃) X.xe s₂) X.xe s₁) (fun u s' xx => ?_) PassesOwn.looking).run [] s σ H D (I.toTry _) h) (fun f s1 hsp => ?_) (fun e s1 he => he)
  · obtain ⟨a, B, sI, pins', σ', H', cls, d, rfl, J', nb, up, sky, na, os, ag, hm, C, dd, rfl, rfl, w⟩ := xx
    have J : Inv X pins σ' H' sI := J'.ofTry ok
    have sky' : Sky B (X.env :: X.outer) a (Zc (.ref C) (some dd)) X.env.locals s'.heap := by rw [← hs]; exact sky
    show wpAny (model X.prog X.w) X.A (noteFrame (.ref a) X.env) _ _ _
    refine Sky.land Zc.steady hfr hf sky' fun h3' fl3 up3 => ?_
    have J3 : Inv X pins σ' H' { s' with heap := h3' } := J.landed nb fl3.1 (up.trans up3) os ag
    obtain ⟨oe3, vs3, he3, hz3, hd3⟩ := fl3.there
    have nfr : a ∉ frs (X.env :: X.outer) := fun hm => by
      obtain ⟨_, o', e', hnf⟩ := fl3.2.2.1.mem hm
      rw [he3] at e'; cases e'
      exact hnf _ hd3
    have nL : a ≠ X.env.locals := fun z => nfr (List.mem_filterMap.mpr ⟨X.env, List.mem_cons_self, by rw [hf, z]⟩)
    have nF : a ∉ X.fs := fun hm => by
      obtain ⟨e, he, q⟩ := List.mem_filterMap.mp hm
      exact nfr (List.mem_filterMap.mpr ⟨e, List.mem_cons_of_mem _ he, q⟩)
    -- the error is new
    have nI : sI.heap.get? a = none := by
      cases e : sI.heap.get? a with
      | none => rfl
      | some o =>
        have := nb a o e (by rw [hs]; exact nfr)
        rw [fl3.2.1] at this; cases this
    have n0 : X.s_0.heap.get? a = none := by
      cases e : X.s_0.heap.get? a with
      | none => rfl
      | some o =>
        obtain ⟨o', e'⟩ := J.base.there a o e (by rw [hex]; simp)
        rw [nI] at e'; cases e'
    have nP : ∀ p ∈ X.pn ++ pins, p.1 ≠ a := fun p hp e => by
      have := (J.pin p hp).1
      rw [e, nI] at this; cases this
    have nC : ∀ x c, X.env.cells.lookup x = some c → c ≠ a := fun x c e q => by
      obtain ⟨v, o, ho, _⟩ := J.cell x c e
      rw [q, nI] at ho; cases ho
    have S3 := J3.suite he3 hd3 na nL nF
    refine wpAny_handleBy_cons (codeAny_handlers_test ?_) (by intro q; cases q)
    refine Tuple_ (spl_names (X := X.suite a ((a, oe3) :: (X.pn ++ pins))) S3 hl hc ?_)
    refine wpAny_newTuple ?_
    have fl5 := fly_push (o := { cls := .type "tuple", data := .seq (cs.map Value.ref).toArray }) fl3
    have up5 : s'.heap.UpToSlots (h3'.push { cls := .type "tuple", data := .seq (cs.map Value.ref).toArray }) := up3.trans fun b o e hd => ⟨o.slots, Heap.get?_push_of_some _ e⟩
    have J5 : Inv X pins σ' H' { s' with heap := h3'.push { cls := .type "tuple", data := .seq (cs.map Value.ref).toArray } } := J.landed nb fl5.1 (up.trans up5) os ag
    have LT : PySem.W.Looks (model X.prog X.w) (h3'.push { cls := .type "tuple", data := .seq (cs.map Value.ref).toArray }) (typeOf (.ref a)) (.ref C) := fun A Q E s k q => wpAny_typeOf_ref (k _ _ (Heap.get?_push_of_some _ he3)) (by rw [hz3.1]; exact q)
    have LM : PySem.W.Looks (model X.prog X.w) (h3'.push { cls := .type "tuple", data := .seq (cs.map Value.ref).toArray }) (excMatches (.ref a) (.ref h3'.objs.size)) true := by
      match cs, h3 with
      | [c1, c2, c3], _ => exact PySem.W.exm_tup3 J5.kIn LT (Heap.get?_push_size _ rfl) hm
    refine LM.here ?_
    refine codeAny_handlers_suite_as ?_
    refine HandSPX.lands_againZ fl5 fun h4 fl4 up4 => ?_
    have J4 : Inv X pins σ' H' { s' with heap := h4 } := J.landed nb fl4.1 ((up.trans up5).trans up4) os ag
    obtain ⟨oe4, vs4, he4, hz4, hd4⟩ := fl4.there
    have S4 := J4.suite he4 hd4 na nL nF
    refine store_ok (X := X.suite a ((a, oe4) :: (X.pn ++ pins))) (v := .ref a) S4 hN hi (.inl hln) rfl (fun s5 S5 => ?_) (.inr hln)
    have hps : PSs (X.suite a ((a, oe4) :: (X.pn ++ pins))) [.Assign [.Name z p5] (.Name n np) p6] _ := pss_one (ps_set hN hj (.inl hlz) (pe_var (i := i) hi (.inl hln) hdn hcn) rfl (.inr hlz))
    refine wpAny_mono (hps.run [] s5 _ H' { nx := fun σ6 H6 => σ6 = (σ'.set i (some (.ref a))).set j (some (.ref a)) ∧ H6 = H', rt := fun _ _ => False } S5 ⟨.ref a, by rw [List.getElem?_set_self (hlen J4)], rfl, rfl⟩) (fun f s6 hsp => ?_) (fun _ _ z => False.elim z)
    cases f with
    | next =>
      obtain ⟨σ6, H6, S6, rfl, rfl⟩ := hsp
      refine gone_ok (X := X.suite a ((a, oe4) :: (X.pn ++ pins))) S6 hN hi hln fun s7 S7 => ?_
      have hp7 : s7.heap.get? a = some oe4 := (S7.pin (a, oe4) (List.mem_append_left _ List.mem_cons_self)).1
      refine ⟨_, _, inv_track (S7.unsuite ok) n0 na (Ne.symm nL) nC nP ?_, w a na⟩
      exact ⟨⟨oe4, vs4, hp7, hz4.1, hz4.2, hd4⟩, ⟨oe4, hp7⟩, fun h1 h2 ⟨o, v, q1, q2, q3, q4⟩ k => ⟨o, v, k _ q1, q2, q3, q4⟩⟩
    | brk => obtain ⟨_, _, _, q⟩ := hsp; exact q.elim
    | cont => obtain ⟨_, _, _, q⟩ := hsp; exact q.elim
    | ret u => obtain ⟨_, _, _, _, _, q⟩ := hsp; exact q.elim
  · cases f with
    | next =>
      obtain ⟨σ', H', J', q⟩ := hsp
      exact wpAny_execs_nil ⟨σ', H', J'.ofTry ok, q⟩
    | brk =>
      obtain ⟨σ', H', J', q⟩ := hsp
      exact ⟨σ', H', J'.ofTry ok, q⟩
    | cont =>
      obtain ⟨σ', H', J', q⟩ := hsp
      exact ⟨σ', H', J'.ofTry ok, q⟩
    | ret u =>
      obtain ⟨v, σ', H', J', r, q⟩ := hsp
      exact ⟨v, σ', H', J'.ofTry ok, r, q⟩
end
end MI
end
section
set_option Elab.async false
set_option linter.all false
set_option maxHeartbeats 8000000
/-! MI: lambdas that a def is given and calls. -/
namespace MI
open PySem PySem.Spec PyProof.Rows L2
open LamX (CodeO Tabs ExtN LamS TabB lamEnv lamCx)
/-- the same, with a caller's names and code objects in mind -/
def GI.at (G : GI) (ρ0 : Env) (σ0 : L2.St) (cd : List (Addr × Str)) : GI := { G with ρ0 := ρ0, σ0 := σ0, cd := cd }
section
variable {G : GI} {B ι : List Addr} {H : Hp} {ρ0 : Env} {σ0 : L2.St} {cd : List (Addr × Str)}
mutual
theorem RV.sw {v : MV} {w : V} : RV G B ι H v w → RV (G.at ρ0 σ0 cd) B ι H v w
  | .non => .non
  | .bl b => .bl b
  | .int i => .int i
  | .str s => .str s
  | .tup q r => .tup q (RVs.sw r)
  | .lv q nb ni r => .lv q nb ni (RVs.sw r)
  | .loc q => .loc q
  | .flH q ni r => .flH q ni (RVs.sw r)
  | .flK q r => .flK q (RVs.sw r)
  | .exo q qd nb ni r => .exo (G := G.at ρ0 σ0 cd) q qd nb ni (RV.sw r)
  | .thk a => .thk a
theorem RVs.sw {v : List MV} {w : List V} : RVs G B ι H v w → RVs (G.at ρ0 σ0 cd) B ι H v w
  | .nil => .nil
  | .cons q r => .cons (RV.sw q) (RVs.sw r)
end
mutual
theorem RV.ws {v : MV} {w : V} : RV (G.at ρ0 σ0 cd) B ι H v w → RV G B ι H v w
  | .non => .non
  | .bl b => .bl b
  | .int i => .int i
  | .str s => .str s
  | .tup q r => .tup q (RVs.ws r)
  | .lv q nb ni r => .lv q nb ni (RVs.ws r)
  | .loc q => .loc q
  | .flH q ni r => .flH q ni (RVs.ws r)
  | .flK q r => .flK q (RVs.ws r)
  | .exo q qd nb ni r => .exo (G := G) q qd nb ni (RV.ws r)
  | .thk a => .thk a
theorem RVs.ws {v : List MV} {w : List V} : RVs (G.at ρ0 σ0 cd) B ι H v w → RVs G B ι H v w
  | .nil => .nil
  | .cons q r => .cons (RV.ws q) (RVs.ws r)
end
theorem RKs.sw {v : List (Key × MV)} {w : List (Key × V)} (r : RKs G B ι H v w) : RKs (G.at ρ0 σ0 cd) B ι H v w := by
  induction r with
  | nil => exact .nil
  | cons q _ ih => exact .cons q.sw ih
theorem RKs.ws {v : List (Key × MV)} {w : List (Key × V)} (r : RKs (G.at ρ0 σ0 cd) B ι H v w) : RKs G B ι H v w := by
  induction r with
  | nil => exact .nil
  | cons q _ ih => exact .cons q.ws ih
theorem ER.sw {ρ : Env} {σ : L2.St} (r : ER G B ι H ρ σ) : ER (G.at ρ0 σ0 cd) B ι H ρ σ := ⟨r.len, fun i v e => let ⟨w, q, z⟩ := r.get i v e; ⟨w, q, z.sw⟩⟩
theorem ER.ws {ρ : Env} {σ : L2.St} (r : ER (G.at ρ0 σ0 cd) B ι H ρ σ) : ER G B ι H ρ σ := ⟨r.len, fun i v e => let ⟨w, q, z⟩ := r.get i v e; ⟨w, q, z.ws⟩⟩
theorem HR.sw {μ : Mem} (hr : HR G B ι H μ) (er : ER G B ι H ρ0 σ0) (hc : ∀ p ∈ cd, H p.1 = some (CodeO p.1 p.2) ∧ p.1 ∉ ι ∧ p.1 ∉ B) : HR (G.at ρ0 σ0 cd) B ι H μ :=
  ⟨hr.len, hr.nd, hr.bu, hr.tb, er.sw, hc, fun n a o h1 h2 => by
    have q := hr.ob n a o h1 h2
    cases o with
    | lst xs => obtain ⟨vs, q1, q2⟩ := q; exact ⟨vs, q1, q2.sw⟩
    | dic xs => obtain ⟨vs, q1, q2⟩ := q; exact ⟨vs, q1, q2.sw⟩⟩
theorem HR.ws {μ : Mem} (hr : HR (G.at ρ0 σ0 cd) B ι H μ) (h1 : G.ρ0 = []) (h2 : G.σ0 = []) (h3 : G.cd = []) : HR G B ι H μ :=
  ⟨hr.len, hr.nd, hr.bu, hr.tb, by rw [h1, h2]; exact ⟨rfl, fun i v e => by simp at e⟩, by rw [h3]; exact fun p hp => by simp at hp, fun n a o h1 h2 => by
    have q := hr.ob n a o h1 h2
    cases o with
    | lst xs => obtain ⟨vs, q1, q2⟩ := q; exact ⟨vs, q1, q2.ws⟩
    | dic xs => obtain ⟨vs, q1, q2⟩ := q; exact ⟨vs, q1, q2.ws⟩⟩
theorem RX.ws {cls : Value} {d : Option Addr} {x : Ex} (r : RX (G.at ρ0 σ0 cd) B ι H cls d x) : RX G B ι H cls d x := by
  obtain ⟨h1, da, w, h2, h3, h4⟩ := r
  exact ⟨h1, da, w, h2, h3, h4.ws⟩
end
section
variable {X : Cx} {pins : List (Addr × Obj)} {σ : L2.St} {H HZ : Hp} {s s1 : Shared}
/-- the call of what the def was given; the wish of exceptions may hang on the names -/
theorem pe_actM {CXg : CXT} {Eg : XK} {Ng : List Str} {qg : Str} {sg : Scope} {g f c' : Addr} {cdg pm ctv : Value} {params : Arguments} {body : Expr} {scope : Scope} {k i : Nat} {a : Str} {pn : List (Addr × Obj)} {xe : Value → Shared → Prop} {W : WX} {E : L2.St → XK} {tb : XK → TE} {p1 p2 : Pos}
    (I : Inv X pins σ H s) (L : LamS X.env.scope scope) (hf : s.heap.get? f = some (PySem.W.kla_obj "<lambda>" (X.env.qual ++ "<lambda>") params body scope (cloFrom X.env.cells scope.names []) pm c' ctv)) (hfn : H f = none) (hfr : f ∉ frs X.stack)
    (hbind : bindArgs (PySem.W.kla_fn "<lambda>" (X.env.qual ++ "<lambda>") params body scope (cloFrom X.env.cells scope.names []) pm (.ref c') ctv) ⟨[], []⟩ = pure [])
    (tk : Takes ((cxOf CXg X.prog X.w X.K X.mg X.base Ng qg sg g cdg X.A X.stack s H Eg).tr pn xe) W) (hW : ∀ σ' cls d H', E σ' cls d H' → W cls d σ' H') (hr : Room (k + 1) (X.A.deeper (envOfC qg sg s.heap.objs.size g cdg)))
    (hbody : ∀ (A : Around) (outer : List PySem.Env) (s : Shared) (H : Hp) (E : XK), Room k (A.deeper (lamEnv X scope s.heap.objs.size f c')) → PE (lamCx X A outer s H E scope f c') body (tb E))
    (hN : Ng[i]? = some a) (hv : Vis sg a) (hd : (a == ("__debug__" : Str)) = false) (hcd : (a == ("__classdict__" : Str)) = false) :
    PE ((cxOf CXg X.prog X.w X.K X.mg X.base Ng qg sg g cdg X.A X.stack s H Eg).tr pn xe) (.Call (.Name a p1) [] [] p2)
      (fun σZ HZ Q => σZ[i]? = some (some (.ref f)) ∧ HZ c' = some (CodeO c' (X.env.qual ++ "<lambda>")) ∧ tb (E σZ) σ HZ Q) := by
  refine ⟨fun pinsZ sZ σZ HZ Q IZ ⟨hs, hc, ht⟩ => ?_⟩
  refine wpAny_Call_Name_kw (thn ((pe_var (pos := p1) (i := i) hN hv hd hcd).run pinsZ sZ σZ HZ (fun v H1 => v = .ref f ∧ H1 = HZ) IZ ⟨.ref f, hs, rfl, rfl⟩) fun u s1 ⟨v, H1, I1, r1, ev, eH⟩ => ?_)
  subst ev
  rw [eH] at I1
  obtain rfl : u = Value.ref f := r1
  have of1 := I1.base.keep f _ hf hfn hfr (fun z => nomatch (show f ∈ ([] : List Addr) from z))
  refine PySem.W.callWith_F0 ⟨_, _, _, _, of1⟩ ?_
  have un : Un (frs X.stack) [] H HZ s.heap s1.heap := I1.base
  obtain ⟨⟨oc, vs, t, hoc, hdc, hvc⟩, _, _⟩ := I1.hok c' _ hc
  have rc : codeAny (model X.prog X.w) (X.A.deeper (envOfC qg sg s.heap.objs.size g cdg)) (.call (.ref f) ⟨[], []⟩) (CR (L2.CX X.prog X.w) (envOfC qg sg s.heap.objs.size g cdg :: X.stack) X.prog X.w HZ s1 Q (E σZ)) s1 := by
    refine PySem.W.kla_callFunE hr.depth of1 rfl L.co L.gen rfl ⟨c', oc, vs, t, rfl, hoc, hdc, hvc⟩ ?_
    rw [hbind]
    refine wpAny_pure (wpAny_newFunctionEnv (fun y hy => (L.own y hy).2) (fun y hy => absurd hy (by simp)) (fun h₁ hns hsb => ⟨I1.nolimit.fresh _ hsb, ?_⟩) L.kind)
    have kp : ∀ b o, s1.heap.get? b = some o → h₁.get? b = some o := fun b o e => hsb.extBut b o (Nat.ne_of_lt (Heap.lt_size e)) (Heap.get?_push_of_some _ e)
    have J := LamX.lam_start2 (A := X.A.deeper (envOfC qg sg s.heap.objs.size g cdg)) (outer := envOfC qg sg s.heap.objs.size g cdg :: X.stack) (E := E σZ) (f := f) (c' := c') (tk := s1.toks + ([] : List (Str × Value)).length) I L I1.env0 hr.hd un hns kp
    refine PySem.W.kla_codeExpr (wpAny_mono ((hbody _ _ s1 HZ (E σZ) (hr.deeper _)).run [] _ _ HZ Q J ht) (fun v s' ⟨w', H', J', rv, q⟩ => ?_) fun e s' hq => hq)
    exact ⟨w', H', J'.os, J'.bare, J'.base, J'.hok, rv, q⟩
  refine wpAny_call (codeAny_mono rc fun r s' hq => ?_)
  cases r with
  | error e => exact tk e s' (XE.of_call I1 (fun cls d H' h => hW σZ cls d H' h) hq)
  | ok fl =>
    cases fl with
    | ret u => exact I1.after hq
    | next => exact False.elim hq
    | brk => exact False.elim hq
    | cont => exact False.elim hq
end
end MI
end
section
set_option Elab.async false
set_option linter.all false
set_option maxHeartbeats 8000000
/-! MI: the try around what a def was given. -/
namespace MI
open PySem PySem.Spec PyProof.Rows L2
open LamX (CodeO)
theorem exm_any {G : GI} {wd : Wd} (cl : ClsOk G wd) {c : Nat} : ∀ {ds : List Nat} {b : Bool}, subAny wd.sub c ds = some b → PySem.W.exmAny G.K (.ref (G.cls c)) ((ds.map G.cls).map Value.ref) = some b
  | [], b, h => by simpa [subAny, PySem.W.exmAny] using h
  | d :: ds, b, h => by
    simp only [subAny] at h
    obtain ⟨b1, h1, h⟩ := Option.bind_eq_some_iff.mp h
    obtain ⟨b2, h2, rfl⟩ := Option.map_eq_some_iff.mp h
    have e1 := (cl.2.1 c d b1 h1).2.2
    have e2 := exm_any cl h2
    simp only [List.map_cons, PySem.W.exmAny, e1, e2]
section
variable {X : Cx} {G : GI} {W : WX} {wd : Wd}
theorem HR.nod {B ι : List Addr} {H : Hp} {μ : Mem} {a : Addr} {o : HO} (hr : HR G B ι H μ) (h : H a = some o) (n : ¬ BO o) : a ∉ B ∧ a ∉ ι := by
  refine ⟨fun z => ?_, fun z => ?_⟩
  · obtain ⟨⟨u, q, b⟩, _⟩ := hr.bu a z
    rw [h] at q
    cases q
    exact n b
  · obtain ⟨k, hk⟩ := List.mem_iff_getElem?.mp z
    have hl : k < μ.length := by rw [← hr.len]; exact (List.getElem?_eq_some_iff.mp hk).1
    have q := hr.ob k a μ[k] hk (List.getElem?_eq_getElem hl)
    cases e : μ[k] with
    | lst xs => rw [e] at q; obtain ⟨vs, q, _⟩ := q; rw [h] at q; cases q; exact n .l
    | dic xs => rw [e] at q; obtain ⟨vs, q, _⟩ := q; rw [h] at q; cases q; exact n .d
theorem ER.drop {B ι : List Addr} {H : Hp} {ρ : Env} {σ : L2.St} (er : ER G B ι H ρ σ) (n : Nat) : ER G B ι H (ρ.set n none) (σ.set n none) :=
  ⟨by simp [er.len], fun i v h => by
    by_cases e : n = i
    · subst e
      have hl : n < ρ.length := by simpa using (List.getElem?_eq_some_iff.mp h).1
      rw [List.getElem?_set_self hl] at h
      cases h
    · rw [List.getElem?_set_ne e] at h ⊢
      exact er.get i v h⟩
theorem set_two {α : Type} {l : List α} {i j : Nat} {a b c : α} (h : j ≠ i) : ((l.set i a).set j b).set i c = (l.set j b).set i c := by
  rw [List.set_comm _ _ (Ne.symm h), List.set_set]
theorem s_tra {f c' : Addr} {q a y n z : Str} {i j nn : Nat} {act : Mem → R MV} {tl : XK → Hp → VK → Prop} {xs : List (Str × Pos)} {ds : List Nat} {kk : Nat} {p1 p2 p3 p4 p5 p6 tp np zp pos : Pos} (hK : X.K = G.K) (cl : ClsOk G wd) (hact : wd.act = some (f, act)) (hcd : (c', q) ∈ G.cd)
    (hs : X.stack = X.env :: X.outer) (hf : X.env.frame = some X.env.locals) (hex : X.ex = []) (hN : X.N.Nodup) (hi : X.N[i]? = some y) (hly : X.env.kindOf y = some .local) (hj : X.N[j]? = some z) (hlz : X.env.kindOf z = some .local) (hn : X.N[nn]? = some n) (hln : X.env.kindOf n = some .local)
    (hdn : (n == ("__debug__" : Str)) = false) (hcn : (n == ("__classdict__" : Str)) = false)
    (hp : ∀ (W' : WX) (pn : List (Addr × Obj)) (xe : Value → Shared → Prop) (E : L2.St → XK), Takes (X.tr pn xe) W' → (∀ σ' cls d H', E σ' cls d H' → W' cls d σ' H') →
      PE (X.tr pn xe) (.Call (.Name a p1) [] [] p2) (fun σZ HZ Q => σZ[0]? = some (some (.ref f)) ∧ HZ c' = some (CodeO c' q) ∧ tl (E σZ) HZ Q))
    (htl : ∀ (E : XK) (B ι : List Addr) (μ : Mem) (H : Hp) (Q : VK), HR G B ι H μ → Out (act μ) (fun v μ' => ∀ w H' ι', Ext G.K ι H ι' H' → HR G B ι' H' μ' → RV G B ι' H' v w → Q w H') (fun x μ' => ∀ cls d H' ι', Ext G.K ι H ι' H' → HR G B ι' H' μ' → RX G B ι' H' cls d x → E cls d H') → tl E H Q)
    (hl : xs.length = ds.length) (h3 : ds.length = 3) (hc : ∀ p ∈ xs.zip (ds.map G.cls), Gl X p.1.1 ∧ X.mg p.1.1 = some (.ref p.2) ∧ (p.1.1 == ("__debug__" : Str)) = false) :
    PS X (.Try [.Assign [.Name y p3] (.Call (.Name a p1) [] [] p2) p4] [.ExceptHandler (some (.Tuple (xs.map fun p => .Name p.1 p.2) kk tp)) (some n) [.Assign [.Name z p5] (.Name n np) p6] zp] [] [] pos) (tS G W wd (.tra 0 i j nn ds)) :=
  psW (ps_try_trk (cs := ds.map G.cls) (i := nn) (j := j) hs hf hex hN hn hln hj hlz (by simpa using hl) (by simpa using h3) hc hdn hcn (fun {pins σ H s} I => by
      rw [I.len]; exact (List.getElem?_eq_some_iff.mp hn).1)
    (tb := fun W' D σ H => ∃ E : L2.St → XK, (∀ σ' cls d H', E σ' cls d H' → W' cls d σ' H') ∧ σ[0]? = some (some (.ref f)) ∧ H c' = some (CodeO c' q) ∧ tl (E σ) H (fun x H1 => D.nx (σ.set i (some x)) H1))
    fun W' pn xe tk _ => ⟨fun pins s σ H D I ⟨E, hW, h1, h2, h3⟩ => (pss_one (ps_set (X := X.tr pn xe) (pos := p4) (pos' := p3) hN hi (.inl hly) (hp W' pn xe E tk hW) rfl (.inr hly))).run pins s σ H D I ⟨h1, h2, h3⟩⟩) fun D σ H ⟨B, ι, μ, ρ, er, hr, h⟩ => by
    simp only [exec] at h
    cases hρ : ρ[0]?.bind id with
    | none => rw [hρ] at h; exact h.elim
    | some v0 =>
      rw [hρ] at h
      have hρ0 : ρ[0]? = some (some v0) := by
        cases e : ρ[0]? with
        | none => rw [e] at hρ; cases hρ
        | some o => rw [e] at hρ; exact congrArg some hρ
      obtain ⟨w0, hw0, r0⟩ := er.get 0 v0 hρ0
      cases v0 with
      | thk m =>
        rw [hact] at h
        simp only at h
        split at h
        · exact h.elim
        · rename_i hm
          have hm : m = f := Classical.not_not.mp hm
          subst hm
          cases r0
          refine ⟨fun σ' cls d H' => σ' = σ ∧ wTrk X.K (ds.map G.cls) nn j D cls d σ H', fun σ' cls d H' ⟨e, q⟩ => by rw [e]; exact q, hw0, (hr.co _ hcd).1, ?_⟩
          refine htl _ B ι μ H _ hr ?_
          cases ha : act μ with
          | none => rw [ha] at h; exact h.elim
          | some rr =>
            obtain ⟨o, μ1⟩ := rr
            rw [ha] at h
            cases o with
            | ok v =>
              simp only at h
              split at h
              · intro w H' ι' e1 hr1 r1
                exact h _ H' ι' e1 hr1 ((er.mono e1).put r1)
              · exact h.elim
            | error x =>
              obtain ⟨c, xv⟩ := x
              simp only at h
              cases hsb : subAny wd.sub c ds with
              | none => rw [hsb] at h; exact h.elim
              | some b =>
                rw [hsb] at h
                cases b with
                | false => exact h.elim
                | true =>
                  simp only at h
                  split at h
                  · rename_i hjn
                    intro cls d H' ι' e1 hr1 rx
                    obtain ⟨rfl, dd, w, rfl, hdd, rw'⟩ := rx
                    refine ⟨rfl, by rw [hK]; exact exm_any cl hsb, G.cls c, dd, rfl, rfl, fun aa na => ?_⟩
                    have e2 : Ext G.K ι' H' ι' (upd H' aa (exT (G.cls c) dd aa)) := Ext.push na
                    have hr2 := hr1.pushO (o := exT (G.cls c) dd aa) na
                    have hda : dd ≠ aa := ne_of_none hdd na
                    have nod := hr1.nod hdd (fun z => by rcases z with ⟨_, z⟩ | ⟨_, z⟩ <;> cases z)
                    have rexo : RV G B ι' (upd H' aa (exT (G.cls c) dd aa)) (.exo c xv) (.ref aa) := .exo upd_same (by rw [upd_ne hda]; exact hdd) ⟨hr1.no na, nod.1⟩ ⟨hr1.ni na, nod.2⟩ (rw'.mono e2)
                    rw [set_two hjn.2]
                    exact h _ _ ι' (e1.trans e2) hr2 ((((er.mono e1).mono e2).put rexo).drop nn)
                  · exact h.elim
      | _ => exact h.elim
end
end MI
end
section
set_option Elab.async false
set_option linter.all false
set_option maxHeartbeats 8000000
/-! MI: a lambda handed to a def that hears what becomes of it. -/
namespace MI
open PySem PySem.Spec PyProof.Rows L2
open LamX (CodeO Tabs ExtN LamS TabB lamEnv lamCx)
theorem start_er {G : GI} {B ι : List Addr} {H : Hp} {xs : List MV} {vs : List V} {N : List Str} {ns : Nat} (r : RVs G B ι H xs vs) (hn : N.length = ns) : ER G B ι H (xs.map some ++ List.replicate (ns - xs.length) none) (L2.start N vs) := by
  unfold L2.start
  have hl := r.length
  refine ⟨by simp [hl, hn], fun i v h => ?_⟩
  by_cases hi : i < xs.length
  · rw [List.getElem?_append_left (by simpa using hi)] at h
    rw [List.getElem?_append_left (by simp; omega)]
    rw [List.getElem?_map] at h
    obtain ⟨x, hx, e⟩ := Option.map_eq_some_iff.mp h
    cases e
    obtain ⟨w, hw, rv⟩ := r.get hx
    exact ⟨w, by rw [List.getElem?_map, hw]; rfl, rv⟩
  · rw [List.getElem?_append_right (by simpa using hi)] at h
    rw [List.getElem?_replicate] at h
    split at h <;> cases h
/-- the def that holds such a thing in its first name may call it -/
structure ActOk (X : Cx) (G : GI) (wd : Wd) : Prop where
  hs : X.stack = X.env :: X.outer
  hf : X.env.frame = some X.env.locals
  hex : X.ex = []
  ex : ∃ (f c' : Addr) (q a : Str) (act : Mem → R MV) (tl : XK → Hp → VK → Prop), wd.act = some (f, act) ∧ (c', q) ∈ G.cd ∧ X.N[0]? = some a ∧
    (∀ (p1 p2 : Pos) (W' : WX) (pn : List (Addr × Obj)) (xe : Value → Shared → Prop) (E : L2.St → XK), Takes (X.tr pn xe) W' → (∀ σ' cls d H', E σ' cls d H' → W' cls d σ' H') →
      PE (X.tr pn xe) (.Call (.Name a p1) [] [] p2) (fun σZ HZ Q => σZ[0]? = some (some (.ref f)) ∧ HZ c' = some (CodeO c' q) ∧ tl (E σZ) HZ Q)) ∧
    ∀ (E : XK) (B ι : List Addr) (μ : Mem) (H : Hp) (Q : VK), HR G B ι H μ → Out (act μ) (fun v μ' => ∀ w H' ι', Ext G.K ι H ι' H' → HR G B ι' H' μ' → RV G B ι' H' v w → Q w H') (fun x μ' => ∀ cls d H' ι', Ext G.K ι H ι' H' → HR G B ι' H' μ' → RX G B ι' H' cls d x → E cls d H') → tl E H Q
/-- what is known of a def that hears -/
structure HrK (X : Cx) (G : GI) (wd : Wd) (k : Nat) (x : Str) (f : Nat) : Prop where
  ex : (∃ h μ, wd.hear f h μ ≠ none) → ∃ (g : Addr) (pg : Arguments) (bg : List Stmt) (sg : Scope) (dV kV doc pm cdv ct oc : Value) (an od : Option Addr) (osl : Array (Option Value)) (Ng : List Str) (a : Str) (F : SS) (wdH : Addr → (Mem → R MV) → Wd),
    X.mg x = some (.ref g) ∧ PySem.W.keepIn X.K (.ref g) = true ∧ X.K.lookup g = some ⟨oc, od, .func (PySem.W.fnOf x x pg bg sg dV kV doc pm an cdv ct), osl⟩ ∧ PySem.W.codeIn X.K cdv x = true ∧ L2.Binds X.K (PySem.W.fnOf x x pg bg sg dV kV doc pm an cdv ct) [a] [] ∧
    FnScope Ng [a] sg ∧ Ng[0]? = some a ∧ Vis sg a ∧ (a == ("__debug__" : Str)) = false ∧ (a == ("__classdict__" : Str)) = false ∧
    (∀ f0 h μ, wd.hear f h μ = outc (execs (wdH f0 h) F (some (.thk f0) :: List.replicate (Ng.length - 1) none) μ)) ∧ (∀ f0 h, (wdH f0 h).act = some (f0, h)) ∧
    ∀ (A : Around) (outer : List PySem.Env) (s : Shared) (H : Hp) (f0 : Addr) (h : Mem → R MV) (ρ0 : Env) (σ0 : L2.St) (cd : List (Addr × Str)), Room (k + 1) (A.deeper (envOfC x sg s.heap.objs.size g cdv)) → ActOk (cxOf C8.CX0 X.prog X.w X.K X.mg X.base Ng x sg g cdv A outer s H C8.E0) (G.at ρ0 σ0 cd) (wdH f0 h) →
      PSs (cxOf C8.CX0 X.prog X.w X.K X.mg X.base Ng x sg g cdv A outer s H C8.E0) bg (tSs (G.at ρ0 σ0 cd) W0 (wdH f0 h) F)
theorem codeO_bo {c : Addr} {q : Str} : ¬ BO (CodeO c q) := fun z => by
  unfold CodeO at z
  rcases z with ⟨_, z⟩ | ⟨_, z⟩ <;> cases z
theorem Ext.ofN {K : PySem.W.Frag} {ι : List Addr} {H H' : Hp} (e : ExtN H H') : Ext K ι H ι H' where
  pre := ⟨[], by simp⟩
  fr := fun _ h => .inl h
  tup := fun a vs q => by
    rcases q with (q | ⟨ob, q⟩) | q
    · exact .inl (.inl (e _ _ q fun _ z => by cases z))
    · exact .inl (.inr ⟨ob, e _ _ q fun _ z => by cases z⟩)
    · exact .inr q
  oth := fun a u q _ n => e a u q n
  thr := fun a u q n => ⟨u, e a u q n, n⟩
theorem HR.notb {G : GI} {B ι : List Addr} {H : Hp} {μ : Mem} {a : Addr} {o : HO} (hr : HR G B ι H μ) (ha : a ∈ ι) (h : H a = some o) : BO o := by
  obtain ⟨k, hk⟩ := List.mem_iff_getElem?.mp ha
  have hl : k < μ.length := by rw [← hr.len]; exact (List.getElem?_eq_some_iff.mp hk).1
  have q := hr.ob k a μ[k] hk (List.getElem?_eq_getElem hl)
  cases e : μ[k] with
  | lst xs => rw [e] at q; obtain ⟨vs, q, _⟩ := q; rw [h] at q; cases q; exact .l
  | dic xs => rw [e] at q; obtain ⟨vs, q, _⟩ := q; rw [h] at q; cases q; exact .d
section
variable {X : Cx} {G : GI} {W : WX} {wd : Wd}
theorem s_hrd {x : Str} {f k : Nat} {e' : E} {c P : Addr} {params : Arguments} {body : Expr} {scope : Scope} {p lpos pos : Pos} (Hk : HrK X G wd k x f) (hg : Gl X x) (hdb : (x == ("__debug__" : Str)) = false) (TB : TabB X.base X.mg c P) (hcode : X.env.code = .ref c)
    (hmT : (P, X.env.qual ++ "<lambda>") ∈ G.T) (hu : ∀ p ∈ G.T, p.1 = P → p.2 = X.env.qual ++ "<lambda>") (h0 : G.ρ0 = []) (h1 : G.σ0 = []) (h2 : G.cd = []) (hrm : Room (k + 2) X.A) (L : LamS X.env.scope scope) (hdef : defaultsOf params X.env = ([], []))
    (hbind : ∀ (q : Str) (cl : List (Str × Addr)) (pm cv ctv : Value), bindArgs (PySem.W.kla_fn "<lambda>" q params body scope cl pm cv ctv) ⟨[], []⟩ = pure [])
    (hbody : ∀ (A : Around) (outer : List PySem.Env) (s : Shared) (H : Hp) (E : XK) (f c' : Addr), Room k (A.deeper (lamEnv X scope s.heap.objs.size f c')) → PE (lamCx X A outer s H E scope f c') body (tE G (fun cls d _ H => E cls d H) wd e')) :
    PE X (.Call (.Name x p) [.Lambda params body scope lpos] [] pos) (tE G W wd (.hrd f e')) := by
  refine ⟨fun pins s σ H Q I ⟨B, ι, μ, ρ, er, hr, h⟩ => ?_⟩
  simp only [ev] at h
  cases hh : wd.hear f (fun μ => ev wd e' ρ μ) μ with
  | none => rw [hh] at h; exact h.elim
  | some rr =>
    obtain ⟨o, μ'⟩ := rr
    cases o with
    | error z => rw [hh] at h; exact h.elim
    | ok v =>
      rw [hh] at h
      dsimp only at h
      have h' : Out (gc μ.length μ (some (.ok v, μ'))) (fun v μ' => ∀ w H' ι', Ext G.K ι H ι' H' → HR G B ι' H' μ' → RV G B ι' H' v w → Q w H') (fun x μ' => ∀ cls d H' ι', Ext G.K ι H ι' H' → HR G B ι' H' μ' → RX G B ι' H' cls d x → (fun _ _ _ => False : XK) cls d H') := by
        unfold gc at h ⊢
        dsimp only at h ⊢
        split
        · rename_i z
          rw [if_pos z] at h
          cases hf : frz μ.length μ' v with
          | none => rw [hf] at h; exact h.elim
          | some w =>
            rw [hf] at h
            intro w' H' ι' e1 e2 e3
            exact h w' H' ι' e1 e2 e3 (fun z => by cases z)
        · rename_i z
          rw [if_neg z] at h
          exact h.elim
      have fin : ∀ w H' ι', Ext G.K ι H ι' H' → HR G B ι' H' μ' → RV G B ι' H' v w → Q w H' := gc_of hr h'
      obtain ⟨g, pg, bg, sg, dV, kV, doc, pm, cdv, ct, oc, an, od, osl, Ng, a, F, wdH, hm, hk, lk, hcg, hb, Sg, hNg, hva, hd, hcd, hear, hact, hB⟩ := Hk.ex ⟨_, μ, by rw [hh]; simp⟩
      refine wpAny_Call_Name_kw (ld_glob I hg hm ?_ hdb)
      refine PySem.W.callWith_K (h₀ := X.base) I.ok.mod.kin hk ?_ (by rfl) (by rfl)
      show wpAny _ _ (spliced ((false, eval (.Lambda params body scope lpos) X.env) :: backTo pos (starEach [] X.env))) _ _ s
      refine Calls.spliced_cons (LamX.lam_make2 I TB hcode hmT hu hr.tb hdef (L.has I.ok) fun f0 c' pm' ctv H1 s' I1 eN T1 hf hfn hfr hco => ?_)
      refine Calls.spliced_nil ⟨I1.kIn, ?_⟩
      have ext : Ext G.K ι H ι H1 := Ext.ofN eN
      have hr1 : HR G B ι H1 μ := hr.keep ext (fun b hb u q => eN _ _ q (hr.notb hb q).nt) T1
      have nod := hr1.nod hco codeO_bo
      have hr2 : HR (G.at ρ σ [(c', X.env.qual ++ "<lambda>")]) B ι H1 μ := hr1.sw (er.mono ext) fun p hp => by
        simp only [List.mem_singleton] at hp
        subst hp
        exact ⟨hco, nod.2, nod.1⟩
      have rc : codeAny (model X.prog X.w) X.A (.call (.ref g) ⟨[.ref f0], []⟩) (CR C8.CX0 X.stack X.prog X.w H1 s' Q C8.E0) s' := by
        refine LamX.run_ofS (N := Ng) (ps := [a]) (us := [.ref f0]) (vs := [.ref f0]) lk hcg Sg hrm I1.env0 (hb s' [.ref f0] I1.kIn rfl) (.cons rfl .nil) rfl fun hr' => ?_
        refine ⟨_, hB X.A X.stack s' H1 f0 (fun μ => ev wd e' ρ μ) ρ σ [(c', X.env.qual ++ "<lambda>")] hr' ⟨rfl, rfl, rfl, f0, c', _, a, _, fun E H Q => tE G (fun cls d _ H => E cls d H) wd e' σ H Q, hact f0 _, List.mem_singleton.mpr rfl, hNg, fun p1 p2 W' pn xe E tk hW => ?_, fun E B2 ι2 μ2 H2 Q2 hrr out => ?_⟩, ?_⟩
        · exact pe_actM (i := 0) (tb := fun E => tE G (fun cls d _ H => E cls d H) wd e') I1 L hf hfn hfr (hbind _ _ _ _ _) tk hW hr' (fun A outer s H E hr2 => hbody A outer s H E f0 c' hr2) hNg hva hd hcd
        · have er2 : ER G B2 ι2 H2 ρ σ := hrr.ce.ws
          have hc2 := hrr.co (c', X.env.qual ++ "<lambda>") (List.mem_singleton.mpr rfl)
          have up : ∀ {ι' H' μ'}, Ext G.K ι2 H2 ι' H' → HR G B2 ι' H' μ' → HR (G.at ρ σ [(c', X.env.qual ++ "<lambda>")]) B2 ι' H' μ' := fun {ι' H' μ'} e1 e2 => e2.sw (er2.mono e1) fun p hp => by
            simp only [List.mem_singleton] at hp
            subst hp
            have q1 := e1.oth _ _ hc2.1 hc2.2.1 LamX.codeO_ne
            have q2 := e2.nod q1 codeO_bo
            exact ⟨q1, q2.2, q2.1⟩
          refine ⟨B2, ι2, μ2, ρ, er2, hrr.ws h0 h1 h2, out.mono (fun v μ' q w H' ι' e1 e2 e3 _ => q w H' ι' e1 (up e1 e2) e3.sw) fun x μ' q cls d H' ι' e1 e2 e3 => q cls d H' ι' e1 (up e1 e2) ?_⟩
          obtain ⟨z1, da, w, z2, z3, z4⟩ := e3
          exact ⟨z1, da, w, z2, z3, z4.sw⟩
        · refine ⟨B, ι, μ, some (.thk f0) :: List.replicate (Ng.length - 1) none, start_er (G := G.at ρ σ [(c', X.env.qual ++ "<lambda>")]) (xs := [.thk f0]) (.cons (.thk f0) .nil) rfl, hr2, ?_⟩
          have q := (hear f0 (fun μ => ev wd e' ρ μ) μ).symm.trans hh
          cases hx : execs (wdH f0 fun μ => ev wd e' ρ μ) F (some (.thk f0) :: List.replicate (Ng.length - 1) none) μ with
          | none => rw [hx] at q; cases q
          | some rr =>
            obtain ⟨o2, μ2⟩ := rr
            rw [hx] at q
            cases o2 with
            | nxt ρ' =>
              cases q
              intro σ' H' ι' e1 e2 e3
              exact fin .non H' ι' (ext.trans e1) (e2.ws h0 h1 h2) .non
            | ret v' =>
              cases q
              intro w H' ι' e1 e2 e3
              exact fin w H' ι' (ext.trans e1) (e2.ws h0 h1 h2) e3.ws
            | brk _ => cases q
            | cnt _ => cases q
            | exc _ _ => cases q
      refine wpAny_call (codeAny_mono rc fun r s2 hq => ?_)
      cases r with
      | error e => exact (show False from hq).elim
      | ok fl =>
        cases fl with
        | ret u => exact I1.after hq
        | next => exact False.elim hq
        | brk => exact False.elim hq
        | cont => exact False.elim hq
end
end MI
end
section
set_option Elab.async false
set_option linter.all false
set_option maxHeartbeats 4000000
/-! MI: sorting alike data, tuples without anything among them too. -/
namespace MI
open PySem PySem.Spec PyProof.Rows L2
open PySem.W (Looks EachIs kas_first_eq kas_mapM alike dataLt SortsAt dataKind AllAlike Sortable alikeAll keyToksAll)
section
variable {prog : Program} {w : World} {A : Around} {E : Value → Shared → Prop} {s : Shared}
theorem tup_lt_call {Q : Value → Shared → Prop} {l b : Addr} {xs ys : Array Value} {e r : Nat → Bool} (hl : s.heap.IsTuple l xs) (hb : s.heap.IsTuple b ys) (he : ∀ j (h1 : j < xs.size) (h2 : j < ys.size), SeqAt.EqAt A.in1 s xs[j] ys[j] (e j))
    (hr : ∀ j (h1 : j < xs.size) (h2 : j < ys.size), e j = false → SeqAt.RcLt A.in1 s xs[j] ys[j] (r j)) (q : Q (.bool (SeqAt.firstLt e r (decide (xs.size < ys.size)) (List.range (min xs.size ys.size)))) s) :
    wpAny (model prog w) A (call (.builtin "tuple.__lt__") [.ref l, .ref b]) Q E s := by
  obtain ⟨⟨c1, d1, t1, z1⟩, o1, k1, n1, w1⟩ := id hl
  obtain ⟨⟨c2, d2, t2, z2⟩, o2, k2, n2, w2⟩ := id hb
  simp only at k1 w1 k2 w2
  subst k1 w1 k2 w2
  exact call_meets F.slot_tuple_lt ⟨_, o1, rfl⟩ F.entry_tuple_lt (F.args_tuple_lt_2 _ _) (SeqAt.tuple_ltAt l b xs ys n1 n2 d1 d2 z1 z2 e r) ⟨o1, o2, he, hr, q⟩
/-- two alike tuples, asked as things of one class -/
theorem one_tup {xs ys : List PyData} {a b : Value} {as bs : List Addr} {Q : Bool → Shared → Prop} (ra : Reads s.heap a (.tuple xs) as) (rb : Reads s.heap b (.tuple ys) bs) (hal : alikeAll xs ys = true) (hu : A.units + min (PyData.depth (.tuple xs)) (PyData.depth (.tuple ys)) < cLine)
    (hq : Q (dataLt (.tuple xs) (.tuple ys)) s) : wpAny (model prog w) A (oneLt' true a b) Q E s := by
  cases ra with
  | @tuple l o us n _ _ h1 h2 h3 h4 =>
    cases rb with
    | @tuple l' o' vs n' _ _ k1 k2 k3 k4 =>
      have z1 : us.size = xs.length := by simpa using SeqAt.ReadsAll.length _ _ _ h4
      have z2 : vs.size = ys.length := by simpa using SeqAt.ReadsAll.length _ _ _ k4
      rw [PySem.W.dataLt_tuple, ← PySem.W.firstLt_toks xs ys hal, ← z1, ← z2] at hq
      rw [oneLt'_eq]
      simp only [if_true]
      refine wpAny_bind (wpAny_cRoomFor (SeqAt.room_here hu) (wpAny_bind (wpAny_callSpecialIfBound?_slot (T := "tuple") ⟨_, h1, h2⟩ F.slot_tuple_lt (tup_lt_call (e := SeqAt.pairEq xs ys) (r := fun j => dataLt (xs.getD j .none) (ys.getD j .none)) ⟨_, h1, h2, _, h3⟩ ⟨_, k1, k2, _, k3⟩
        (fun j j1 j2 => by
          have q := PySem.W.eqAt_alikeAll xs ys A.in1 s us.toList vs.toList _ _ h4 k4 hal (SeqAt.room_in hu) j (by simpa using j1) (by simpa using j2)
          simpa using q)
        (fun j j1 j2 hj => by
          have q := PySem.W.rcLt_alikeAll xs ys A.in1 s us.toList vs.toList _ _ h4 k4 hal (SeqAt.room_in hu) j (by simpa using j1) (by simpa using j2) hj
          simpa using q)
        ?_))))
      exact wpAny_truthy_bool hq
/-- all are tuples, the first without anything -/
def Empty1 (ds : List PyData) : Prop := ∃ r, ds = .tuple [] :: r
theorem first_some {v : Value} {as : List Addr} {Q : Option Value → Shared → Prop} {xs : List PyData} (r : Reads s.heap v (.tuple xs) as) (q : ∀ f : Option Value, (xs = [] → f = none) → Q f s) : wpAny (model prog w) A (firstOfTuple' v) Q E s := by
  cases r with
  | @tuple l o us n _ _ h1 h2 h3 h4 =>
    rw [kas_first_eq]
    refine wpAny_bind (Looks.here (show Looks (model prog w) s.heap (typeOf (.ref l)) o.cls from (Looks.ld h1).andThen .now) ?_)
    rw [h2, if_neg (by decide)]
    refine wpAny_bind (listItems_at h1 h3 (wpAny_pure (q _ fun e => ?_)))
    subst e
    have z := SeqAt.ReadsAll.length _ _ _ h4
    simp only [List.length_nil] at z
    have : us.size = 0 := by simpa using z
    simp [this]
theorem firsts_some {Q : List (Option Value) → Shared → Prop} : ∀ {vs : List Value} {ds : List PyData}, EachIs (fun v d => ∃ as, Reads s.heap v d as) vs ds → (∀ d ∈ ds, ∃ xs, d = .tuple xs) → (∀ fs, fs.length = vs.length → (ds.head? = some (.tuple []) → fs.head? = some none) → Q fs s) → wpAny (model prog w) A (vs.mapM firstOfTuple') Q E s
  | _, _, .nil, _, q => by rw [List.mapM_nil]; exact wpAny_pure (q [] rfl fun z => by cases z)
  | _, _, .cons (b := d) ⟨as, r⟩ t, ht, q => by
    obtain ⟨xs, rfl⟩ := ht d List.mem_cons_self
    rw [List.mapM_cons]
    refine wpAny_bind (first_some r fun f hf => wpAny_bind (firsts_some t (fun d hd => ht d (List.mem_cons_of_mem _ hd)) fun fs h1 _ => wpAny_pure (q (f :: fs) (by simp [h1]) fun z => ?_)))
    simp only [List.head?_cons, Option.some.injEq, PyData.tuple.injEq] at z
    rw [List.head?_cons, hf z]
theorem kind_empty {vs : List Value} {ds : List PyData} {Q : SortKind → Shared → Prop} (e : EachIs (fun v d => ∃ as, Reads s.heap v d as) vs ds) (ht : ∀ d ∈ ds, ∃ xs, d = .tuple xs) (h1 : Empty1 ds) (h : Q oneType' s) : wpAny (model prog w) A (keyKind' vs.toArray) Q E s := by
  obtain ⟨r, hr⟩ := h1
  have hne : 0 < vs.length := by rw [e.length, hr]; simp
  rw [keyKind'_eq, List.mapM_toArray, map_eq_pure_bind]
  refine wpAny_bind (wpAny_bind (firsts_some e ht fun fs l1 l2 => wpAny_pure ?_))
  have l3 := l2 (by rw [hr] <;> rfl)
  obtain ⟨fr, rfl⟩ : ∃ fr, fs = none :: fr := by
    cases fs with
    | nil => cases l3
    | cons f fr => simp only [List.head?_cons, Option.some.injEq] at l3; exact ⟨fr, by rw [l3]⟩
  rw [if_neg (by simp), if_neg (by simp)]
  rw [oneTypeOnly'_eq, List.mapM_toArray, map_eq_pure_bind]
  refine wpAny_bind (wpAny_bind (wpAny_bind (kas_mapM (r := Value.type "tuple") _ (fun v hv Q' hq => ?_) (wpAny_pure ?_))))
  · obtain ⟨d, hd, as, r⟩ := e.left v hv
    obtain ⟨xs, rfl⟩ := ht d hd
    exact (PySem.W.looks_reads r).here hq
  · obtain ⟨v1, vr, rfl⟩ : ∃ v1 vr, vs = v1 :: vr := by
      cases vs with
      | nil => simp at hne
      | cons v1 vr => exact ⟨v1, vr, rfl⟩
    have ha : ((List.map (fun _ => Value.type "tuple") (v1 :: vr)).toArray.all fun x => x == Value.type "tuple") = true := by
      simp only [List.all_toArray, List.all_map, List.all_eq_true]
      intro _ _
      exact beq_self_eq_true _
    have h0 : (List.map (fun _ => Value.type "tuple") (v1 :: vr)).toArray[0]? = some (Value.type "tuple") := by simp
    rw [h0]
    simp only [ha, if_true]
    exact wpAny_pure (wpAny_pure h)
theorem sorts_any {vs : List Value} {ds : List PyData} (e : EachIs (fun v d => ∃ as, Reads s.heap v d as) vs ds) (hal : AllAlike ds) (hk : Sortable ds ∨ Empty1 ds) (hu : ∀ d, d ∈ ds → A.units + d.depth < cLine) : SortsAt prog w A s (dataKind s.heap ds) vs := by
  rcases hk with hk | h1
  · exact SortsAt.data e hal hk hu
  · have ht : ∀ d ∈ ds, ∃ xs, d = .tuple xs := fun d hd => by
      obtain ⟨r, hr⟩ := h1
      have q := hal (.tuple []) (by rw [hr]; exact List.mem_cons_self) d hd
      cases d <;> first | exact ⟨_, rfl⟩ | exact absurd q (by simp [alike])
    refine ⟨fun v hv => ?_, oneType', fun E x y a b Q qa qb hq => ?_, fun _ E Q hq => kind_empty e ht h1 hq⟩
    · obtain ⟨d, hd, as, r⟩ := e.left v hv
      exact ⟨_, PySem.W.dataKind_some hal hd r⟩
    · obtain ⟨d, as, hd, ra, rfl⟩ := PySem.W.dataKind_inv qa
      obtain ⟨d', as', hd', rb, rfl⟩ := PySem.W.dataKind_inv qb
      obtain ⟨xs, rfl⟩ := ht d hd
      obtain ⟨ys, rfl⟩ := ht d' hd'
      rw [keyLt'_oneType]
      exact one_tup ra rb (by simpa [alike] using hal _ hd _ hd') (Nat.lt_of_le_of_lt (Nat.add_le_add_left (Nat.min_le_left _ _) _) (hu _ hd)) hq
/-- what collect does with a list or a tuple, the heap told -/
theorem collect_sq {it : Addr} {T : String} {o : Obj} {items : Array Value} {n : Nat} {Q : List Value → Shared → Prop} (hT : T = "list" ∨ T = "tuple") (ho : s.heap.get? it = some o) (hc : o.cls = .type T) (hd : o.data = .seq items n) (hz : items.size ≤ sizeLine)
    (h : ∀ h1 : Heap, (∀ b o', s.heap.get? b = some o' → h1.get? b = some o') → s.heap.objs.size ≤ h1.objs.size → Q items.toList { s with heap := h1 }) : wpAny (model prog w) A (collect (.ref it)) Q E s := by
  unfold collect
  refine wpAny_bind (wpAny_runValue (codeAny_builtin entry_proto_collect' ?_))
  show wpAny _ _ (newList [] >>= fun q => again (.builtin "list.__iadd__" ⟨[q, .ref it], []⟩)) _ _ s
  refine wpAny_bind (wpAny_newList (wpAny_pure ⟨Code.quiet_builtin _ (by decide +kernel), codeAny_builtin entry_list_iadd' ?_⟩))
  show wpAny _ _ (Builtin.List.listExtendWith (.ref s.heap.objs.size) (.ref it) (.ref s.heap.objs.size)) _ _ { s with heap := s.heap.push (seqObj "list" #[] 0) }
  unfold Builtin.List.listExtendWith
  have o1 : (s.heap.push (seqObj "list" #[] 0)).get? it = some o := Heap.get?_push_of_some _ ho
  have o2 : (s.heap.push (seqObj "list" #[] 0)).get? s.heap.objs.size = some (seqObj "list" #[] 0) := Heap.get?_push_size _ rfl
  refine wpAny_bind (wpAny_typeOf (T := T) ⟨o, o1, hc⟩ ?_)
  rw [if_pos (by rcases hT with rfl | rfl <;> simp)]
  refine wpAny_bind (listItems_at o1 hd (wpAny_bind (listItems_at (xs := #[]) (n := 0) o2 rfl ?_)))
  rw [if_neg (by simp)]
  refine wpAny_bind (listUpdate_at (xs := #[]) (n := 0) o2 rfl (wpAny_pure ?_) (Nat.zero_le _) (by show (#[] ++ items).size ≤ sizeLine + 1; simp only [Array.size_append, List.size_toArray, List.length_nil]; omega))
  show wpAny (model prog w) A (load s.heap.objs.size >>= fun q => match q.data with
      | .seq xs _ => pure xs.toList
      | _ => unsupported "internal:collect") Q E { s with heap := (s.heap.push (seqObj "list" #[] 0)).update s.heap.objs.size (Obj.mapSeq (· ++ items)) }
  refine wpAny_bind (wpAny_load (get?_update_seq o2 _) ?_)
  show wpAny _ _ (pure ((#[] : Array Value) ++ items).toList) Q E _
  rw [show ((#[] : Array Value) ++ items).toList = items.toList by simp]
  refine wpAny_pure (h _ (fun b o' q => ?_) ?_)
  · exact (Heap.get?_update_other _ _ (Nat.ne_of_gt (Heap.lt_size q))).trans (Heap.get?_push_of_some _ q)
  · rw [Heap.size_update, size_push']
    exact Nat.le_succ _
theorem sorted_sq {β : Type} {it : Addr} {T : String} {o : Obj} {items : Array Value} {n : Nat} {bs : List β} {enc : β → PyData} {R : Value → β → Prop} {Q : Value → Shared → Prop} (hT : T = "list" ∨ T = "tuple") (ho : s.heap.get? it = some o) (hc : o.cls = .type T) (hd : o.data = .seq items n)
    (e : EachIs R items.toList bs) (er : EachIs (fun v b => ∃ as, Reads s.heap v (enc b) as) items.toList bs) (hal : AllAlike (bs.map enc)) (hk : Sortable (bs.map enc) ∨ Empty1 (bs.map enc)) (hL : bs.length ≤ sizeLine) (hu : ∀ b, b ∈ bs → A.units + 2 + (enc b).depth < cLine)
    (h : ∀ (D : Addr) (out : List Value) (c : Nat) (h' : Heap), (∀ b o, s.heap.get? b = some o → h'.get? b = some o) → s.heap.objs.size ≤ D → h'.get? D = some (seqObj "list" out.toArray c) → out.length = bs.length → EachIs R out (bs.mergeSort (PySem.W.dataLe false enc)) → Q (.ref D) { s with heap := h' }) :
    wpAny (model prog w) A (call (.builtin "sorted") [.ref it]) Q E s := by
  have hz : items.size ≤ sizeLine := by
    have := e.length
    simp only [Array.length_toList] at this
    omega
  refine call_function_entry_kw kind_sorted plain_sorted entry_sorted (args_sorted1 _) ?_
  unfold Builtin.«sorted»
  refine wpAny_bind (m := checkCount "sorted" 1 1 _) (wpAny_pure (wpAny_bind (collect_sq hT ho hc hd hz (fun h1 k1 kz => ?_))))
  refine wpAny_bind (wpAny_newList ?_ hz)
  have at1 : (h1.push (seqObj "list" items.toList.toArray 0)).get? h1.objs.size = some (seqObj "list" items.toList.toArray 0) := Heap.get?_push_size _ rfl
  have k2 : ∀ b o, s.heap.get? b = some o → (h1.push (seqObj "list" items.toList.toArray 0)).get? b = some o := fun b o q => Heap.get?_push_of_some _ (k1 b o q)
  have k3 : ∀ b o, s.heap.get? b = some o → b ≠ h1.objs.size := fun b o q => Nat.ne_of_lt (Heap.lt_size (k1 b o q))
  have er1 : EachIs (fun v b => ∃ as, Reads (PySem.W.sortingHeap (h1.push (seqObj "list" items.toList.toArray 0)) h1.objs.size items.toList) v (enc b) as) items.toList bs :=
    er.mono fun _ _ ⟨as, r⟩ => ⟨as, PyProof.Rows.Reads.keeps (fun b o q => PySem.W.sortingHeap_old (k3 b o q) (k2 b o q)) r⟩
  refine wpAny_bind (wpAny_holding (wpAny_call_entry_kw slot_list_sort ⟨_, at1, rfl⟩ entry_list_sort ?body (args_list_sort _)))
  case body =>
    refine PySem.W.list_sort_vals (κ := dataKind (PySem.W.sortingHeap (h1.push (seqObj "list" items.toList.toArray 0)) h1.objs.size items.toList) (bs.map enc)) at1
      (sorts_any (s := { s with heap := PySem.W.sortingHeap (h1.push (seqObj "list" items.toList.toArray 0)) h1.objs.size items.toList }) (PySem.W.each_map (R := fun v d => ∃ as, Reads (PySem.W.sortingHeap (h1.push (seqObj "list" items.toList.toArray 0)) h1.objs.size items.toList) v d as) enc er1) hal hk ?_)
      (by rw [Array.length_toList]; exact hz) ⟨_, rfl, wpAny_pure ⟨_, rfl, ?_⟩⟩
    · intro d hd
      obtain ⟨b, hb, rfl⟩ := List.mem_map.mp hd
      exact hu b hb
    · obtain ⟨c, hc2⟩ := PyProof.Rows.sortedHeap_at (out := (PySem.W.sortVals (dataKind (PySem.W.sortingHeap (h1.push (seqObj "list" items.toList.toArray 0)) h1.objs.size items.toList) (bs.map enc)) false items.toList items.toList).toArray) at1
      refine h h1.objs.size _ c _ (fun b o q => ?_) ?_ hc2 ((PySem.W.sortVals_length false rfl).trans e.length) (PySem.W.sortVals_data false e er1 hal)
      · rw [PyProof.Rows.sortedHeap_old (k3 b o q) (Heap.lt_size (k2 b o q))]
        exact k2 b o q
      · exact kz
end
end MI
end
section
set_option Elab.async false
set_option linter.all false
set_option maxHeartbeats 4000000
/-! MI: sorted. -/
namespace MI
open PySem PySem.Spec PyProof.Rows L2
open PySem.W (EachIs alike dataLt AllAlike Sortable dataLe)
section
variable {X : Cx}
theorem each_of {zs : List (V × PyData)} : ∀ {us : List Value}, Vals (zs.map (·.1)) us → EachIs (fun v (z : V × PyData) => RelV z.1 v ∧ z ∈ zs) us zs := by
  have go : ∀ (ys : List (V × PyData)) {us : List Value}, (∀ z ∈ ys, z ∈ zs) → Vals (ys.map (·.1)) us → EachIs (fun v (z : V × PyData) => RelV z.1 v ∧ z ∈ zs) us ys := by
    intro ys
    induction ys with
    | nil => intro us _ r; cases r; exact .nil
    | cons y ys ih =>
      intro us hm r
      cases r with
      | cons r1 r2 => exact .cons ⟨r1, hm y List.mem_cons_self⟩ (ih (fun z hz => hm z (List.mem_cons_of_mem _ hz)) r2)
  exact fun {us} r => go zs (fun z hz => hz) r
theorem vals_of {zs : List (V × PyData)} {P : V × PyData → Prop} : ∀ {us : List Value} {ys : List (V × PyData)}, EachIs (fun v (z : V × PyData) => RelV z.1 v ∧ P z) us ys → Vals (ys.map (·.1)) us
  | _, _, .nil => .nil
  | _, _, .cons h t => .cons h.1 (vals_of (zs := zs) t)
theorem call_sortX (hu : X.A.units + 64 < cLine) : CallR X (.builtin "sorted") (fun vs H Q => ∃ (a : Addr) (zs : List (V × PyData)), vs = [.ref a] ∧ (SqL X.K H a (zs.map (·.1)) ∨ SqT X.K H a (zs.map (·.1))) ∧ (∀ z ∈ zs, Dp X.K H z.1 z.2) ∧ AllAlike (zs.map (·.2)) ∧
    (Sortable (zs.map (·.2)) ∨ Empty1 (zs.map (·.2))) ∧ (∀ z ∈ zs, z.2.depth ≤ 50) ∧ ∀ p, H p = none → Q (.ref p) (upd H p (.lst ((zs.mergeSort (dataLe false (·.2))).map (·.1))))) := by
  intro pins s σ H vs us Q I r ⟨a, zs, e0, hs, hd, hal, hk, h50, q⟩
  subst e0
  rw [Vals.ref1 r]
  have fin : ∀ {T : String} {o : Obj} {items : Array Value} {n : Nat}, (T = "list" ∨ T = "tuple") → s.heap.get? a = some o → o.cls = .type T → o.data = .seq items n → Vals (zs.map (·.1)) items.toList → zs.length ≤ sizeLine →
      wpAny (model X.prog X.w) X.A (call (.builtin "sorted") [.ref a]) (EP X pins σ Q) X.xe s := by
    intro T o items n hT ho hc hda rv hz
    have e := each_of rv
    have er : EachIs (fun v (z : V × PyData) => ∃ as, Reads s.heap v z.2 as) items.toList zs := e.mono fun v z ⟨h1, h2⟩ => Dp.reads I z.2 z.1 v (hd z h2) h1
    refine sorted_sq (β := V × PyData) (enc := (·.2)) (R := fun v z => RelV z.1 v ∧ z ∈ zs) hT ho hc hda e er hal hk hz (fun z hz => ?_) fun D out c h' k1 k2 k3 k4 k5 => ?_
    · have := h50 z hz
      omega
    · have rv2 : Vals ((zs.mergeSort (dataLe false (·.2))).map (·.1)) out := vals_of (zs := zs) k5
      have hl : ((zs.mergeSort (dataLe false (·.2))).map (·.1)).length ≤ sizeLine := by
        rw [List.length_map, List.length_mergeSort]; exact hz
      exact ⟨.ref D, upd H D (.lst ((zs.mergeSort (dataLe false (·.2))).map (·.1))), I.laid (t' := s.toks) k1 k2 ⟨hl, out, c, rv2, k3⟩, rfl, q D (I.hok.fresh k2)⟩
  rcases hs with hs | hs
  · obtain ⟨its, rv, ⟨o, n, h1, h2, h3, h4⟩, hz⟩ := I.list hs
    exact fin (.inl rfl) h1 h2 h4 (by simpa using rv) (by simpa using hz)
  · obtain ⟨its, rv, ⟨o, h1, h2, n, h4⟩, hz⟩ := I.tuple hs
    exact fin (.inr rfl) h1 h2 h4 (by simpa using rv) (by simpa using hz)
end
mutual
theorem toD_rd {lk : Nat → Option MV} : ∀ {x : MV} {d : PyData}, MV.toD x = some d → MV.rd lk x = some x
  | .non, _, _ => rfl
  | .bl _, _, _ => rfl
  | .int _, _, _ => rfl
  | .str _, _, _ => rfl
  | .tup xs, _, h => by
    simp only [MV.toD, Option.map_eq_some_iff] at h
    obtain ⟨ds, h, _⟩ := h
    simp [MV.rd, toDs_rd h]
  | .lv xs, _, h => by
    simp only [MV.toD, Option.map_eq_some_iff] at h
    obtain ⟨ds, h, _⟩ := h
    simp [MV.rd, toDs_rd h]
  | .fl xs, _, h => by
    simp only [MV.toD, Option.map_eq_some_iff] at h
    obtain ⟨ds, h, _⟩ := h
    simp [MV.rd, toDs_rd h]
  | .loc _, _, h => by simp [MV.toD] at h
  | .exo _ _, _, h => by simp [MV.toD] at h
  | .thk _, _, h => by simp [MV.toD] at h
theorem toDs_rd {lk : Nat → Option MV} : ∀ {xs : List MV} {ds : List PyData}, MV.toDs xs = some ds → MV.rds lk xs = some xs
  | [], _, _ => rfl
  | x :: xs, _, h => by
    simp only [MV.toDs, Option.bind_eq_some_iff, Option.map_eq_some_iff] at h
    obtain ⟨d, h1, ds, h2, _⟩ := h
    simp [MV.rds, toD_rd h1, toDs_rd h2]
end
theorem srtK_of {ds : List PyData} (h : srtK ds = true) (hn : ∀ d ∈ ds, noNone d = true) : Sortable ds ∨ Empty1 ds := by
  unfold srtK at h
  simp only [Bool.or_eq_true, List.all_eq_true] at h
  rcases h with (h | h) | h
  · refine .inl (.inl fun d hd => ?_)
    have q := h d hd
    split at q
    · exact ⟨_, _, rfl⟩
    · cases q
  · refine .inl (.inr fun d hd => ⟨noNone_ne (hn d hd), fun xs e => ?_⟩)
    subst e
    have q := h _ hd
    simp at q
  · split at h
    · exact .inr ⟨_, rfl⟩
    · cases h
section
variable {X : Cx} {G : GI} {B ι : List Addr} {H : Hp} {μ : Mem}
/-- alike items, put in order together -/
theorem srt_rv : ∀ {xs : List MV} {ws : List V} {ds : List PyData}, RVs G B ι H xs ws → MV.toDs xs = some ds → ∃ ts : List (MV × V × PyData), ts.map (·.1) = xs ∧ ts.map (·.2.1) = ws ∧ ts.map (·.2.2) = ds ∧ ∀ t ∈ ts, RV G B ι H t.1 t.2.1 ∧ MV.toD t.1 = some t.2.2
  | _, _, _, .nil, h => by simp only [MV.toDs, Option.some.injEq] at h; subst h; exact ⟨[], rfl, rfl, rfl, fun t ht => absurd ht List.not_mem_nil⟩
  | _, _, _, .cons (x := x) (v := v) r1 r2, h => by
    simp only [MV.toDs, Option.bind_eq_some_iff, Option.map_eq_some_iff] at h
    obtain ⟨d, h1, ds, h2, rfl⟩ := h
    obtain ⟨ts, e1, e2, e3, e4⟩ := srt_rv r2 h2
    refine ⟨(x, v, d) :: ts, by simp [e1], by simp [e2], by simp [e3], fun t ht => ?_⟩
    rcases List.mem_cons.mp ht with rfl | ht
    · exact ⟨r1, h1⟩
    · exact e4 t ht
theorem rvs_of {ts : List (MV × V × PyData)} : (∀ t ∈ ts, RV G B ι H t.1 t.2.1) → RVs G B ι H (ts.map (·.1)) (ts.map (·.2.1)) := by
  induction ts with
  | nil => intro _; exact .nil
  | cons t ts ih => intro h; exact .cons (h t List.mem_cons_self) (ih fun u hu => h u (List.mem_cons_of_mem _ hu))
theorem keysI_of : ∀ {kvs : List (Key × MV)} {kws : List (Key × V)} {ks : List Int}, RKs G B ι H kvs kws → keysI kvs = some ks → kws.map (·.1) = ks.map Sum.inl
  | _, _, _, .nil, h => by simp only [keysI, Option.some.injEq] at h; subst h; rfl
  | _, _, _, .cons (k := k) h r, e => by
    cases k with
    | inl i =>
      simp only [keysI, Option.map_eq_some_iff] at e
      obtain ⟨ks, e, rfl⟩ := e
      simp [keysI_of r e]
    | inr _ => simp [keysI] at e
theorem sort_uni {ys ks : List Int} (h1 : ys.Perm ks) (h2 : ys.Pairwise (· ≤ ·)) : ys = ks.mergeSort fun a b => decide (a ≤ b) := by
  refine List.Perm.eq_of_pairwise (le := (· ≤ ·)) (fun a b _ _ h g => Int.le_antisymm h g) h2 ?_ (h1.trans (List.mergeSort_perm ks _).symm)
  have q := List.pairwise_mergeSort (le := fun (a b : Int) => decide (a ≤ b)) (fun a b c h g => by simp at *; omega) (fun a b => by simp; omega) ks
  exact q.imp fun h => by simpa using h
theorem b_srt1 (hK : X.K = G.K) (hc : X.calm = true) (hu : X.A.units + 64 < cLine) : BiR X G .srt1 (.builtin "sorted") := by
  refine ⟨_, CallR.or (call_sortedDI hc) (call_sortX hu), fun {B ι H μ xs vs z Q} hr rs h q => ?_⟩
  unfold evBi at h
  split at h <;> try contradiction
  rename_i x _
  obtain ⟨v, rfl, r⟩ := rs.one
  split at h
  · rename_i kvs hk
    simp only [Option.bind_eq_some_iff] at h
    obtain ⟨ks, h1, h⟩ := h
    split at h
    · rename_i h64
      cases h
      obtain ⟨a, kws, rfl, ha, rk⟩ := dcOf_rv hr hk r
      refine .inl ⟨a, kws, ks, rfl, .of ha, keysI_of rk h1, h64, fun ys p hp hs hn => ?_⟩
      rw [sort_uni hp hs]
      have r2 : RVs G B ι H ((ks.mergeSort fun a b => decide (a ≤ b)).map MV.int) ((ks.mergeSort fun a b => decide (a ≤ b)).map V.int) := by
        generalize (ks.mergeSort fun a b => decide (a ≤ b)) = l
        induction l with
        | nil => exact .nil
        | cons i l ih => exact .cons (.int i) ih
      exact q _ _ (Ext.push hn) (hr.pushO hn) (RV.newLst hr hn r2) (New.lst hr hn r2)
    · cases h
  · simp only [Option.bind_eq_some_iff] at h
    obtain ⟨ys, e, h⟩ := h
    split at h
    · rename_i ho
      cases h
      obtain ⟨a, ws, rfl, hs, r2, h3, h4⟩ := sqOf_rv hr e r
      unfold srtOk at ho
      simp only [Bool.and_eq_true] at ho
      obtain ⟨_, ho⟩ := ho
      split at ho
      · rename_i ds hds
        simp only [Bool.and_eq_true, List.all_eq_true, decide_eq_true_eq] at ho
        obtain ⟨ho, hk⟩ := ho
        obtain ⟨ts, e1, e2, e3, e4⟩ := srt_rv r2 hds
        have f1 : (ts.map (·.2)).map (·.1) = ws := by rw [List.map_map]; exact e2
        have f2 : (ts.map (·.2)).map (·.2) = ds := by rw [List.map_map]; exact e3
        refine .inr ⟨a, ts.map (·.2), rfl, by rw [f1, hK]; exact hs, fun z hz => ?_, by rw [f2]; exact fun d hd d' hd' => (ho d hd).2 d' hd', by rw [f2]; exact srtK_of hk fun d hd => (ho d hd).1.2, fun z hz => ?_, fun p hn => ?_⟩
        · obtain ⟨t, ht, rfl⟩ := List.mem_map.mp hz
          rw [hK]
          exact rd_dp (look_ok hr 6) (toD_rd (e4 t ht).2) (e4 t ht).2 (e4 t ht).1
        · have : z.2 ∈ ds := by rw [← f2]; exact List.mem_map.mpr ⟨z, hz, rfl⟩
          exact (ho _ this).1.1
        · have g1 : srt ys = (ts.mergeSort fun a b => !dataLt b.2.2 a.2.2).map (·.1) := by
            unfold srt
            rw [← e1]
            exact (List.map_mergeSort (f := fun t : MV × V × PyData => t.1) fun a ha b hb => by simp [ltM, (e4 a ha).2, (e4 b hb).2]).symm
          have g2 : ((ts.map (·.2)).mergeSort (dataLe false (·.2))).map (·.1) = (ts.mergeSort fun a b => !dataLt b.2.2 a.2.2).map (·.2.1) := by
            have := List.map_mergeSort (l := ts) (r := fun a b => !dataLt b.2.2 a.2.2) (s := dataLe false (fun z : V × PyData => z.2)) (f := fun t : MV × V × PyData => t.2) fun a ha b hb => by simp [PySem.W.dataLe_eq]
            rw [← this, List.map_map]
            rfl
          rw [g1] at q
          rw [g2]
          have r3 : RVs G B ι H ((ts.mergeSort fun a b => !dataLt b.2.2 a.2.2).map (·.1)) ((ts.mergeSort fun a b => !dataLt b.2.2 a.2.2).map (·.2.1)) := rvs_of fun t ht => (e4 t (List.mem_mergeSort.mp ht)).1
          exact q _ _ (Ext.push hn) (hr.pushO hn) (RV.newLst hr hn r3) (New.lst hr hn r3)
      · cases ho
    · cases h
end
end MI
end
section
set_option Elab.async false
set_option linter.all false
set_option maxHeartbeats 4000000
/-! MI: what stands at a dict's key, else a new list put there. -/
namespace MI
open PySem PySem.Spec PyProof.Rows L2
section
variable {X : Cx} {G : GI} {W : WX} {wd : Wd} {B ι : List Addr} {H : Hp} {μ : Mem}
theorem putK_new {k : Key} {v : V} : ∀ {kws : List (Key × V)}, valV kws k = none → putK kws k v = kws ++ [(k, v)] := by
  intro kws h
  unfold putK
  rw [if_neg]
  intro z
  obtain ⟨q, hq, e⟩ := List.any_eq_true.mp z
  unfold valV at h
  rw [Option.map_eq_none_iff, List.find?_eq_none] at h
  exact h q hq e
theorem s_sdf {o e : Expr} {o' e' : E} {apos cpos lpos : Pos} (hK : X.K = G.K) (ho : PE X o (tE G W wd o')) (he : PE X e (tE G W wd e')) (m : M2 X o "setdefault" apos e (.List [] lpos) cpos) :
    PE X (.Call (.Attribute o "setdefault" apos) [e, .List [] lpos] [] cpos) (tE G W wd (.sdf o' e')) :=
  peW (pe_dsetd ho he (pe_lst pa_nil) m) fun σ H Q ⟨B, ι, μ, ρ, er, hr, h⟩ => by
    simp only [ev] at h
    refine tE_then er hr h.bnd fun x μ1 v H1 ι1 g e1 hr1 rx _ => ?_
    split at g
    · rename_i kvs0 e0
      obtain ⟨a, kws0, rfl, ha, _⟩ := dcOf_rv hr1 e0 rx
      refine ⟨a, rfl, .inl ⟨kws0, .inl ha⟩, ?_⟩
      refine tE_then (er.mono e1) hr1 (g.bnd.mono (fun _ _ q => q) fun _ _ q => q.ext e1) fun y μ2 w H2 ι2 g e2 hr2 ry _ => ?_
      refine ⟨Nat.zero_le _, fun p hp => ?_⟩
      have rx2 := rx.mono e2
      split at g
      · rename_i u μ3 hs
        unfold sdM at hs
        split at hs
        · rename_i j
          split at hs
          · rename_i kvs hj
            simp only [Option.bind_eq_some_iff] at hs
            obtain ⟨key, hk, hs⟩ := hs
            obtain ⟨b, hb, hob⟩ := hr2.get hj
            obtain ⟨kws, hd, rk⟩ := hob
            cases rx2 with
            | loc hn =>
              rw [hn] at hb
              cases hb
              have hd3 : upd H2 p (.lst []) a = some (.dK kws) := by rw [upd_ne (ne_of_none hd hp)]; exact hd
              have e3 : Ext G.K ι2 H2 ι2 (upd H2 p (.lst [])) := Ext.push hp
              obtain ⟨g1, g2⟩ := getK_rv (k := key) rk
              split at hs
              · rename_i hl
                refine ⟨kws, key, hd3, keyOf_rv hk ry, by rw [← rk.length]; exact most_lt hl, fun u' hu' => ?_, fun hn' => ?_⟩
                · split at hs
                  · rename_i u2 h2
                    cases hs
                    obtain ⟨u3, h3, ru⟩ := g1 _ h2
                    rw [hu'] at h3
                    cases h3
                    exact g _ _ ι2 ((e1.trans e2).trans e3) (hr2.pushO hp) (ru.mono e3) fun z => by cases z
                  · rename_i h2
                    rw [h2, hu'] at g2
                    cases g2
                · split at hs
                  · rename_i u2 h2
                    rw [h2, hn'] at g2
                    cases g2
                  · cases hs
                    have q1 : HR G (p :: B) ι2 (upd H2 p (.lst [])) μ2 := hr2.busy hp .l
                    have q2 : HR G B (ι2 ++ [p]) (upd H2 p (.lst [])) (μ2 ++ [.lst []]) := HR.own (o := .lst []) (fun o vs z => by rw [upd_same] at z; cases z) q1 (hr2.no hp) ⟨[], upd_same, .nil⟩
                    have e4 : Ext G.K ι2 H2 (ι2 ++ [p]) (upd H2 p (.lst [])) := Ext.pushL hp e3
                    have rl : RV G B (ι2 ++ [p]) (upd H2 p (.lst [])) (.loc μ2.length) (.ref p) := .loc (by rw [← hr2.len]; simp)
                    have hj2 := (List.getElem?_append_left (l₂ := [p]) (List.getElem?_eq_some_iff.mp hn).1).trans hn
                    obtain ⟨e5, q3⟩ := wr_dic q2 hj2 hd3 ((rk.mono e4).snoc rl)
                    rw [List.set_append_left _ _ (List.getElem?_eq_some_iff.mp hj).1] at q3
                    rw [putK_new hn']
                    exact g _ _ (ι2 ++ [p]) (((e1.trans e2).trans e4).trans e5) q3 (rl.mono e5) fun z => by cases z
              · cases hs
          · cases hs
        · cases hs
      · exact g.elim
    · exact g.elim
theorem s_dsp0 {pos : Pos} : PE X (.Dict [] [] pos) (tE G W wd (.dsp [] .nil)) :=
  peW pe_dnewK fun σ H Q ⟨B, ι, μ, ρ, er, hr, z⟩ => by
    simp only [ev, evs, bnd_ok, List.length_nil, List.nodup_nil, Nat.zero_le, and_self, if_true, List.zip_nil_right] at z
    intro p hp
    have q1 : HR G (p :: B) ι (upd H p (.dK [])) μ := hr.busy hp .d
    have q2 : HR G B (ι ++ [p]) (upd H p (.dK [])) (μ ++ [.dic []]) := HR.own (o := .dic []) (fun o vs z => by rw [upd_same] at z; cases z) q1 (hr.no hp) ⟨[], upd_same, .nil⟩
    exact z _ _ (ι ++ [p]) (Ext.pushL hp (Ext.push hp)) q2 (.loc (by rw [← hr.len]; simp)) fun z => by cases z
end
end MI
end
section
set_option Elab.async false
set_option linter.all false
set_option maxHeartbeats 4000000
/-! MI: two tuples walked side by side. -/
namespace MI
open PySem PySem.Spec PyProof.Rows L2
section
variable {G : GI} {B ι : List Addr} {H : Hp} {μ : Mem}
theorem wk_zipT {xs ys : List MV} {a b : Addr} (r : RV G B ι H (.tup xs) (.ref a)) (r' : RV G B ι H (.tup ys) (.ref b)) : Wk G B ι H (RZ.ItzT G.K a b) ((xs.zip ys).map fun p => .tup [p.1, p.2], []) := by
  refine ⟨fun H' => ∃ us ws, SqT G.K H' a us ∧ us.length = xs.length ∧ SqT G.K H' b ws ∧ ws.length = ys.length, (RZ.ItzT G.K a b).yld, ⟨?_, ?_, ?_⟩, fun B' ι' H' μ' fu hr g => ?_⟩
  · rintro i H' hi ⟨us, ws, q, e, q', e'⟩
    have hi' : i < min xs.length ys.length := by simpa using hi
    have l1 : i < us.length := by omega
    have l2 : i < ws.length := by omega
    exact ⟨us, ws, us[i], ws[i], q, q', by simp [l1], by simp [l2]⟩
  · rintro H' ⟨us, ws, q, e, q', e'⟩
    refine ⟨us, ws, q, q', ?_⟩
    simp only [List.length_map, List.length_zip]
    omega
  · exact fun i H' x H'' hi q y => y
  · cases fu _ _ r with
    | tup hq r2 =>
      rename_i us
      cases fu _ _ r' with
      | tup hq' r2' =>
        rename_i ws
        refine ⟨⟨us, ws, hq, r2.length.symm, hq', r2'.length.symm⟩, fun i x H'' hi ⟨T, u, w, e1, hT, e2, y1, y2⟩ => ?_⟩
        subst e1 e2
        obtain ⟨v1, hv1, rv1⟩ := r2.get' (y1 us hq)
        obtain ⟨v2, hv2, rv2⟩ := r2'.get' (y2 ws hq')
        exact ⟨.tup [v1, v2], by simp [List.getElem?_zip_eq_some, hv1, hv2], Ext.push hT, hr.pushO hT, .newTup hT (.cons rv1 (.cons rv2 .nil))⟩
end
section
variable {X : Cx} {G : GI} {W : WX} {wd : Wd}
theorem s_zip {elts : List Expr} {kk : Nat} {p pos tpos : Pos} {e e2 : Expr} {a' b' : E} (hK : X.K = G.K) (hg : Gl X "zip") (hm : X.mg "zip" = none) (ha : PA X [e, e2] (tEs G W wd (.cons a' (.cons b' .nil)))) (hs : starEach [e, e2] X.env = (false, eval e X.env) :: starEach [e2] X.env) (hpl : (backTo pos (starEach [e2] X.env)).any (·.1) = false) :
    PI X (.Tuple elts kk tpos) (.Call (.Name "zip" p) [e, e2] [] pos) (tI G W wd (.zip a' b')) :=
  piW (RZ.pi_zipA hg hm ha hs hpl) fun σ H R ⟨B, ι, μ, ρ, er, hr, h⟩ => by
    simp only [evIt] at h
    rw [hK]
    refine tEs_then (good := fun vs μ2 => ∃ x y, vs = [x, y] ∧ Out (match x, y with
      | .tup xs, .tup ys => some (.ok ((xs.zip ys).map fun p => .tup [p.1, p.2], []), μ2)
      | _, _ => none) (fun p μ1 => ∀ J H1 ι1, Ext G.K ι H ι1 H1 → HR G B ι1 H1 μ1 → Wk G B ι1 H1 J p → R J H1) (Bad G B ι H W σ)) er hr ?_ fun vs μ2 ws H1 ι1 ⟨x, y, e0, g⟩ e1 hr1 rs => ?_
    · cases q : ev wd a' ρ μ with
      | none => rw [q] at h; exact h.elim
      | some z =>
        obtain ⟨o, μ1⟩ := z
        rw [q] at h
        cases o with
        | error x => simp only [evs, q, bnd_error]; exact h
        | ok v =>
          simp only [bnd_ok] at h
          cases q2 : ev wd b' ρ μ1 with
          | none => rw [q2] at h; exact h.elim
          | some z2 =>
            obtain ⟨o2, μ2⟩ := z2
            rw [q2] at h
            cases o2 with
            | error x => simp only [evs, q, q2, bnd_ok, bnd_error]; exact h
            | ok v2 => simp only [evs, q, q2, bnd_ok]; exact ⟨v, v2, rfl, h⟩
    · subst e0
      obtain ⟨u, w, rfl, r1, r2⟩ := rs.two
      cases x with
      | tup xs =>
        cases y with
        | tup ys =>
          obtain ⟨a, vs, rfl, _, _, hT, _⟩ := sqOf_rv hr1 (rfl : sqOf μ2 (.tup xs) = some xs) r1
          obtain ⟨b, vs', rfl, _, _, hT', _⟩ := sqOf_rv hr1 (rfl : sqOf μ2 (.tup ys) = some ys) r2
          exact ⟨a, b, vs, vs', rfl, .inr ⟨hT ⟨_, rfl⟩, hT' ⟨_, rfl⟩, g _ H1 ι1 e1 hr1 (wk_zipT r1 r2)⟩⟩
        | _ => exact g.elim
      | _ => exact g.elim
end
end MI
end
section
set_option Elab.async false
set_option linter.all false
set_option maxHeartbeats 8000000
/-! MI: what the checks are worth. -/
namespace MI
open PySem PySem.Spec PyProof.Rows L2
/-! ### small facts of the text -/
theorem star_cons {e : Expr} {es : List Expr} {env : PySem.Env} (h : plainE e = true) : starEach (e :: es) env = (false, eval e env) :: starEach es env := by
  cases e <;> first | rfl | (simp [plainE] at h)
theorem star_any {env : PySem.Env} {pos : Pos} : ∀ {es : List Expr}, es.all plainE = true → (backTo pos (starEach es env)).any (·.1) = false
  | [], _ => rfl
  | e :: es, h => by
    simp only [List.all_cons, Bool.and_eq_true] at h
    rw [star_cons h.1]
    have ih := star_any (env := env) (pos := pos) h.2
    unfold backTo at ih ⊢
    simp only [List.map_cons, List.any_cons, ih, Bool.or_false]
theorem assign_cons {e : Expr} {es : List Expr} {env : PySem.Env} (h : plainE e = true) : assignEach (e :: es) env = (false, assign e env) :: assignEach es env := by
  cases e <;> first | rfl | (simp [plainE] at h)
theorem assign_len {env : PySem.Env} : ∀ {es : List Expr}, es.all plainE = true → (assignEach es env).length = es.length ∧ (assignEach es env).findIdx? (·.1) = none
  | [], _ => ⟨rfl, rfl⟩
  | e :: es, h => by
    simp only [List.all_cons, Bool.and_eq_true] at h
    rw [assign_cons h.1]
    have ih := assign_len (env := env) h.2
    refine ⟨by simp [ih.1], ?_⟩
    rw [List.findIdx?_cons]
    simp [ih.2]
theorem test_val {e : Expr} {env : PySem.Env} (h : testE e = true) : ∀ whole, isTrue e env whole = (do let v ← whole; standAt e.pos; holding [v] (truthy v)) := by
  intro whole
  cases e <;> first | rfl | (simp [testE] at h)
theorem sub_plain {i : Expr} (h : sliceE i = false) : ∀ o j, subscripted i false o j = operate [o, j] (getItem o j) := by
  intro o j
  cases i <;> first | rfl | (simp [sliceE] at h)
theorem set_plain {e : Expr} {env : PySem.Env} (h : setE e = false) : ∀ x, foldedSetIterable e env x = pure x := by
  intro x
  cases e <;> first | rfl | (simp [setE] at h)
theorem base_plain {e : Expr} {env : PySem.Env} {n : Str} (h : baseE e = true) : attributeBase e n env (eval e env) = eval e env := by
  cases e with
  | Call f as ks p => cases f <;> first | rfl | (simp [baseE] at h; done)
  | _ => first | rfl | (simp [baseE] at h; done)
theorem sub_assign {o i : Expr} {pos : Pos} {env : PySem.Env} (h : sliceE i = false) : ∀ v, assign (.Subscript o i pos) env v = (do
      let ov ← holding [v] (eval o env)
      let iv ← holding [v, ov] (eval i env)
      standAt pos
      holding [v, ov, iv] (setItem ov iv v)
      release [v, ov, iv] []) := by
  intro v
  cases i <;> first | rfl | (simp [sliceE] at h)
/-! ### a context that fits -/
def GOk (G : GI) (wd : Wd) (X : Cx) (k : Nat) (x : Str) : GE → Prop
  | .con v => ∃ u, X.mg x = some u ∧ ConOk G v u
  | .fn f np dvs sg => (∀ j, FnA X G wd k x f np (dvs.drop j)) ∧ (∀ p ∈ sg, FnKw X G wd k x f np p.1 p.2) ∧ ∀ xs μ, wd.call f xs μ ≠ none → xs.length = np
  | .cls c rs => X.mg x = some (.ref (G.cls c)) ∧ (rs = true → MkT X.prog X.K (G.cls c) (G.fld c))
  | .hr f => HrK X G wd k x f
structure OkX (G : GI) (wd : Wd) (k : Nat) (cs : CS) (X : Cx) (W : WX) : Prop where
  N : X.N = cs.N
  nd : cs.N.Nodup
  sc : X.env.scope = cs.sc
  K : X.K = G.K
  calm : X.calm = true
  room : Room k X.A
  tk : Takes X W
  fo : ∀ x, cs.fo x = true → X.fn x = true
  gl : ∀ x g, cs.gl.lookup x = some g → GOk G wd X k x g
  bi : ∀ x ∈ cs.bi, X.mg x = none
  cl : ClsOk G wd
  lm : cs.lm = true → Room (k + 2) X.A ∧ G.ρ0 = [] ∧ G.σ0 = [] ∧ G.cd = [] ∧ ∃ c P, X.env.code = .ref c ∧ LamX.TabB X.base X.mg c P ∧ (P, X.env.qual ++ "<lambda>") ∈ G.T ∧ ∀ p ∈ G.T, p.1 = P → p.2 = X.env.qual ++ "<lambda>"
section
variable {G : GI} {wd : Wd} {k : Nat} {cs : CS} {X : Cx} {W : WX}
theorem OkX.blk (h : OkX G wd k cs X W) (s : Shared) (H : Hp) (scope : Scope) (C : Addr) (cl : List (Str × Addr)) (fp : List Addr) : OkX G wd k (cs.blk scope) (X.blk s H scope (compEnvC scope cl C X.env) fp) W0 where
  N := h.N
  nd := h.nd
  sc := by
    show relabel scope X.env = relS scope cs.sc
    unfold relabel relS PySem.Env.kindOf
    rw [h.sc]
  K := h.K
  calm := h.calm
  room := h.room
  tk := takes0
  fo := fun x e => e
  gl := fun x g e => by
    have q := h.gl x g e
    cases g with
    | con v => exact q
    | fn f np ds sg =>
      obtain ⟨q, q2, q3⟩ := q
      exact ⟨fun j => let ⟨z⟩ := q j; ⟨z⟩, fun p hp => let ⟨z⟩ := q2 p hp; ⟨z⟩, q3⟩
    | cls c rs => exact q
    | hr f => obtain ⟨q⟩ := q; exact ⟨q⟩
  bi := h.bi
  cl := h.cl
  lm := fun z => by cases z
theorem OkX.lamX (h : OkX G wd k cs X W) {A : Around} {outer : List PySem.Env} {s : Shared} {H : Hp} {E : XK} {scope : Scope} {f c' : Addr} (hr : Room k (A.deeper (LamX.lamEnv X scope s.heap.objs.size f c'))) : OkX G wd k (cs.lam scope) (LamX.lamCx X A outer s H E scope f c') (fun cls d _ H => E cls d H) where
  N := h.N
  nd := h.nd
  sc := rfl
  K := h.K
  calm := rfl
  room := hr
  tk := takes_of rfl rfl rfl (E₁ := fun e' s'' => L2.CX X.prog X.w outer H s E e' s'') rfl
  fo := fun x e => by cases e
  gl := fun x g e => by
    have q := h.gl x g e
    cases g with
    | con v => exact q
    | fn f np ds sg =>
      obtain ⟨q, q2, q3⟩ := q
      exact ⟨fun j => let ⟨z⟩ := q j; ⟨z⟩, fun p hp => let ⟨z⟩ := q2 p hp; ⟨z⟩, q3⟩
    | cls c rs => exact q
    | hr f => obtain ⟨q⟩ := q; exact ⟨q⟩
  bi := h.bi
  cl := h.cl
  lm := fun z => by cases z
theorem noArgs_eq {a : Arguments} (h : noArgs a = true) : a = ⟨[], [], none, [], [], none, []⟩ := by
  unfold noArgs at h
  split at h
  · rfl
  · cases h
theorem OkX.gx (h : OkX G wd k cs X W) {x : Str} (g : cs.glx x = true) : Gl X x := by
  unfold CS.glx at g
  show X.env.scope.names.lookup x = _
  rw [h.sc]
  exact of_decide_eq_true g
theorem OkX.vx (h : OkX G wd k cs X W) {x : Str} (g : cs.vis x = true) : Vis X.env.scope x := by
  unfold CS.vis at g
  simp only [Bool.or_eq_true, decide_eq_true_eq] at g
  unfold Vis
  rw [h.sc]
  rcases g with (g | g) | g
  · exact .inl g
  · exact .inr (.inl g)
  · exact .inr (.inr g)
theorem OkX.hu (h : OkX G wd k cs X W) : X.A.units + 64 < cLine := by have := h.room.un; omega
theorem OkX.bl (h : OkX G wd k cs X W) {x y : Str} (g : cs.blt x y = true) : x = y ∧ Gl X x ∧ X.mg x = none := by
  unfold CS.blt at g
  simp only [Bool.and_eq_true, decide_eq_true_eq] at g
  exact ⟨g.1.1, h.gx g.1.2, h.bi x g.2⟩
theorem nd_of {x : Str} (h : nd x = true) : (x == ("__debug__" : Str)) = false := by simpa [nd] using h
theorem ncd_of {x : Str} (h : ncd x = true) : (x == ("__classdict__" : Str)) = false := by simpa [ncd] using h
end
def Says (G : GI) (W : WX) (wd : Wd) (X : Cx) : Q → Prop
  | .e a x => PE X x (tE G W wd a)
  | .es a xs => PA X xs (tEs G W wd a)
  | .t a x => PT X x (tT G W wd a)
  | .w a op xs pos => PW X (.BoolOp op xs pos) (tT G W wd a)
  | .o h a x => PO X x (tO G W wd h a)
  | .i a tg x => PI X tg x (tI G W wd a)
  | .g a x => PG X x (tG G wd a)
  | .gs a xs => PGs X xs (tGs G wd a)
  | .d ks es kxs vs => DPs X G W wd ks es kxs vs
  | .k a kws => PK X kws (tEs G W wd a)
section
variable {G : GI} {wd : Wd} {k : Nat} {cs : CS} {X : Cx} {W : WX} {r : CS → Q → Bool}
def RecOk (G : GI) (wd : Wd) (k : Nat) (r : CS → Q → Bool) : Prop := ∀ cs q, r cs q = true → ∀ X W, OkX G wd k cs X W → Says G W wd X q
theorem bi_call {f : Bi} {x : Str} {y : Expr} {ys : List Expr} {es : ES} {p pos : Pos} (ok : OkX G wd k cs X W) (hg : Gl X x) (hm : X.mg x = none) (hf : biN f = some x) (ha : PA X (y :: ys) (tEs G W wd es)) (hy : plainE y = true) (hys : ys.all plainE = true) :
    PE X (.Call (.Name x p) (y :: ys) [] pos) (tE G W wd (.blt f es)) := by
  have he := star_cons (es := ys) (env := X.env) hy
  have hpl := star_any (env := X.env) (pos := pos) hys
  cases f <;> simp only [biN, reduceCtorEq, Option.some.injEq] at hf <;> subst hf
  · exact s_bltB (b_len ok.K) hg hm (by decide +kernel) ha (by decide) (by decide) he hpl
  · exact s_bltB b_abs hg hm (by decide +kernel) ha (by decide) (by decide) he hpl
  · exact s_bltB (b_min2 ok.calm) hg hm (by decide +kernel) ha (by decide) (by decide) he hpl
  · exact s_bltB (b_max2 ok.calm) hg hm (by decide +kernel) ha (by decide) (by decide) he hpl
  · exact s_bltT b_int1 hg hm (by decide +kernel) ha (by decide) (by decide) he hpl
  · exact s_bltT (b_tup1 ok.K) hg hm (by decide +kernel) ha (by decide) (by decide) he hpl
  · exact s_bltT (b_lst1 ok.K) hg hm (by decide +kernel) ha (by decide) (by decide) he hpl
  · exact s_bltB (b_srt1 ok.K ok.calm ok.hu) hg hm (by decide +kernel) ha (by decide) (by decide) he hpl
  · exact s_bltB (b_all1 ok.K ok.calm) hg hm (by decide +kernel) ha (by decide) (by decide) he hpl
  · exact s_bltB (b_any1 ok.K ok.calm) hg hm (by decide +kernel) ha (by decide) (by decide) he hpl
  · exact s_bltB (b_sum1 ok.K ok.calm) hg hm (by decide +kernel) ha (by decide) (by decide) he hpl
theorem isi_call {x t : Str} {c : Cl} {y : Expr} {a : E} {p q pos : Pos} (ok : OkX G wd k cs X W) (hx : cs.blt x "isinstance" = true) (hgt : cs.glx t = true) (hbt : t ∈ cs.bi) (hc : clS c = some t) (hy : plainE y = true) (ha : PE X y (tE G W wd a)) :
    PE X (.Call (.Name x p) [y, .Name t q] [] pos) (tE G W wd (.isi a [c])) := by
  obtain ⟨e, h1, h2⟩ := ok.bl hx
  have he := star_cons (e := y) (es := [.Name t q]) (env := X.env) hy
  have hpl : (backTo pos (starEach [.Name t q] X.env)).any (·.1) = false := star_any rfl
  cases c <;> simp only [clS, reduceCtorEq, Option.some.injEq] at hc <;> subst hc
  all_goals exact s_isi ok.K rfl e h1 h2 (ok.gx hgt) (ok.bi _ hbt) (by decide +kernel) (by decide) (by decide) ha he hpl
theorem lc_parts {own : List Nat} {it : It} {g : MI.G} {c e : E} {elt tg iter : Expr} {ifs : List Expr} {scope : Scope} (R : RecOk G wd k r) (ok : OkX G wd k cs X W) (hb : blkC cs.N cs.sc scope (ownN cs.N own) = true) (hi : r cs (.i it tg iter) = true)
    (hg : r (cs.blk scope) (.g g tg) = true) (he : r (cs.blk scope) (.e e elt) = true) (ht : (match ifs with
      | [] => (match c with
        | .con (.bl true) => true
        | _ => false)
      | [t] => r (cs.blk scope) (.t c t)
      | _ => false) = true) :
    PI X tg iter (tI G W wd it) ∧ BlkOk X.N X.env.scope scope (ownN cs.N own) ∧ (∀ (s : Shared) (H : Hp) (C : Addr) (cl : List (Str × Addr)) (fp : List Addr), PG (X.blk s H scope (compEnvC scope cl C X.env) fp) tg (tG G wd g)) ∧
      (∀ (s : Shared) (H : Hp) (C : Addr) (cl : List (Str × Addr)) (fp : List Addr), PTs (X.blk s H scope (compEnvC scope cl C X.env) fp) ifs (tT G W0 wd c)) ∧
      (∀ (s : Shared) (H : Hp) (C : Addr) (cl : List (Str × Addr)) (fp : List Addr), PE (X.blk s H scope (compEnvC scope cl C X.env) fp) elt (tE G W0 wd e)) ∧ (ownN cs.N own).map (·.2) = own := by
  refine ⟨R _ _ hi X W ok, by rw [ok.N, ok.sc]; exact blkOk_by hb, fun s H C cl fp => R _ _ hg _ _ (ok.blk s H scope C cl fp), fun s H C cl fp => ?_, fun s H C cl fp => R _ _ he _ _ (ok.blk s H scope C cl fp), ?_⟩
  · split at ht
    · split at ht
      · refine ⟨fun pins s' σ H' Q I h => pts_nil.run pins s' σ H' Q I ?_⟩
        obtain ⟨B, ι, μ, ρ, er, hr, h⟩ := h
        simp only [ev] at h
        obtain ⟨kk, e1, q⟩ := h (.bl true) H' ι Ext.refl hr (.bl true) fun z => by cases z
        cases e1
        exact q
      · cases ht
    · exact pts_one (R _ _ ht _ _ (ok.blk s H scope C cl fp))
    · cases ht
  · unfold ownN
    rw [List.map_map]
    exact List.map_id' own
theorem ckE_ok {a : E} {x : Expr} (R : RecOk G wd k r) (h : ckE r cs a x = true) (ok : OkX G wd k cs X W) : PE X x (tE G W wd a) := by
  unfold ckE at h
  split at h
  · -- constants
    unfold conOk at h
    split at h
    · exact s_non
    · rw [beq_iff_eq] at h; subst h; exact s_bl
    · rw [beq_iff_eq] at h; subst h; exact s_int
    · have h := of_decide_eq_true h; subst h; exact s_str
    · cases h
  · -- a constant of the module
    simp only [Bool.and_eq_true] at h
    obtain ⟨⟨h1, h2⟩, h3⟩ := h
    split at h3
    · rename_i w e
      have h3 := of_decide_eq_true h3
      subst h3
      obtain ⟨u, m, c⟩ := ok.gl _ _ e
      exact s_glob (ok.gx h1) m c (nd_of h2)
    · cases h3
  · simp only [Bool.and_eq_true, decide_eq_true_eq] at h
    exact s_var (by rw [ok.N]; exact h.1.1.1) (ok.vx h.1.1.2) (nd_of h.1.2) (ncd_of h.2)
  · simp only [Bool.and_eq_true, decide_eq_true_eq] at h
    exact s_bin ok.K h.1.1 (R _ _ h.1.2 _ _ ok) (R _ _ h.2 _ _ ok)
  · exact s_neg (R _ _ h _ _ ok)
  · exact s_nt (R _ _ h _ _ ok)
  · simp only [Bool.and_eq_true, decide_eq_true_eq, Bool.not_eq_true'] at h
    exact s_cmp ok.K ok.hu h.1.1.1 h.1.1.2 (R _ _ h.1.2 _ _ ok) (R _ _ h.2 _ _ ok)
  · simp only [Bool.and_eq_true, decide_eq_true_eq, Bool.not_eq_true'] at h
    exact s_chn ok.K ok.hu h.1.1.1.1.1 h.1.1.1.1.2 h.1.1.1.2 (R _ _ h.1.1.2 _ _ ok) (R _ _ h.1.2 _ _ ok) (R _ _ h.2 _ _ ok)
  · simp only [Bool.and_eq_true] at h
    exact s_an (R _ _ h.1 _ _ ok) (s_one (R _ _ h.2 _ _ ok))
  · simp only [Bool.and_eq_true] at h
    exact s_an (R _ _ h.1 _ _ ok) (R _ _ h.2 _ _ ok)
  · simp only [Bool.and_eq_true] at h
    exact s_orr (R _ _ h.1 _ _ ok) (s_one (R _ _ h.2 _ _ ok))
  · simp only [Bool.and_eq_true] at h
    exact s_orr (R _ _ h.1 _ _ ok) (R _ _ h.2 _ _ ok)
  · simp only [Bool.and_eq_true] at h
    exact s_ife (R _ _ h.1.1 _ _ ok) (fun _ _ _ q => q) (R _ _ h.1.2 _ _ ok) (R _ _ h.2 _ _ ok)
  · exact s_tup (R _ _ h _ _ ok)
  · exact s_lst (R _ _ h _ _ ok)
  · simp only [Bool.and_eq_true] at h
    exact s_chg h.1 (R _ _ h.2 _ _ ok)
  · simp only [Bool.and_eq_true, Bool.not_eq_true'] at h
    exact s_idx ok.K ok.hu (sub_plain h.1.1) (R _ _ h.1.2 _ _ ok) (R _ _ h.2 _ _ ok)
  · simp only [Bool.and_eq_true] at h
    exact s_slc ok.K (R _ _ h.1.1 _ _ ok) (R _ _ h.1.2 _ _ ok) (R _ _ h.2 _ _ ok)
  · simp only [Bool.and_eq_true] at h
    obtain ⟨⟨⟨⟨⟨h1, h2⟩, h3⟩, h4⟩, h5⟩, h6⟩ := h
    split at h3
    · rename_i f' np dvs sg e
      simp only [Bool.and_eq_true, decide_eq_true_eq] at h3
      obtain ⟨⟨⟨rfl, _⟩, z⟩, _⟩ := h3
      obtain ⟨F, _, hl⟩ := ok.gl _ _ e
      rw [z]
      exact s_app ok.tk (F _) hl ok.room (ok.gx h1) (R _ _ h6 _ _ ok) (nd_of h2) (star_cons h4) (star_any h5)
    · cases h3
  · simp only [Bool.and_eq_true] at h
    obtain ⟨⟨⟨h1, h2⟩, h3⟩, h4⟩ := h
    split at h3
    · rename_i f' np dvs sg e
      simp only [Bool.and_eq_true, decide_eq_true_eq, List.any_eq_true] at h3
      obtain ⟨⟨rfl, p, hp, ⟨q1, q2⟩, q3⟩, q4⟩ := h3
      obtain ⟨_, F, _⟩ := ok.gl _ _ e
      subst q2
      exact s_apk ok.tk (F p hp) (by simpa using q4) ok.room (ok.gx h1) (nd_of h2) q1 q3 (R _ _ h4 _ _ ok)
    · cases h3
  · simp only [Bool.and_eq_true] at h
    obtain ⟨⟨⟨⟨⟨⟨h1, h2⟩, h3⟩, h4⟩, h5⟩, h6⟩, h7⟩ := h
    split at h4
    · rename_i f' e
      have h4 := of_decide_eq_true h4
      subst h4
      obtain ⟨q1, q2, q3, q4, c, P, q5, q6, q7, q8⟩ := ok.lm h1
      have h6 := noArgs_eq h6
      subst h6
      exact s_hrd (ok.gl _ _ e) (ok.gx h2) (nd_of h3) q6 q5 q7 q8 q2 q3 q4 q1 (LamX.lamS_by (by rw [ok.sc]; exact h5)) rfl (fun _ _ _ _ _ => rfl) fun A outer s H E f c' hr => R _ _ h7 _ _ (ok.lamX hr)
    · cases h4
  · simp only [Bool.and_eq_true, decide_eq_true_eq] at h
    exact bi_call ok (ok.gx h.1.1.1.1.1) (ok.bi _ h.1.1.1.1.2) h.1.1.1.2 (R _ _ h.2 _ _ ok) h.1.1.2 h.1.2
  · simp only [Bool.and_eq_true] at h
    obtain ⟨⟨⟨⟨⟨h1, h2⟩, h3⟩, h4⟩, h5⟩, h6⟩ := h
    split at h4
    · rename_i d' rs e
      have h4 := of_decide_eq_true h4
      subst h4
      obtain ⟨e1, g1, m1⟩ := ok.bl h1
      exact s_isiE ok.K ok.cl e1 g1 m1 (ok.gx h2) (ok.gl _ _ e).1 (nd_of h3) (R _ _ h6 _ _ ok) (star_cons h5) (star_any rfl)
    · cases h4
  · simp only [Bool.and_eq_true, decide_eq_true_eq] at h
    exact isi_call ok h.1.1.1.1.1 h.1.1.1.1.2 h.1.1.1.2 h.1.1.2 h.1.2 (R _ _ h.2 _ _ ok)
  · simp only [Bool.and_eq_true, decide_eq_true_eq] at h
    exact s_fld ok.K ok.cl h.1.1.2 h.1.1.1 (base_plain h.1.2) (R _ _ h.2 _ _ ok)
  · simp only [Bool.and_eq_true, decide_eq_true_eq] at h
    obtain ⟨⟨⟨⟨⟨rfl, h2⟩, h3⟩, h4⟩, h5⟩, h6⟩ := h
    refine s_append ok.K rfl (R _ _ h5 _ _ ok) (R _ _ h6 _ _ ok) (base_plain h2) ?_ h3 (star_cons h4) rfl
    rw [star_cons h4]; rfl
  · simp only [Bool.and_eq_true, decide_eq_true_eq] at h
    obtain ⟨⟨⟨⟨⟨rfl, h2⟩, h3⟩, h4⟩, h5⟩, h6⟩ := h
    refine s_pop1 ok.K rfl (R _ _ h5 _ _ ok) (R _ _ h6 _ _ ok) (base_plain h2) ?_ h3 (star_cons h4) rfl
    rw [star_cons h4]; rfl
  · simp only [Bool.and_eq_true, decide_eq_true_eq] at h
    obtain ⟨⟨⟨rfl, h2⟩, h3⟩, h4⟩ := h
    exact s_pop0 ok.K rfl (R _ _ h4 _ _ ok) (base_plain h2) h3
  · simp only [Bool.and_eq_true, decide_eq_true_eq] at h
    obtain ⟨⟨⟨⟨⟨rfl, h2⟩, h3⟩, h4⟩, h5⟩, h6⟩ := h
    refine s_sdf ok.K (R _ _ h5 _ _ ok) (R _ _ h6 _ _ ok) ⟨base_plain h2, ?_, h3, ?_⟩
    · rw [star_cons h4]; rfl
    · rw [star_cons h4]; rfl
  · simp only [Bool.and_eq_true, Bool.not_eq_true', List.all_eq_true, decide_eq_true_eq] at h
    obtain ⟨⟨⟨⟨⟨⟨h1, h2⟩, h3⟩, h4⟩, h5⟩, h6⟩, h7⟩ := h
    obtain ⟨p1, p2, p3, p4, p5, p6⟩ := lc_parts R ok h1 h4 h5 h6 h7
    have q := fun pp : Pos => pe_lc (pos := pp) ok.calm (by rw [ok.N]; exact ok.nd) p1 p2 p3 p4 p5 (set_plain h3)
    rw [p6] at q
    exact peW (q _) fun σ H Q z => lcm_of h2 z
  · simp only [Bool.and_eq_true] at h
    obtain ⟨⟨⟨h1, h2⟩, h3⟩, h4⟩ := h
    obtain ⟨e1, g1, m1⟩ := ok.bl h1
    obtain ⟨e2, g2, m2⟩ := ok.bl h2
    subst e2
    exact s_lrg1 ok.calm (e1.trans (by split <;> rfl)) g1 m1 g2 m2 (R _ _ h4 _ _ ok) (star_cons h3) rfl
  · exact s_dsp0
  · simp only [Bool.and_eq_true, decide_eq_true_eq] at h
    exact s_dsp (R _ _ h.2 _ _ ok) h.1.1 h.1.2
  · cases h
theorem ckT_ok {a : E} {x : Expr} (R : RecOk G wd k r) (h : ckT r cs a x = true) (ok : OkX G wd k cs X W) : PT X x (tT G W wd a) := by
  unfold ckT at h
  split at h
  · simp only [Bool.and_eq_true, decide_eq_true_eq, Bool.not_eq_true'] at h
    exact t_cmp ok.K ok.hu h.1.1.1 h.1.1.2 (R _ _ h.1.2 _ _ ok) (R _ _ h.2 _ _ ok)
  · simp only [Bool.and_eq_true, decide_eq_true_eq, Bool.not_eq_true'] at h
    exact t_chn ok.K ok.hu h.1.1.1.1.1 h.1.1.1.1.2 h.1.1.1.2 (R _ _ h.1.1.2 _ _ ok) (R _ _ h.1.2 _ _ ok) (R _ _ h.2 _ _ ok)
  · exact t_nt (R _ _ h _ _ ok)
  · simp only [Bool.and_eq_true] at h
    exact (t_an (R _ _ h.1 _ _ ok) (R _ _ h.2 _ _ ok)).pt
  · simp only [Bool.and_eq_true] at h
    exact (t_orr (R _ _ h.1 _ _ ok) (R _ _ h.2 _ _ ok)).pt
  · simp only [Bool.and_eq_true] at h
    exact t_val (R _ _ h.2 _ _ ok) (test_val h.1)
theorem ckW_ok {a : E} {op : BoolOp} {xs : List Expr} {pos : Pos} (R : RecOk G wd k r) (h : ckW r cs a op xs pos = true) (ok : OkX G wd k cs X W) : PW X (.BoolOp op xs pos) (tT G W wd a) := by
  unfold ckW at h
  split at h
  · cases op with
    | And => exact t_an1 (R _ _ h _ _ ok)
    | Or => exact t_orr1 (R _ _ h _ _ ok)
  · simp only [Bool.and_eq_true] at h
    exact t_an (R _ _ h.1 _ _ ok) (R _ _ h.2 _ _ ok)
  · simp only [Bool.and_eq_true] at h
    exact t_orr (R _ _ h.1 _ _ ok) (R _ _ h.2 _ _ ok)
  · cases h
theorem ckI_ok {a : It} {tg x : Expr} (R : RecOk G wd k r) (h : ckI r cs a tg x = true) (ok : OkX G wd k cs X W) : PI X tg x (tI G W wd a) := by
  unfold ckI at h
  split at h
  · simp only [Bool.and_eq_true] at h
    obtain ⟨e, g, m⟩ := ok.bl h.1.1
    subst e
    exact s_enu ok.K g m (s_acons (R _ _ h.2 _ _ ok) s_anil (star_cons h.1.2)) (star_cons h.1.2)
  · simp only [Bool.and_eq_true] at h
    obtain ⟨e, g, m⟩ := ok.bl h.1.1.1
    subst e
    exact s_zip ok.K g m (R _ _ h.2 _ _ ok) (star_cons h.1.1.2) (by rw [star_cons h.1.2] <;> rfl)
  · simp only [Bool.and_eq_true, decide_eq_true_eq] at h
    obtain ⟨e, g, m⟩ := ok.bl h.1.1.1
    subst e
    exact s_rng1 h.1.1.2 g m (R _ _ h.2 _ _ ok) (star_cons h.1.2)
  · simp only [Bool.and_eq_true, decide_eq_true_eq] at h
    obtain ⟨⟨⟨⟨h1, h2⟩, h3⟩, h4⟩, h5⟩ := h
    obtain ⟨e, g, m⟩ := ok.bl h1
    subst e
    exact s_rng2 h2 g m (R _ _ h5 _ _ ok) (by rw [star_cons h3, star_cons h4] <;> rfl) (star_cons h4)
  · simp only [Bool.and_eq_true, decide_eq_true_eq] at h
    obtain ⟨⟨⟨⟨⟨h1, h2⟩, h3⟩, h4⟩, h5⟩, h6⟩ := h
    obtain ⟨e, g, m⟩ := ok.bl h1
    subst e
    exact s_rng3 h2 g m (R _ _ h6 _ _ ok) (star_cons h3) (star_any (by simp [h4, h5]))
  · exact s_seq ok.K (R _ _ h _ _ ok)
  · cases h
theorem asgs_len : ∀ {gs : GS} {xs : List MV} {ρ : Env} {μ : Mem}, asgs wd gs xs ρ μ ≠ none → xs.length = gsLen gs
  | .nil, [], _, _, _ => rfl
  | .nil, _ :: _, _, _, h => absurd (by simp [asgs]) h
  | .cons g gs, [], _, _, h => absurd (by simp [asgs]) h
  | .cons g gs, x :: xs, ρ, μ, h => by
    simp only [asgs] at h
    split at h
    · simp [gsLen, asgs_len h]
    · exact absurd rfl h
theorem ckG_ok {a : MI.G} {x : Expr} (R : RecOk G wd k r) (h : ckG r cs a x = true) (ok : OkX G wd k cs X W) : PG X x (tG G wd a) := by
  unfold ckG at h
  split at h
  · simp only [Bool.and_eq_true, Bool.or_eq_true, decide_eq_true_eq] at h
    refine g_nm (by rw [ok.N]; exact ok.nd) (by rw [ok.N]; exact h.1) ?_ ?_
    · rcases h.2 with q | q
      · exact .inl (by rw [ok.sc]; exact q)
      · exact .inr (by rw [ok.sc]; exact q.1)
    · rcases h.2 with q | q
      · exact .inr (by rw [ok.sc]; exact q)
      · exact .inl (ok.fo _ q.2)
  · simp only [Bool.and_eq_true, decide_eq_true_eq] at h
    have hl := assign_len (env := X.env) h.1.1
    exact g_tp ok.K ok.calm (R _ _ h.2 X W ok) hl.1 hl.2 fun xs ρ μ q => (asgs_len q).trans h.1.2
  · simp only [Bool.and_eq_true, Bool.not_eq_true'] at h
    have hu := ok.hu
    exact g_ix (W := W) (by omega) (R _ _ h.1.2 _ _ ok) (R _ _ h.2 _ _ ok) (sub_assign h.1.1)
  · cases h
theorem ck_ok : ∀ n, RecOk G wd k (ck n)
  | 0 => fun cs q h => by simp [ck] at h
  | n + 1 => fun cs q h X W ok => by
    have R : RecOk G wd k (ck n) := ck_ok n
    cases q with
    | e a x => exact ckE_ok R h ok
    | es a xs =>
      have h : ckEs (ck n) cs a xs = true := h
      unfold ckEs at h
      split at h
      · exact s_anil
      · simp only [Bool.and_eq_true] at h
        exact s_acons (R _ _ h.1.2 _ _ ok) (R _ _ h.2 _ _ ok) (star_cons h.1.1)
      · cases h
    | t a x => exact ckT_ok R h ok
    | w a op xs pos => exact ckW_ok R h ok
    | o hh a x =>
      have h : ckO (ck n) cs hh a x = true := h
      unfold ckO at h
      split at h
      · exact o_none
      · exact o_some (R _ _ h _ _ ok)
      · cases h
    | i a tg x => exact ckI_ok R h ok
    | g a x => exact ckG_ok R h ok
    | gs a xs =>
      have h : ckGs (ck n) cs a xs = true := h
      unfold ckGs at h
      split at h
      · exact gs_nil
      · simp only [Bool.and_eq_true] at h
        refine gs_cons (R _ _ h.1.2 X W ok) (R _ _ h.2 X W ok) ?_
        rw [assign_cons h.1.1]; rfl
      · cases h
    | d ks es kxs vs =>
      have h : ckD (ck n) cs ks es kxs vs = true := h
      unfold ckD at h
      split at h
      · exact .nil
      · simp only [Bool.and_eq_true] at h
        refine .cons ?_ (R _ _ h.1.2 _ _ ok) (R _ _ h.2 _ _ ok)
        have hk := h.1.1
        unfold dkey at hk
        split at hk
        · rw [beq_iff_eq] at hk; subst hk; exact pe_int
        · have hk := of_decide_eq_true hk; subst hk; exact pe_str
        · cases hk
      · cases h
    | k a kws =>
      have h : ckK (ck n) cs a kws = true := h
      unfold ckK at h
      split at h
      · exact s_knil
      · simp only [Bool.and_eq_true] at h
        exact s_kcons (R _ _ h.1.2 _ _ ok) (R _ _ h.2 _ _ ok)
      · cases h
end
end MI
end
section
set_option Elab.async false
set_option linter.all false
set_option maxHeartbeats 8000000
/-! MI: checks of statements. -/
namespace MI
open PySem PySem.Spec PyProof.Rows L2
inductive QS where
  | s (a : S) (x : Stmt) | ss (a : SS) (xs : List Stmt)
def compE : Expr → Bool
  | .ListComp .. | .SetComp .. | .DictComp .. => true
  | _ => false
/-- a target that is no plain local -/
def CS.farT (cs : CS) : Expr → Bool
  | .Name x _ => !(cs.sc.names.lookup x == some .local)
  | _ => true
/-- no swapped stores -/
def CS.swN (cs : CS) : Expr → Expr → Bool
  | .Tuple ts _ _, .Tuple vs _ _ => vs.all (foldedForSure 8) || ts.any cs.farT
  | .List _ _, .Tuple _ _ _ => false
  | _, _ => true
/-- a comprehension that may get a place -/
def lcOf : E → Option (List Nat × It × MI.G × E × E)
  | .lcm own it g c e => some (own, it, g, c, e)
  | .chg (.lcm own it g c e) => some (own, it, g, c, e)
  | _ => none
/-- names and nothing else -/
def namesOf : List Expr → Option (List (Str × Pos))
  | [] => some []
  | .Name x p :: xs => (namesOf xs).map ((x, p) :: ·)
  | _ => none
theorem namesOf_eq : ∀ {xs : List Expr} {ys : List (Str × Pos)}, namesOf xs = some ys → xs = ys.map fun p => .Name p.1 p.2
  | [], ys, h => by simp [namesOf] at h; subst h; rfl
  | x :: xs, ys, h => by
    cases x with
    | Name y p =>
      simp only [namesOf] at h
      obtain ⟨zs, hz, rfl⟩ := Option.map_eq_some_iff.mp h
      rw [namesOf_eq hz]
      rfl
    | _ => simp [namesOf] at h
section
variable (c : CS → Q → Bool) (r : QS → Bool) (cs : CS)
def ckTra (p i j nn : Nat) (ds : List Nat) (y a n z n' : Str) (xs : List Expr) : Bool :=
  cs.hd && decide (p = 0) && decide (cs.N[0]? = some a) && decide (cs.N[i]? = some y) && decide (cs.sc.names.lookup y = some .local) && decide (cs.N[j]? = some z) && decide (cs.sc.names.lookup z = some .local) && decide (cs.N[nn]? = some n) && decide (cs.sc.names.lookup n = some .local) && decide (n' = n) && nd n && ncd n &&
    decide (xs.length = ds.length) && decide (ds.length = 3) && (match namesOf xs with
      | some ys => (ys.zip ds).all fun q => cs.glx q.1.1 && nd q.1.1 && (match cs.gl.lookup q.1.1 with
        | some (.cls d _) => decide (d = q.2)
        | _ => false)
      | none => false)
def ckPar (i j : Nat) (a b : E) (x y : Str) (px py : Pos) (u v : Expr) : Bool :=
  decide (cs.N[i]? = some x) && decide (cs.N[j]? = some y) && decide (i ≠ j) && !(x == y) && !(y == x) && decide (cs.sc.names.lookup x = some .local) && decide (cs.sc.names.lookup y = some .local) && decide (cs.sc.kind = .function) && (px.line == py.line) && (px.line == px.line) &&
    !(foldedForSure 8 u && foldedForSure 8 v) && !(constantsAlone 8 u && constantsAlone 8 v) && plainE u && plainE v && c cs (.es (.cons a (.cons b .nil)) [u, v])
def ckSt : S → Stmt → Bool
  | .asg g a, .Assign [tg] v spos => (match g, a, tg, v with
    | .tp (.cons (.nm i) (.cons (.nm j) .nil)), .tup (.cons a (.cons b .nil)), .Tuple [.Name x px, .Name y py] _ _, .Tuple [u, v] _ _ => ckPar c cs i j a b x y px py u v
    | _, _, _, _ => false) || (match g, tg, v with
    | .nm i, .Name y py, .ListComp elt [⟨lt, iter, ifs, 0⟩] scope pos => decide (cs.N[i]? = some y) && decide (cs.sc.names.lookup y = some .local) && decide (cs.sc.kind = .function) && (py.line == pos.line) && !(scope.names.any fun (n, k) => n == y && (k == .local || k == .cell)) && (match lcOf a with
      | some (own, it, g, t, e) => blkC cs.N cs.sc scope (ownN cs.N own) && (gNames g).all (fun i => decide (i ∈ own)) && !setE iter && c cs (.i it lt iter) && c (cs.blk scope) (.g g lt) && c (cs.blk scope) (.e e elt) && (match ifs with
        | [] => (match t with
          | .con (.bl true) => true
          | _ => false)
        | [x] => c (cs.blk scope) (.t t x)
        | _ => false)
      | none => false)
    | _, _, _ => false) || ((!compE v || cs.farT tg) && cs.swN tg v && plainE tg && c cs (.e a v) && c cs (.g g tg))
  | .ex a, .Expr v _ => !compE v && c cs (.e a v)
  | .ret a, .Return (some v) _ => c cs (.e a v)
  | .ret (.con .non), .Return none _ => true
  | .ite t a b, .If x u v _ => c cs (.t t x) && r (.ss a u) && r (.ss b v)
  | .whl t a, .While x u [] _ => c cs (.t t x) && r (.ss a u)
  | .fr g it a, .For tg iter u [] _ => !setE iter && c cs (.i it tg iter) && c cs (.g g tg) && r (.ss a u)
  | .brk, .Break _ => true
  | .cnt, .Continue _ => true
  | .pas, .Pass _ => true
  | .nev, _ => true
  | .rai a e, .Raise (some (.Call (.Name x _) [y] [] _)) none _ => cs.glx x && nd x && (match cs.gl.lookup x with
    | some (.cls d true) => decide (a = d)
    | _ => false) && plainE y && c cs (.es (.cons e .nil) [y])
  | .tra p i j nn ds, .Try [.Assign [.Name y _] (.Call (.Name a _) [] [] _) _] [.ExceptHandler (some (.Tuple xs _ _)) (some n) [.Assign [.Name z _] (.Name n' _) _] _] [] [] _ => ckTra cs p i j nn ds y a n z n' xs
  | _, _ => false
end
/-- n: how deep statements lie, m: how deep expressions -/
def ckS (m : Nat) (cs : CS) : Nat → QS → Bool
  | 0, _ => false
  | n + 1, q => match q with
    | .s a x => ckSt (ck m) (ckS m cs n) cs a x
    | .ss .nil [] => true
    | .ss (.cons a as) (x :: xs) => ckS m cs n (.s a x) && ckS m cs n (.ss as xs)
    | _ => false
theorem swaps_no {v : Expr} {t : Option Expr} {l : Nat} {env : PySem.Env} (h : compE v = false) : swapsWith v t l env = pure false := by
  cases v <;> first | rfl | (simp [compE] at h)
theorem swaps_far {cs : CS} {v tg : Expr} {l : Nat} {env : PySem.Env} (he : env.scope = cs.sc) (h : cs.farT tg = true) : swapsWith v (some tg) l env = pure false := by
  cases tg with
  | Name y p =>
    have k : (env.kindOf y == some .local) = false := by
      unfold PySem.Env.kindOf
      rw [he]
      simpa [CS.farT] using h
    cases v <;> first | rfl | (show (pure (env.blockKind == .function && env.kindOf y == some .local && _ && _) : Sem Bool) = pure false; rw [k, Bool.and_false, Bool.false_and, Bool.false_and])
  | _ => cases v <;> rfl
theorem far_len {cs : CS} {env : PySem.Env} {line : Nat} (he : env.scope = cs.sc) : ∀ {ts : List Expr}, ts.any cs.farT = true → (ts.filterMap fun
    | .Name id pos => if (env.kindOf id == some .local && pos.line == line) = true then some id else none
    | _ => none).length < ts.length
  | [], h => by simp at h
  | t :: ts, h => by
    have le : ∀ l : List Expr, (l.filterMap fun
      | .Name id pos => if (env.kindOf id == some .local && pos.line == line) = true then some id else none
      | _ => none).length ≤ l.length := fun l => List.length_filterMap_le _ _
    by_cases ht : cs.farT t = true
    · rw [List.filterMap_cons_none]
      · exact Nat.lt_succ_of_le (le ts)
      · cases t with
        | Name y p =>
          have k : (env.kindOf y == some .local) = false := by
            unfold PySem.Env.kindOf
            rw [he]
            simpa [CS.farT] using ht
          simp [k]
        | _ => rfl
    · have h2 : ts.any cs.farT = true := by
        simp only [List.any_cons, Bool.or_eq_true] at h
        exact h.resolve_left ht
      have ih := far_len (line := line) he h2
      rw [List.filterMap_cons]
      split
      · exact Nat.lt_succ_of_lt ih
      · simp only [List.length_cons]
        omega
theorem stores_no {cs : CS} {tg v : Expr} {env : PySem.Env} (he : env.scope = cs.sc) (h : cs.swN tg v = true) : swappedStores [tg] v env = pure none := by
  unfold CS.swN at h
  split at h
  · rename_i ts k1 p1 vs k2 p2
    simp only [Bool.or_eq_true] at h
    rcases h with h | h
    · unfold swappedStores
      simp only [h, if_true, pure_bind]
      repeat' split
      all_goals first | rfl | contradiction | simp_all
    · have hl := far_len (line := (ts.head?.map (·.pos.line)).getD 0) he h
      unfold swappedStores
      have e : ((ts.filterMap fun
        | .Name id pos => if (env.kindOf id == some .local && pos.line == (ts.head?.map (·.pos.line)).getD 0) = true then some id else none
        | _ => none).length != ts.length) = true := by
        rw [bne_iff_ne]
        exact Nat.ne_of_lt hl
      dsimp only
      split
      · rfl
      · split
        · rfl
        · split
          · rfl
          · rename_i zz
            exact (zz ((Bool.or_eq_true _ _).mpr (.inl e))).elim
  · cases h
  · rename_i h1 h2
    unfold swappedStores
    cases tg <;> first | rfl | (cases v <;> first | rfl | exact absurd rfl (h1 _ _ _ _ _ _ rfl) | exact absurd rfl (h2 _ _ _ _ _ rfl))
theorem stores_two {x y : Str} {u v : Expr} {px py p1 p2 : Pos} {k1 k2 : Nat} {env : PySem.Env} (hx : env.scope.names.lookup x = some .local) (hy : env.scope.names.lookup y = some .local) (hk : env.scope.kind = .function) (hl : (px.line == py.line) = true) (hxy : (x == y) = false) (hyx : (y == x) = false)
    (hf : (foldedForSure 8 u && foldedForSure 8 v) = false) (hc : (constantsAlone 8 u && constantsAlone 8 v) = false) (hu : plainE u = true) (hv : plainE v = true) : swappedStores [.Tuple [.Name x px, .Name y py] k1 p1] (.Tuple [u, v] k2 p2) env = pure (some [x, y]) := by
  have b : env.blockKind = .function := by
    unfold PySem.Env.blockKind
    rw [hk]; rfl
  have hl' : (py.line == px.line) = true := by rw [beq_iff_eq] at hl ⊢; exact hl.symm
  unfold swappedStores
  simp only [List.length_cons, List.length_nil, List.any_cons, List.any_nil, Bool.or_false, b, List.head?_cons, Option.map_some, Option.getD_some, List.filterMap_cons, List.filterMap_nil, PySem.Env.kindOf, hx, hy, List.all_cons, List.all_nil, Bool.and_true, hf, hc]
  simp [PySem.Expr.pos, hl', List.eraseDups_cons, hxy, hyx]
  rintro (z | z) <;> exfalso
  · cases u <;> first | (simp [plainE] at hu; done) | (cases z; done)
  · cases v <;> first | (simp [plainE] at hv; done) | (cases z; done)
structure OkS (G : GI) (wd : Wd) (k : Nat) (cs : CS) (X : Cx) (W : WX) : Prop where
  ok : OkX G wd k cs X W
  own : PassesOwn (model X.prog X.w) X.A X.env X.xe
  tra : cs.hd = true → ActOk X G wd
def SaysS (G : GI) (W : WX) (wd : Wd) (X : Cx) : QS → Prop
  | .s a x => PS X x (tS G W wd a)
  | .ss a xs => PSs X xs (tSs G W wd a)
section
variable {G : GI} {wd : Wd} {k : Nat} {cs : CS} {X : Cx} {W : WX} {c : CS → Q → Bool} {r : QS → Bool}
theorem ckSt_ok {a : S} {x : Stmt} (C : RecOk G wd k c) (R : ∀ q, r q = true → SaysS G W wd X q) (h : ckSt c r cs a x = true) (ok : OkS G wd k cs X W) : PS X x (tS G W wd a) := by
  have ox := ok.ok
  unfold ckSt at h
  split at h
  · rename_i g a tg v spos
    simp only [Bool.or_eq_true] at h
    rcases h with (h | h) | h
    · split at h
      · unfold ckPar at h
        simp only [Bool.and_eq_true, Bool.not_eq_true', decide_eq_true_eq] at h
        obtain ⟨⟨⟨⟨⟨⟨⟨⟨⟨⟨⟨⟨⟨⟨h1, h2⟩, h3⟩, h4⟩, h5⟩, h6⟩, h7⟩, h8⟩, h9⟩, _⟩, h10⟩, h11⟩, h12⟩, h13⟩, h14⟩ := h
        exact s_par ox.calm (by rw [ox.N]; exact ox.nd) (by rw [ox.N]; exact h1) (by rw [ox.N]; exact h2) h3 (by rw [ox.sc]; exact h6) (by rw [ox.sc]; exact h7) (C _ _ h14 _ _ ox)
          (stores_two (by rw [ox.sc]; exact h6) (by rw [ox.sc]; exact h7) (by rw [ox.sc]; exact h8) h9 h4 h5 h10 h11 h12 h13) rfl
      · cases h
    · split at h
      · rename_i i y py elt lt iter ifs scope pos
        simp only [Bool.and_eq_true, Bool.not_eq_true', decide_eq_true_eq] at h
        obtain ⟨⟨⟨⟨⟨h1, h2⟩, h3⟩, h4⟩, h5⟩, h6⟩ := h
        split at h6
        · rename_i own it g t e hlc
          simp only [Bool.and_eq_true, Bool.not_eq_true', List.all_eq_true, decide_eq_true_eq] at h6
          obtain ⟨⟨⟨⟨⟨⟨g1, g2⟩, g3⟩, g4⟩, g5⟩, g6⟩, g7⟩ := h6
          obtain ⟨p1, p2, p3, p4, p5, p6⟩ := lc_parts C ox g1 g4 g5 g6 g7
          have hsw : swapsWith (.ListComp elt [⟨lt, iter, ifs, 0⟩] scope pos) (some (.Name y py)) spos.line X.env = pure true := by
            have e1 : (X.env.blockKind == .function && X.env.kindOf y == some .local && py.line == pos.line && !(scope.names.any fun (n, k) => n == y && (k == .local || k == .cell))) = true := by
              have b : X.env.blockKind = .function := by
                unfold PySem.Env.blockKind
                rw [ox.sc, h3]; rfl
              have kk : X.env.kindOf y = some .local := by
                unfold PySem.Env.kindOf
                rw [ox.sc]; exact h2
              rw [b, kk, h4, h5]
              rfl
            show (pure (X.env.blockKind == .function && X.env.kindOf y == some .local && py.line == pos.line && !(scope.names.any fun (n, k) => n == y && (k == .local || k == .cell))) : Sem Bool) = pure true
            rw [e1]
          have q := ps_setLc (spos := spos) ox.calm (by rw [ox.N]; exact ox.nd) (by rw [ox.N]; exact h1) (by rw [ox.sc]; exact h2) hsw p1 p2 p3 p4 p5 (set_plain g3)
          rw [p6] at q
          refine psW q fun D σ H z => ?_
          have fin : ∀ {Q : VK}, tE G W wd a σ H Q → tLc (tI G W wd it) (tG G wd g) (tT G W0 wd t) (tE G W0 wd e) own σ H Q := fun {Q} z => by
            unfold lcOf at hlc
            split at hlc
            · cases hlc
              exact lcm_of g2 z
            · cases hlc
              exact lcm_of g2 (chg_of rfl z)
            · cases hlc
          obtain ⟨B, ι, μ, ρ, er, hr, z⟩ := asg_of z
          refine fin ⟨B, ι, μ, ρ, er, hr, z.mono (fun v μ' q w H' ι' e1 e2 e3 e4 => ?_) fun _ _ q => q⟩
          obtain ⟨B2, ι2, μ2, ρ2, x2, ρ3, μ3, er2, hr2, r2, ha, q2⟩ := q w H' ι' e1 e2 e3 e4
          simp only [asg] at ha
          split at ha
          · cases ha
            refine q2 _ _ ι2 Ext.refl hr2 (er2.put r2) (by simp) fun j hj => ?_
            rw [List.getElem?_set_ne]
            rintro rfl
            exact hj (by simp [gNames])
          · cases ha
        · cases h6
      · cases h
    · simp only [Bool.and_eq_true, Bool.not_eq_true', Bool.or_eq_true] at h
      obtain ⟨⟨⟨⟨h1, h2⟩, h3⟩, h4⟩, h5⟩ := h
      refine s_asg (C _ _ h4 _ _ ox) (C _ _ h5 X W ox) (h1.elim (fun z => swaps_no z) fun z => swaps_far ox.sc z) (stores_no ox.sc h2) ?_
      rw [assign_cons h3]; rfl
  · simp only [Bool.and_eq_true, Bool.not_eq_true'] at h
    exact s_ex (C _ _ h.2 _ _ ox) (swaps_no h.1)
  · exact s_ret (C _ _ h _ _ ox)
  · exact s_retN
  · simp only [Bool.and_eq_true] at h
    exact s_ite (C _ _ h.1.1 _ _ ox) (R _ h.1.2) (R _ h.2)
  · simp only [Bool.and_eq_true] at h
    exact s_whl ok.own (C _ _ h.1 _ _ ox) (R _ h.2)
  · simp only [Bool.and_eq_true, Bool.not_eq_true'] at h
    exact s_fr ok.own ox.calm (C _ _ h.1.1.2 _ _ ox) (C _ _ h.1.2 X W ox) (R _ h.2) (set_plain h.1.1.1)
  · exact s_brk
  · exact s_cnt
  · exact s_pas
  · exact s_nev
  · simp only [Bool.and_eq_true] at h
    obtain ⟨⟨⟨⟨h1, h2⟩, h3⟩, h4⟩, h5⟩ := h
    split at h3
    · rename_i d e
      have h3 := of_decide_eq_true h3
      subst h3
      obtain ⟨m, T⟩ := ox.gl _ _ e
      exact s_rai ox.K ox.calm ox.tk (T rfl) ox.room (C _ _ h5 _ _ ox) (ox.gx h1) m (nd_of h2) (star_cons h4)
    · cases h3
  · unfold ckTra at h
    simp only [Bool.and_eq_true, decide_eq_true_eq] at h
    obtain ⟨⟨⟨⟨⟨⟨⟨⟨⟨⟨⟨⟨⟨⟨g1, rfl⟩, g3⟩, g4⟩, g5⟩, g6⟩, g7⟩, g8⟩, g9⟩, rfl⟩, g11⟩, g12⟩, g13⟩, g14⟩, g15⟩ := h
    split at g15
    · rename_i ys hys
      have hx := namesOf_eq hys
      subst hx
      obtain ⟨hs, hf, hex, f, c', q, a', act, tl, e1, e2, e3, hp, htl⟩ := ok.tra g1
      rw [ox.N, g3] at e3
      cases e3
      simp only [List.all_eq_true] at g15
      refine s_tra ox.K ox.cl e1 e2 hs hf hex (by rw [ox.N]; exact ox.nd) (by rw [ox.N]; exact g4) (by unfold PySem.Env.kindOf; rw [ox.sc]; exact g5) (by rw [ox.N]; exact g6) (by unfold PySem.Env.kindOf; rw [ox.sc]; exact g7) (by rw [ox.N]; exact g8) (by unfold PySem.Env.kindOf; rw [ox.sc]; exact g9) (nd_of g11) (ncd_of g12) (fun W' pn xe E => hp _ _ W' pn xe E) htl (by simpa using g13) g14 fun p hp => ?_
      rw [List.zip_map_right] at hp
      obtain ⟨p0, hp0, rfl⟩ := List.mem_map.mp hp
      have z := g15 p0 hp0
      simp only [Bool.and_eq_true] at z
      obtain ⟨⟨z1, z2⟩, z3⟩ := z
      split at z3
      · rename_i d rs e
        have z3 := of_decide_eq_true z3
        subst z3
        exact ⟨ox.gx z1, (ox.gl _ _ e).1, nd_of z2⟩
      · cases z3
    · cases g15
  · cases h
theorem ckS_ok {m : Nat} (ok : OkS G wd k cs X W) : ∀ n q, ckS m cs n q = true → SaysS G W wd X q
  | 0, q, h => by simp [ckS] at h
  | n + 1, q, h => by
    have R := ckS_ok (m := m) ok n
    cases q with
    | s a x => exact ckSt_ok (ck_ok m) R h ok
    | ss a xs =>
      cases a with
      | nil =>
        cases xs with
        | nil => exact ss_nil
        | cons _ _ => simp [ckS] at h
      | cons a as =>
        cases xs with
        | nil => simp [ckS] at h
        | cons x xs =>
          simp only [ckS, Bool.and_eq_true] at h
          exact ss_cons (R _ h.1) (R _ h.2)
end
end MI
end
section
set_option Elab.async false
set_option linter.all false
set_option maxHeartbeats 8000000
/-! MI: defs, all of them at once. -/
namespace MI
open PySem PySem.Spec PyProof.Rows L2
/-- a plain default as a value -/
def dvV : MV → V
  | .bl b => .bl b
  | .int i => .int i
  | .str s => .str s
  | _ => .non
def dvOk : MV → Bool
  | .non | .bl _ | .int _ | .str _ => true
  | _ => false
theorem dv_rv {G : GI} {B ι : List Addr} {H : Hp} : ∀ {ds : List MV}, ds.all dvOk = true → RVs G B ι H ds (ds.map dvV)
  | [], _ => .nil
  | d :: ds, h => by
    simp only [List.all_cons, Bool.and_eq_true] at h
    refine .cons ?_ (dv_rv h.2)
    cases d <;> first | (simp [dvOk] at h; done) | constructor
/-- where its lambdas' codes stand -/
def LmF (G : GI) (base : Heap) (mg : Str → Option Value) (fd : FuncData) (qual : Str) (scope : Scope) : Prop := G.ρ0 = [] ∧ G.σ0 = [] ∧ G.cd = [] ∧ ∃ c tb, fd.code = .ref c ∧ LamX.TabB base mg c tb ∧
  ∀ L f cd, (tb, (envOfC qual scope L f cd).qual ++ "<lambda>") ∈ G.T ∧ ∀ p ∈ G.T, p.1 = tb → p.2 = (envOfC qual scope L f cd).qual ++ "<lambda>"
/-- a def of the text and its program -/
structure DefOk (G : GI) (base : Heap) (mg : Str → Option Value) (T : List Fn) (gl : List (Str × GE)) (bi : List Str) (x : Str) (f np : Nat) (dvs : List MV) (sg : List (List Str × List Nat)) : Prop where
  ex : ∃ (fa : Addr) (fd : FuncData) (qual : Str) (params : Arguments) (body : List Stmt) (scope : Scope) (F : Fn) (N ps : List Str) (m n : Nat) (lm : Bool), FunD G.K x qual params body scope (dvs.map dvV) [] fa fd ∧ (lm = true → LmF G base mg fd qual scope) ∧ mg x = some (.ref fa) ∧ T[f]? = some F ∧ FnScope N ps scope ∧ ps.length = F.np ∧ F.np = np ∧ N.length = F.ns ∧ N.Nodup ∧
    (∀ j, ∃ us, Vals ((dvs.drop j).map dvV) us ∧ Binds G.K fd ps us) ∧ (∀ p ∈ sg, KBn G.K fd ps 0 p.1 (fun _ ws => pick p.2 ws) (fun _ zs => pick p.2 zs)) ∧ ckS m { N := N, sc := scope, fo := fun _ => true, gl := gl, bi := bi, lm := lm } n (.ss F.body body) = true
  dv : dvs.all dvOk = true
/-- what a body sees -/
noncomputable abbrev wdAt (sub : Nat → Nat → Option Bool) (fld : Nat → Str) (fu : Option Nat) (T : List Fn) (d : Nat) (a : Option (Nat × (Mem → R MV))) : Wd := ⟨sub, fld, fu, fun g ws ν => den sub fld fu T d none g ws ν, fun g h ν => den sub fld fu T d (some (0, h)) g [.thk 0] ν, a⟩
/-- the def that hears -/
structure HrDef (G : GI) (mg : Str → Option Value) (sub : Nat → Nat → Option Bool) (fld : Nat → Str) (fu : Option Nat) (T : List Fn) (glh : List (Str × GE)) (bi : List Str) (x : Str) (f : Nat) : Prop where
  ex : ∃ (g : Addr) (pg : Arguments) (bg : List Stmt) (sg : Scope) (dV kV doc pm cdv ct oc : Value) (an od : Option Addr) (osl : Array (Option Value)) (Ng : List Str) (a : Str) (F : Fn) (m n : Nat),
    mg x = some (.ref g) ∧ PySem.W.keepIn G.K (.ref g) = true ∧ G.K.lookup g = some ⟨oc, od, .func (PySem.W.fnOf x x pg bg sg dV kV doc pm an cdv ct), osl⟩ ∧ PySem.W.codeIn G.K cdv x = true ∧ L2.Binds G.K (PySem.W.fnOf x x pg bg sg dV kV doc pm an cdv ct) [a] [] ∧
    FnScope Ng [a] sg ∧ Ng[0]? = some a ∧ Vis sg a ∧ (a == ("__debug__" : Str)) = false ∧ (a == ("__classdict__" : Str)) = false ∧ T[f]? = some F ∧ F.np = 1 ∧ F.ns = Ng.length ∧ Ng.Nodup ∧
    ckS m { N := Ng, sc := sg, fo := fun _ => true, gl := glh, bi := bi, hd := true } n (.ss F.body bg) = true ∧
    ∀ d f0 h μ, outc (execs (wdAt sub fld fu T d (some (f0, h))) F.body (some (.thk f0) :: List.replicate (F.ns - 1) none) μ) = outc (execs (wdAt sub fld fu T d (some (0, h))) F.body (some (.thk 0) :: List.replicate (F.ns - 1) none) μ)
structure ProgOk (P : Program) (G : GI) (base : Heap) (mg : Str → Option Value) (sub : Nat → Nat → Option Bool) (fld : Nat → Str) (fu : Option Nat) (T : List Fn) (gl glh : List (Str × GE)) (bi : List Str) : Prop where
  gl : ∀ x g, gl.lookup x = some g → match g with
    | .con v => ∃ u, mg x = some u ∧ ConOk G v u
    | .fn f np dvs sg => DefOk G base mg T gl bi x f np dvs sg
    | .cls c rs => mg x = some (.ref (G.cls c)) ∧ (rs = true → MkT P G.K (G.cls c) (G.fld c))
    | .hr f => HrDef G mg sub fld fu T glh bi x f
  glh : ∀ x g, glh.lookup x = some g → match g with
    | .con v => ∃ u, mg x = some u ∧ ConOk G v u
    | .cls c rs => mg x = some (.ref (G.cls c)) ∧ (rs = true → MkT P G.K (G.cls c) (G.fld c))
    | _ => False
  bi : ∀ x ∈ bi, mg x = none
  cl : ClsOk G (wdAt sub fld fu T 0 none)
section
variable {G : GI} {P : Program} {w : World} {mg : Str → Option Value} {base : Heap} {T : List Fn} {gl glh : List (Str × GE)} {bi : List Str} {sub : Nat → Nat → Option Bool} {fld : Nat → Str} {fu : Option Nat}
theorem den_len {a : Option (Nat × (Mem → R MV))} {d f : Nat} {F : Fn} {xs : List MV} {μ : Mem} (hT : T[f]? = some F) (h : den sub fld fu T d a f xs μ ≠ none) : xs.length = F.np := by
  cases d with
  | zero => exact absurd rfl h
  | succ d =>
    unfold den at h
    rw [hT] at h
    dsimp only at h
    split at h
    · rename_i z; exact z.1
    · exact absurd rfl h
theorem conOk_at {G : GI} {ρ0 : Env} {σ0 : L2.St} {cd : List (Addr × Str)} {v : MV} {u : Value} (h : ConOk G v u) : ConOk (G.at ρ0 σ0 cd) v u := by
  obtain ⟨w, h1, h2⟩ := h
  exact ⟨w, h1, fun B ι H => (h2 B ι H).sw⟩
/-- it hears, wherever it is called -/
theorem hr_ok (PO : ProgOk P G base mg sub fld fu T gl glh bi) {x : Str} {f : Nat} (hx : gl.lookup x = some (.hr f)) {X : Cx} (hP : X.prog = P) (hK : X.K = G.K) (hm : X.mg = mg) (d k : Nat) : HrK X G (wdAt sub fld fu T d none) k x f := by
  subst hP
  subst hm
  obtain ⟨g, pg, bg, sg, dV, kV, doc, pm, cdv, ct, oc, an, od, osl, Ng, a, F, m, n, h1, h2, h3, h4, h5, h6, h7, h8, h9, h10, h11, h12, h13, h14, h15, h16⟩ := (PO.gl x _ hx).ex
  refine ⟨fun hne => ?_⟩
  cases d with
  | zero =>
    obtain ⟨h, μ, z⟩ := hne
    exact absurd rfl z
  | succ d =>
    have hns : F.np ≤ F.ns := by
      rw [h12, h13]
      exact Nat.succ_le_of_lt ((List.getElem?_eq_some_iff.mp h7).1)
    refine ⟨g, pg, bg, sg, dV, kV, doc, pm, cdv, ct, oc, an, od, osl, Ng, a, F.body, fun f0 h => wdAt sub fld fu T d (some (f0, h)), h1, by rw [hK]; exact h2, by rw [hK]; exact h3, by rw [hK]; exact h4, by rw [hK]; exact h5, h6, h7, h8, h9, h10, fun f0 h μ => ?_, fun _ _ => rfl, fun A outer s H f0 h ρ0 σ0 cd hr act => ?_⟩
    · rw [← h13]
      refine Eq.trans ?_ (h16 d f0 h μ).symm
      show den sub fld fu T (d + 1) (some (0, h)) f [.thk 0] μ = _
      unfold den
      rw [h11]
      dsimp only
      rw [if_pos ⟨by rw [h12]; rfl, hns⟩]
      rfl
    · refine ckS_ok (X := cxOf C8.CX0 X.prog X.w X.K X.mg X.base Ng x sg g cdv A outer s H C8.E0) (W := W0) (G := G.at ρ0 σ0 cd) (wd := wdAt sub fld fu T d (some (f0, h))) (k := k) (cs := { N := Ng, sc := sg, fo := fun _ => true, gl := glh, bi := bi, hd := true }) (m := m) ⟨⟨rfl, h14, rfl, hK, rfl, hr.mono (Nat.le_succ k), LamX.takes0, fun _ _ => rfl, fun y g' hy => ?_, PO.bi, ?_, fun z => by cases z⟩, ?_, fun _ => act⟩ n _ h15
      · have q := PO.glh y g' hy
        cases g' with
        | con v => obtain ⟨u, q1, q2⟩ := q; exact ⟨u, q1, conOk_at q2⟩
        | cls c rs => exact ⟨q.1, fun z => by rw [show (cxOf C8.CX0 X.prog X.w X.K X.mg X.base Ng x sg g cdv A outer s H C8.E0).K = G.K from hK]; exact q.2 z⟩
        | fn _ _ _ _ => exact q.elim
        | hr _ => exact q.elim
      · exact PO.cl
      · exact passes_of (K := fun e' s'' => C8.CX0 outer H s C8.E0 e' s'') (E₁ := fun e' s'' => C8.CX0 outer H s C8.E0 e' s'') rfl
/-- the level of a def's promise is how deep calls go -/
theorem all_ok (PO : ProgOk P G base mg sub fld fu T gl glh bi) : ∀ d x f np dvs sg, gl.lookup x = some (.fn f np dvs sg) → ∃ (fa : Addr) (fd : FuncData) (ps : List Str), mg x = some (.ref fa) ∧ PySem.W.keepIn G.K (.ref fa) = true ∧ (∀ j, ∃ us, Vals ((dvs.drop j).map dvV) us ∧ Binds G.K fd ps us) ∧ (∀ p ∈ sg, KBn G.K fd ps 0 p.1 (fun _ ws => pick p.2 ws) (fun _ zs => pick p.2 zs)) ∧ dvs.all dvOk = true ∧
    (∃ F, T[f]? = some F ∧ F.np = np) ∧ FnOk P w G.K mg base (L2.CX P w) (3 * d) fa fd ps (spM G (den sub fld fu T d none f) np)
  | 0, x, f, np, dvs, sg, hx => by
    have D := PO.gl x _ hx
    obtain ⟨fa, fd, qual, params, body, scope, F, N, ps, m, n, lm, h1, hlm, h2, h3, h4, h5, h6, h7, h8, h9, hk9, h10⟩ := D.ex
    refine ⟨fa, fd, ps, h2, h1.kp, h9, hk9, D.dv, ⟨F, h3, h6⟩, ⟨fun vs H Q E h => h.1.trans (h6.symm.trans h5.symm), fun A outer s H args us vs Q E _ _ _ _ h => ?_⟩⟩
    obtain ⟨_, B, ι, μ, xs, _, _, z⟩ := h
    exact z.elim
  | d + 1, x, f, np, dvs, sg, hx => by
    have D := PO.gl x _ hx
    obtain ⟨fa, fd, qual, params, body, scope, F, N, ps, m, n, lm, h1, hlm, h2, h3, h4, h5, h6, h7, h8, h9, hk9, h10⟩ := D.ex
    have kp := h1.kp
    obtain ⟨oc, od, dV, kV, doc, pm, an, cdv, ct, osl, rfl, lk, hcd, _, _⟩ := h1.ex
    refine ⟨fa, _, ps, h2, kp, h9, hk9, D.dv, ⟨F, h3, h6⟩, ?_⟩
    refine fn_of (k := 3 * d + 2) lk hcd h4 (fun vs H Q E h => h.1.trans (h6.symm.trans h5.symm)) fun A outer s H vs Q E hr hsp => ?_
    obtain ⟨hl, B, ι, μ, xs, hr0, rs, hsp⟩ := hsp
    refine ⟨tSs G (fun cls d _ H => E cls d H) (wdAt sub fld fu T d none) F.body, ?_, ?_⟩
    · refine ckS_ok (X := cxOf (L2.CX P w) P w G.K mg base N qual scope fa cdv A outer s H E) (W := fun cls d _ H => E cls d H) (G := G) (wd := (wdAt sub fld fu T d none)) (k := 3 * d) (cs := { N := N, sc := scope, fo := fun _ => true, gl := gl, bi := bi, lm := lm }) (m := m) ⟨⟨rfl, h8, rfl, rfl, rfl, hr.mono (by omega), ?_, fun _ _ => rfl, ?_, PO.bi, PO.cl, ?_⟩, ?_, fun z => by cases z⟩ n _ h10
      · exact takes_of rfl rfl rfl (E₁ := fun e' s'' => L2.CX P w outer H s E e' s'') rfl
      · intro y g hy
        cases g with
        | con v => exact PO.gl y _ hy
        | fn f' np' dvs' sg' =>
          obtain ⟨fa', fd', ps', q1, q2, q3, qk, q4, ⟨F', q5, q6⟩, q7⟩ := all_ok PO d y f' np' dvs' sg' hy
          refine ⟨fun j => ?_, fun p hp => ⟨⟨fa', fd', ps', q1, q2, qk p hp, q7⟩⟩, fun xs' μ' z => (den_len q5 z).trans q6⟩
          obtain ⟨us, v1, v2⟩ := q3 j
          exact ⟨⟨fa', fd', ps', us, (dvs'.drop j).map dvV, q1, q2, v2, v1, fun B ι H => dv_rv (by
            rw [List.all_eq_true] at q4 ⊢
            exact fun y hy => q4 y (List.mem_of_mem_drop hy)), q7⟩⟩
        | cls c rs => exact PO.gl y _ hy
        | hr f' => exact hr_ok PO hy rfl rfl rfl d (3 * d)
      · intro z
        obtain ⟨z0, z1, z2, c, tb, hc, TB, hT⟩ := hlm z
        have q := hT s.heap.objs.size fa cdv
        exact ⟨hr, z0, z1, z2, c, tb, hc, TB, q.1, q.2⟩
      · exact passes_of (K := fun e' s'' => L2.CX P w outer H s E e' s'') (E₁ := fun e' s'' => L2.CX P w outer H s E e' s'') rfl
    · refine ⟨B, ι, μ, xs.map some ++ List.replicate (F.ns - xs.length) none, start_er rs h7, hr0, ?_⟩
      unfold den at hsp
      rw [h3] at hsp
      dsimp only at hsp
      split at hsp
      · unfold outc at hsp
        split at hsp
        · rename_i v μ' e
          rw [e]
          exact fun w H' ι' a b c => hsp w H' ι' a b c
        · rename_i ρ' μ' e
          rw [e]
          exact fun σ' H' ι' a b c => hsp .non H' ι' a b .non
        · rename_i x' ρ' μ' e
          rw [e]
          exact fun cls dd σ' H' ι' a b c r => hsp cls dd H' ι' a b r
        · exact hsp.elim
      · exact hsp.elim
end
end MI
end
section
set_option Elab.async false
set_option linter.all false
set_option maxHeartbeats 8000000
/-! MI: the head's hook: defs, own errors, the law's table of code objects. -/
namespace MI
open PySem PySem.Spec PyProof.Rows L2 PySem.HandSPX
open He (Fa DefD frT frT_in frT_mem frT_none emptyTab emptyTab_eq obsD valD SaysD AlD Defn cT tabsB asD ga ma eqO eqO_ok ba)
/-- an own error that is raised: its class, its field, its __init__ -/
structure RsD where
  cls : Str
  f : Str
  qual : Str
  params : Arguments
  body : List Stmt
  scope : Scope
abbrev InW : Type := Option (Str × Str × Arguments × FuncBody × Scope × Addr × List Str × Addr)
def RsD.cAd (r : RsD) (K : PySem.W.Frag) : Addr := ga K r.cls
def RsD.iAd (r : RsD) (K : PySem.W.Frag) : Addr := ma K (ga K r.cls) "__init__"
def iW (K : PySem.W.Frag) (a : Addr) : InW := match K.lookup a with
  | some ⟨_, _, .func fd, _⟩ => some (fd.name, fd.qualname, fd.params, fd.body, fd.scope, fd.globals, fd.closure.map (·.1), fd.builtins)
  | _ => none
def RsD.val (r : RsD) : InW := some ("__init__", r.qual, r.params, .stmts r.body, r.scope, mainGlobals, ["__class__"], builtinsNs)
def rcB (K : PySem.W.Frag) (C : Addr) : Bool := match K.lookup C with
  | some ⟨.type t, _, .cls cd, sl⟩ => decide (t = "type") && (match cd.mro, sl.toList with
    | .ref C' :: bm, [_, _, _, _, some (.builtin n), _] => decide (C' = C) && (decide (n = "ValueError.__new__") && (cd.hasDict && (!cd.hasDel && refsVE bm)))
    | _, _ => false)
  | _ => false
theorem rcB_ok {K : PySem.W.Frag} {C : Addr} (h : rcB K C = true) : ∃ nm q N bs bm sn sub ab col dd k0 k1 k2 k3 k5, K.lookup C = some (excClassObj nm q C N bs bm true sn sub ab col dd k0 k1 k2 k3 k5 "ValueError.__new__") ∧ refsVE bm = true := by
  unfold rcB at h
  split at h
  · rename_i t dd cd sl ho
    obtain ⟨h0, h⟩ := ba h
    split at h
    · rename_i C' bm k0 k1 k2 k3 n k5 hm hs
      obtain ⟨h1, h⟩ := ba h
      obtain ⟨h2, h⟩ := ba h
      obtain ⟨h3, h⟩ := ba h
      obtain ⟨h4, h5⟩ := ba h
      have h0 := of_decide_eq_true h0
      have h1 := of_decide_eq_true h1
      have h2 := of_decide_eq_true h2
      subst h0 h1 h2
      obtain ⟨nm, bs, mro, ns, qn, hd, sn, sub, ab, col, del⟩ := cd
      have hm : mro = .ref C' :: bm := hm
      have h3 : hd = true := h3
      have h6 : del = false := by simpa using h4
      clear h4
      subst hm h3 h6
      refine ⟨nm, qn, ns, bs, bm, sn, sub, ab, col, dd, k0, k1, k2, k3, k5, ?_, h5⟩
      rw [ho]
      have e : sl = #[k0, k1, k2, k3, some (.builtin "ValueError.__new__"), k5] := by
        rw [← hs, Array.toArray_toList]
      rw [e]
    · cases h
  · cases h
/-- what is looked at beside -/
def rsB (K : PySem.W.Frag) (file : Str) (r : RsD) : Bool :=
  rcB K (r.cAd K) && (eqO (PySem.W.findIn K (.ref (r.cAd K)) "__setattr__") (some (some (.builtin "object.__setattr__"))) && (eqO (PySem.W.findIn K (.ref (r.cAd K)) r.f) (some none) && (PySem.W.keepIn K (.ref (r.cAd K)) && (decide (PySem.W.subIn K (.ref (r.cAd K)) (.type "BaseException") = some true) &&
  (decide (PySem.W.typeIn K (.ref (r.cAd K)) = some (.type "type")) && (decide (PySem.W.subIn K (.ref (r.cAd K)) (.type "ValueError") = some true) && (decide (PySem.W.ks_superIn K (r.cAd K) (r.cAd K) "__init__" = some (some (.builtin "ValueError.__init__"))) && (eqO (PySem.W.nsIn K cStatics "thirdparty.any") (some none) &&
  (decide (PySem.W.mroIn K (r.cAd K) (.ref (r.cAd K)) = some true) && (eqO (PySem.W.nsIn K mainGlobals "super") (some none) && (eqO (PySem.W.findIn K (.ref (r.cAd K)) "__init__") (some (some (.ref (r.iAd K)))) && (decide (PySem.W.typeIn K (.ref (r.iAd K)) = some (.type "function")) &&
  (match K.lookup (r.iAd K) with
  | some ⟨_, _, .func fd, _⟩ => (match fd.defaults, fd.code, fd.closure with
    | .none, .ref cda, [(_, cc)] => PySem.W.codeIn K (.ref cda) r.qual && ((match K.lookup cc with
      | some ⟨_, _, .cell (some (.ref C)), _⟩ => decide (C = r.cAd K)
      | _ => false) && (match K.lookup cda with
      | some ⟨_, _, .fields vs, _⟩ => (match ((vs : Array Value)[2]? : Option Value) with
        | some (.str g _) => decide (g = file)
        | _ => false)
      | _ => false))
    | _, _, _ => false)
  | _ => false)))))))))))))
theorem rs_ok {prog : Program} {K : PySem.W.Frag} {r : RsD} (h1 : iW K (r.iAd K) = r.val) (h : rsB K prog.main.file r = true) (top : (prog.main.scope.names.lookup ("super" : Str)).isSome = false) (fd : (r.f == ("__debug__" : Str)) = false) (fs : (r.f == ("self" : Str)) = false)
    (hbd : ∀ (q : Str) (sc : Scope) (kV doc pm cv ct : Value) (an : Option Addr) (cc : Addr) (p1 p2 : Pos) (msg : Str) (j : Nat) (ps : List Pos) (a b : Value), bindArgs (PySem.W.ksFn "__init__" q (xArgs r.f p1 p2) (xBody r.f msg j ps) sc .none kV doc pm an cv ct cc) ⟨[a, b], []⟩ = pure [(("self" : Str), a), (r.f, b)])
    (hp : ∃ p1 p2, r.params = xArgs r.f p1 p2) (hb : ∃ msg j ps, r.body = xBody r.f msg j ps ∧ ((ps.getD 2 ⟨0, 0, 0, 0⟩).endLine == (ps.getD 4 ⟨0, 0, 0, 0⟩).line) = true)
    (hs : r.scope.kind = .function ∧ r.scope.isCoroutine = false ∧ r.scope.isGenerator = false ∧ (∀ x ∈ r.scope.names, x.2 ≠ .cell) ∧ r.scope.names.lookup ("self" : Str) = some NameKind.local ∧ r.scope.names.lookup r.f = some NameKind.local ∧ r.scope.names.lookup ("super" : Str) = some NameKind.globalImplicit ∧ r.scope.names.lookup ("__class__" : Str) = some NameKind.free) :
    MkT prog K (r.cAd K) r.f := by
  unfold rsB at h
  obtain ⟨a1, h⟩ := ba h
  obtain ⟨a2, h⟩ := ba h
  obtain ⟨a3, h⟩ := ba h
  obtain ⟨a4, h⟩ := ba h
  obtain ⟨a5, h⟩ := ba h
  obtain ⟨a6, h⟩ := ba h
  obtain ⟨a7, h⟩ := ba h
  obtain ⟨a8, h⟩ := ba h
  obtain ⟨a9, h⟩ := ba h
  obtain ⟨a10, h⟩ := ba h
  obtain ⟨a11, h⟩ := ba h
  obtain ⟨a12, h⟩ := ba h
  obtain ⟨a13, h⟩ := ba h
  refine ⟨rcB_ok a1, eqO_ok a2, eqO_ok a3, a4, of_decide_eq_true a5, of_decide_eq_true a6, of_decide_eq_true a7, of_decide_eq_true a8, eqO_ok a9, of_decide_eq_true a10, eqO_ok a11, top, fd, fs, ?_⟩
  obtain ⟨cls, f, qual, params, body, scope⟩ := r
  obtain ⟨p1, p2, hp⟩ := hp
  obtain ⟨msg, j, ps, hb, hl⟩ := hb
  obtain ⟨s1, s2, s3, s4, s5, s6, s7, s8⟩ := hs
  have hp2 : params = xArgs f p1 p2 := hp
  have hb2 : body = xBody f msg j ps := hb
  clear hp hb
  subst hp2
  subst hb2
  unfold iW at h1
  split at h
  · rename_i oc od fd osl hlk
    rw [hlk] at h1
    obtain ⟨n1, n2, n3, n4, n5, n6, n7, n8, n9, n10, n11, n12, n13, n14, n15⟩ := fd
    split at h
    · rename_i cda x cc e1 e2 e3
      have h1 : (some (n1, n2, n3, n4, n5, n6, n7.map (·.1), n15) : InW) = (some (("__init__" : Str), qual, xArgs f p1 p2, FuncBody.stmts (xBody f msg j ps), scope, mainGlobals, [("__class__" : Str)], builtinsNs) : InW) := h1
      have e4 : n8 = .none := e1
      have e5 : n13 = .ref cda := e2
      have e6 : n7 = [(x, cc)] := e3
      clear e1 e2 e3
      subst e4 e5 e6
      have h1 := Option.some.inj h1
      have g1 : n1 = ("__init__" : Str) := (Prod.mk.inj h1).1
      have h1 := (Prod.mk.inj h1).2
      have g2 : n2 = qual := (Prod.mk.inj h1).1
      have h1 := (Prod.mk.inj h1).2
      have g3 : n3 = xArgs f p1 p2 := (Prod.mk.inj h1).1
      have h1 := (Prod.mk.inj h1).2
      have g4 : n4 = FuncBody.stmts (xBody f msg j ps) := (Prod.mk.inj h1).1
      have h1 := (Prod.mk.inj h1).2
      have g5 : n5 = scope := (Prod.mk.inj h1).1
      have h1 := (Prod.mk.inj h1).2
      have g6 : n6 = mainGlobals := (Prod.mk.inj h1).1
      have h1 := (Prod.mk.inj h1).2
      have g7 : x = ("__class__" : Str) := (List.cons.inj (Prod.mk.inj h1).1).1
      have g8 : n15 = builtinsNs := (Prod.mk.inj h1).2
      clear h1
      subst g1 g2 g3 g4 g5 g6 g7 g8
      obtain ⟨b1, h⟩ := ba h
      obtain ⟨b2, b3⟩ := ba h
      split at b2
      · rename_i cl cld C csl hcc
        have b2 := of_decide_eq_true b2
        subst b2
        split at b3
        · rename_i ccl cdd vs ccs hcd
          split at b3
          · rename_i g t hv
            have b3 := of_decide_eq_true b3
            subst b3
            exact ⟨_, cc, cda, oc, ccl, cl, od, cdd, cld, osl, ccs, csl, vs, _, t, n2, n5, n9, n10, n11, n14, n12, p1, p2, msg, j, ps, eqO_ok a12, of_decide_eq_true a13, hlk, b1, hcc, hcd, hv, by simp, s1, s2, s3, s4, s5, s6, s7, s8, hl, fun a b => hbd _ _ _ _ _ _ _ _ _ _ _ _ _ _ a b⟩
          · cases b3
        · cases b3
      · cases b2
    · cases h
  · cases h
/-! ### the hook -/
/-- what is told -/
structure SaysM (fa : List Fa) (fn : List DefD) (rs : List RsD) (tf : List Defn) (ex : PySem.W.Frag → Bool) (file : Str) (h : Heap) (K : PySem.W.Frag) : Prop where
  d : SaysD fa fn K
  rv : rs.map (fun r => iW K (r.iAd K)) = rs.map RsD.val
  rb : ∀ r ∈ rs, rsB K file r = true
  more : ex K = true
  hd : ∀ p ∈ tf, PySem.W.codeHdIn K (cT K p).1 (cT K p).2 = true
  out : ∀ p ∈ tf, K.lookup (cT K p).2 = none
  emp : ∀ p ∈ tf, h.get? (cT K p).2 = some { cls := .none, data := .fields #[] }
abbrev AlM : Type := AlD × List InW × Bool
def atM (g : Addr → Option Obj) (n : Nat) : PySem.W.Frag := frT g (cStatics :: asD g n)
def obsM (n : Nat) (fa : List Fa) (fn : List DefD) (rs : List RsD) (tf : List Defn) (ex : PySem.W.Frag → Bool) (file : Str) (g : Addr → Option Obj) : AlM :=
  let K := atM g n
  (obsD fa fn K, rs.map (fun r => iW K (r.iAd K)), ex K && (rs.all (rsB K file) && tabsB g tf K))
def valM (fn : List DefD) (rs : List RsD) : AlM := (valD fn, rs.map RsD.val, true)
theorem saysM_of {n : Nat} {fa : List Fa} {fn : List DefD} {rs : List RsD} {tf : List Defn} {ex : PySem.W.Frag → Bool} {file : Str} {h : Heap} (e : obsM n fa fn rs tf ex file h.get? = valM fn rs) : SaysM fa fn rs tf ex file h (atM h.get? n) := by
  have e1 : obsD fa fn (atM h.get? n) = valD fn := (Prod.mk.inj e).1
  have e2 := (Prod.mk.inj e).2
  have e3 : rs.map (fun r => iW (atM h.get? n) (r.iAd (atM h.get? n))) = rs.map RsD.val := (Prod.mk.inj e2).1
  have e4 : (ex (atM h.get? n) && (rs.all (rsB (atM h.get? n) file) && tabsB h.get? tf (atM h.get? n))) = true := (Prod.mk.inj e2).2
  obtain ⟨h1, h2⟩ := ba e4
  obtain ⟨h3, h4⟩ := ba h2
  have tab : ∀ p ∈ tf, PySem.W.codeHdIn (atM h.get? n) (cT (atM h.get? n) p).1 (cT (atM h.get? n) p).2 = true ∧ ∃ o, h.get? (cT (atM h.get? n) p).2 = some o ∧ emptyTab o = true := fun p hp => by
    obtain ⟨q1, q2⟩ := ba (List.all_eq_true.mp h4 p hp)
    cases q : h.get? (cT (atM h.get? n) p).2 with
    | none => rw [q] at q2; cases q2
    | some o => rw [q] at q2; exact ⟨q1, o, rfl, q2⟩
  refine ⟨e1, e3, fun r hr => List.all_eq_true.mp h3 r hr, h1, fun p hp => (tab p hp).1, fun p hp => ?_, fun p hp => ?_⟩
  · obtain ⟨_, o, q, z⟩ := tab p hp
    exact frT_none q z
  · obtain ⟨_, o, q, z⟩ := tab p hp
    rw [q, emptyTab_eq z]
def hookM (n : Nat) (fa : List Fa) (fn : List DefD) (rs : List RsD) (tf : List Defn) (ex : PySem.W.Frag → Bool) (file : Str) : PySem.W.Hook where
  α := AlM
  obs := fun s => obsM n fa fn rs tf ex file s.heap.get?
  val := fun _ => valM fn rs
  says := fun _ h => ∃ K : PySem.W.Frag, K.In h ∧ SaysM fa fn rs tf ex file h K
  of := fun _ _ e => ⟨_, frT_in, saysM_of e⟩
  keeps := fun _ _ _ ⟨K, hK, c⟩ k => ⟨K, PySem.W.Frag.In.keeps hK k, c.d, c.rv, c.rb, c.more, c.hd, c.out, fun p hp => k _ _ (c.emp p hp)⟩
theorem obsM_eq {n : Nat} {fa : List Fa} {fn : List DefD} {rs : List RsD} {tf : List Defn} {ex : PySem.W.Frag → Bool} {file : Str} {g : Addr → Option Obj} {s : Shared} (h : ∀ a, g a = s.heap.get? a) : obsM n fa fn rs tf ex file g = (hookM n fa fn rs tf ex file).obs s := by
  have e : g = s.heap.get? := funext h
  rw [e] <;> rfl
theorem SaysM.raises {prog : Program} {fa : List Fa} {fn : List DefD} {rs : List RsD} {tf : List Defn} {ex : PySem.W.Frag → Bool} {file : Str} {h : Heap} {K : PySem.W.Frag} (c : SaysM fa fn rs tf ex file h K) {i : Nat} {r : RsD} (hr : rs[i]? = some r) : iW K (r.iAd K) = r.val ∧ rsB K file r = true := by
  have e2 : (rs.map fun r => iW K (r.iAd K))[i]? = (rs.map RsD.val)[i]? := by rw [c.rv]
  rw [List.getElem?_map, List.getElem?_map, hr] at e2
  exact ⟨Option.some.inj e2, c.rb r (List.mem_of_getElem? hr)⟩
end MI
end
section
set_option Elab.async false
set_option linter.all false
set_option maxHeartbeats 400000
/-! MI: the law's own def, which makes lambdas. -/
namespace MI
open PySem PySem.Spec PyProof.Rows L2
/-- what it does, its own calls d deep at most -/
noncomputable def topDen (sub : Nat → Nat → Option Bool) (fld : Nat → Str) (fu : Option Nat) (T : List Fn) (F : Fn) (d : Nat) (vs : List MV) (μ : Mem) : R MV :=
  if vs.length = F.np ∧ F.np ≤ F.ns then outc (execs (wdAt sub fld fu T d none) F.body (vs.map some ++ List.replicate (F.ns - vs.length) none) μ) else none
section
variable {G : GI} {P : Program} {w : World} {mg : Str → Option Value} {base : Heap} {T : List Fn} {gl glh : List (Str × GE)} {bi : List Str} {sub : Nat → Nat → Option Bool} {fld : Nat → Str} {fu : Option Nat}
theorem top_ok (PO : ProgOk P G base mg sub fld fu T gl glh bi) (d : Nat) {x qual : Str} {params : Arguments} {body : List Stmt} {scope : Scope} {dvs : List V} {kws : List (Str × V)} {fa : Addr} {fd : FuncData} {N ps : List Str} {F : Fn} {m n : Nat} (FD : FunD G.K x qual params body scope dvs kws fa fd) (S : FnScope N ps scope) (hp : ps.length = F.np) (hn : N.length = F.ns) (nd : N.Nodup)
    {lm : Bool} (hck : ckS m { N := N, sc := scope, fo := fun _ => true, gl := gl, bi := bi, lm := lm } n (.ss F.body body) = true) (hlm : lm = true → LmF G base mg fd qual scope) :
    FnOk P w G.K mg base (L2.CX P w) (3 * d + 3) fa fd ps (spM G (topDen sub fld fu T F d) F.np) := by
  obtain ⟨oc, od, dV, kV, doc, pm, an, cdv, ct, osl, rfl, lk, hcd, _, _⟩ := FD.ex
  refine fn_of (k := 3 * d + 2) lk hcd S (fun vs H Q E h => h.1.trans hp.symm) fun A outer s H vs Q E hr hsp => ?_
  obtain ⟨hl, B, ι, μ, xs, hr0, rs, hsp⟩ := hsp
  refine ⟨tSs G (fun cls d _ H => E cls d H) (wdAt sub fld fu T d none) F.body, ?_, ?_⟩
  · refine ckS_ok (X := cxOf (L2.CX P w) P w G.K mg base N qual scope fa cdv A outer s H E) (W := fun cls d _ H => E cls d H) (G := G) (wd := (wdAt sub fld fu T d none)) (k := 3 * d) (cs := { N := N, sc := scope, fo := fun _ => true, gl := gl, bi := bi, lm := lm }) (m := m) ⟨⟨rfl, nd, rfl, rfl, rfl, hr.mono (by omega), ?_, fun _ _ => rfl, ?_, PO.bi, PO.cl, ?_⟩, ?_, fun z => by cases z⟩ n _ hck
    · exact takes_of rfl rfl rfl (E₁ := fun e' s'' => L2.CX P w outer H s E e' s'') rfl
    · intro y g hy
      cases g with
      | con v => exact PO.gl y _ hy
      | fn f' np' dvs' sg' =>
        obtain ⟨fa', fd', ps', q1, q2, q3, qk, q4, ⟨F', q5, q6⟩, q7⟩ := all_ok (P := P) (w := w) (base := base) PO d y f' np' dvs' sg' hy
        refine ⟨fun j => ?_, fun p hp => ⟨⟨fa', fd', ps', q1, q2, qk p hp, q7⟩⟩, fun xs' μ' z => (den_len q5 z).trans q6⟩
        obtain ⟨us, v1, v2⟩ := q3 j
        exact ⟨⟨fa', fd', ps', us, (dvs'.drop j).map dvV, q1, q2, v2, v1, fun B ι H => dv_rv (by
          rw [List.all_eq_true] at q4 ⊢
          exact fun y hy => q4 y (List.mem_of_mem_drop hy)), q7⟩⟩
      | cls c rs => exact PO.gl y _ hy
      | hr f' => exact hr_ok PO hy rfl rfl rfl d (3 * d)
    · intro z
      obtain ⟨z0, z1, z2, c, tb, hc, TB, hT⟩ := hlm z
      have q := hT s.heap.objs.size fa cdv
      exact ⟨hr, z0, z1, z2, c, tb, hc, TB, q.1, q.2⟩
    · exact passes_of (K := fun e' s'' => L2.CX P w outer H s E e' s'') (E₁ := fun e' s'' => L2.CX P w outer H s E e' s'') rfl
  · refine ⟨B, ι, μ, xs.map some ++ List.replicate (F.ns - xs.length) none, start_er rs hn, hr0, ?_⟩
    unfold topDen at hsp
    split at hsp
    · unfold outc at hsp
      split at hsp
      · rename_i v μ' e
        rw [e]
        exact fun w H' ι' a b c => hsp w H' ι' a b c
      · rename_i ρ' μ' e
        rw [e]
        exact fun σ' H' ι' a b c => hsp .non H' ι' a b .non
      · rename_i x' ρ' μ' e
        rw [e]
        exact fun cls dd σ' H' ι' a b c r => hsp cls dd H' ι' a b r
      · exact hsp.elim
    · exact hsp.elim
end
end MI
end
section
set_option Elab.async false
set_option linter.all false
set_option maxHeartbeats 1000000
/-! MI: a def's facts, put together. -/
namespace MI
open PySem PySem.Spec PyProof.Rows L2
section
variable {G : GI} {base : Heap} {mg : Str → Option Value} {T : List Fn} {gl : List (Str × GE)} {bi : List Str} {x : Str} {params : Arguments} {body : List Stmt} {scope : Scope} {fa : Addr} {fd : FuncData} {N ps : List Str} {f : Nat}
/-- no defaults -/
theorem def0 {b : SS} {m n : Nat} {lm : Bool} {sg : List (List Str × List Nat)} (F : FunD G.K x x params body scope [] [] fa fd) (hlm : lm = true → LmF G base mg fd x scope) (hm : mg x = some (.ref fa)) (hT : T[f]? = some ⟨ps.length, N.length, b⟩) (S : FnScope N ps scope) (nd : N.Nodup)
    (hb : ∀ (kV doc pm : Value) (an : Option Addr) (cdv ct : Value) (us : List Value), us.length = ps.length → bindArgs (PySem.W.fnOf x x params body scope .none kV doc pm an cdv ct) ⟨us, []⟩ = pure (ps.zip us)) (hk : ∀ p ∈ sg, KBn G.K fd ps 0 p.1 (fun _ ws => pick p.2 ws) (fun _ zs => pick p.2 zs))
    (hc : ckS m { N := N, sc := scope, fo := fun _ => true, gl := gl, bi := bi, lm := lm } n (.ss b body) = true) : DefOk G base mg T gl bi x f ps.length [] sg where
  ex := ⟨fa, fd, x, params, body, scope, ⟨ps.length, N.length, b⟩, N, ps, m, n, lm, F, hlm, hm, hT, S, rfl, rfl, rfl, nd, fun j => ⟨[], by rw [List.drop_nil]; exact .nil, F.bindsN hb⟩, hk, hc⟩
  dv := rfl
/-- .. called by keywords -/
theorem kb0 (F : FunD G.K x x params body scope [] [] fa fd) (ks : List Str) (pm : List Nat) (h : ∀ (kV doc pm' : Value) (an : Option Addr) (cdv ct : Value) (ws : List Value), ws.length = ks.length → bindArgs (PySem.W.fnOf x x params body scope .none kV doc pm' an cdv ct) ⟨[], ks.zip ws⟩ = pure (ps.zip (pick pm ws))) :
    KBn G.K fd ps 0 ks (fun _ ws => pick pm ws) (fun _ zs => pick pm zs) := by
  obtain ⟨oc, od, dV, kV, doc, pm', an, cdv, ct, osl, rfl, lk, hcd, hD, hK⟩ := F.ex
  rcases hD with ⟨_, rfl⟩ | ⟨e, _⟩
  · refine ⟨fun s us ws _ l1 l2 => ?_, fun _ r => pick_vals r⟩
    cases us with
    | nil => exact .of_eq (h kV doc pm' an cdv ct ws l2)
    | cons _ _ => cases l1
  · exact absurd rfl e
/-- with defaults -/
theorem def1 {b : SS} {m n : Nat} {dvs : List MV} (F : FunD G.K x x params body scope (dvs.map dvV) [] fa fd) (hd : dvs ≠ []) (hdp : dvs.length ≤ ps.length) (hm : mg x = some (.ref fa)) (hT : T[f]? = some ⟨ps.length, N.length, b⟩) (S : FnScope N ps scope) (nd : N.Nodup)
    (hb : ∀ j ≤ dvs.length, ∀ (T : Addr) (kV doc pm : Value) (an : Option Addr) (cdv ct : Value) (us its : List Value), us.length = ps.length - (dvs.length - j) → its.length = dvs.length →
      ∃ k, bindArgs (PySem.W.fnOf x x params body scope (.ref T) kV doc pm an cdv ct) ⟨us, []⟩ = seqItems? (.ref T) >>= k ∧ k (some its.toArray) = pure (ps.zip (us ++ its.drop j)))
    (hc : ckS m { N := N, sc := scope, fo := fun _ => true, gl := gl, bi := bi } n (.ss b body) = true) (hv : dvs.all dvOk = true) : DefOk G base mg T gl bi x f ps.length dvs [] where
  ex := ⟨fa, fd, x, params, body, scope, ⟨ps.length, N.length, b⟩, N, ps, m, n, false, F, fun z => (by cases z), hm, hT, S, rfl, rfl, rfl, nd, fun j => by
    have hl : (dvs.map dvV).length = dvs.length := List.length_map ..
    have go : ∀ j ≤ dvs.length, ∃ us, Vals ((dvs.drop j).map dvV) us ∧ Binds G.K fd ps us := fun j hj => by
      obtain ⟨ds, h1, h2⟩ := F.binds1 (ps := ps) (ps.length - (dvs.length - j)) j (by simpa using hd) (by rw [hl]; omega) fun T kV doc pm an cdv ct us its h3 h4 => hb j hj T kV doc pm an cdv ct us its h3 (by rw [h4, hl])
      exact ⟨ds, by rw [List.map_drop]; exact h1, h2⟩
    by_cases hj : j ≤ dvs.length
    · exact go j hj
    · obtain ⟨us, h1, h2⟩ := go dvs.length (Nat.le_refl _)
      refine ⟨us, ?_, h2⟩
      rw [List.drop_eq_nil_of_le (by omega)]
      rwa [List.drop_eq_nil_of_le (Nat.le_refl _)] at h1, fun p hp => absurd hp List.not_mem_nil, hc⟩
  dv := hv
end
end MI
end
section
set_option Elab.async false
set_option linter.all false
set_option maxHeartbeats 1000000
/-! MI: the def that hears, put together. -/
namespace MI
open PySem PySem.Spec PyProof.Rows L2
theorem hdef {G : GI} {mg : Str → Option Value} {sub : Nat → Nat → Option Bool} {fld : Nat → Str} {fu : Option Nat} {T : List Fn} {glh : List (Str × GE)} {bi : List Str} {x a : Str} {params : Arguments} {body : List Stmt} {scope : Scope} {fa : Addr} {fd : FuncData} {Ng : List Str} {f m n : Nat} {b : SS}
    (F : FunD G.K x x params body scope [] [] fa fd) (hm : mg x = some (.ref fa)) (S : FnScope Ng [a] scope) (h0 : Ng[0]? = some a) (hv : Vis scope a) (hd : (a == ("__debug__" : Str)) = false) (hcd : (a == ("__classdict__" : Str)) = false) (hT : T[f]? = some ⟨1, Ng.length, b⟩) (nd : Ng.Nodup)
    (hb : ∀ (kV doc pm : Value) (an : Option Addr) (cdv ct : Value) (us : List Value), us.length = [a].length → bindArgs (PySem.W.fnOf x x params body scope .none kV doc pm an cdv ct) ⟨us, []⟩ = pure ([a].zip us))
    (hc : ckS m { N := Ng, sc := scope, fo := fun _ => true, gl := glh, bi := bi, hd := true } n (.ss b body) = true)
    (ind : ∀ d f0 h μ, outc (execs (wdAt sub fld fu T d (some (f0, h))) b (some (.thk f0) :: List.replicate (Ng.length - 1) none) μ) = outc (execs (wdAt sub fld fu T d (some (0, h))) b (some (.thk 0) :: List.replicate (Ng.length - 1) none) μ)) : HrDef G mg sub fld fu T glh bi x f := by
  have bb := F.bindsN hb
  obtain ⟨oc, od, dV, kV, doc, pm, an, cdv, ct, osl, rfl, lk, hcd', _, _⟩ := F.ex
  exact ⟨fa, params, body, scope, dV, kV, doc, pm, cdv, ct, oc, an, od, osl, Ng, a, ⟨1, Ng.length, b⟩, m, n, hm, F.kp, lk, hcd', bb, S, h0, hv, hd, hcd, hT, rfl, rfl, nd, hc, ind⟩
end MI
end
section
set_option Elab.async false
set_option linter.all false
set_option maxRecDepth 100000
set_option maxHeartbeats 4000000
namespace MI
open PySem PySem.Spec PyProof.Rows L2
theorem len_one (μ : Mem) (x : MV) : evBi μ .len [.lv [x]] = some (.int 1) := by simp [evBi, lsOf, sqOf, most, dcOf]
theorem idx_one (μ : Mem) (x : MV) : evIdx μ (.lv [x]) (.int 0) = some x := by simp [evIdx, sqOf, lsOf, L2.atI, L2.ixN, dcOf]
theorem dat_int (μ : Mem) (i : Int) : dat μ (.int i) = some (.int i) := by simp [dat, frz, MV.rd, MV.toD, SeqAt.shaped]; exact ⟨rfl, by simp [PyData.depth]⟩
theorem dat_str (μ : Mem) (i : Str) (h : (PyData.str i).canLay0 = true) : dat μ (.str i) = some (.str i) := by simp [dat, frz, MV.rd, MV.toD, SeqAt.shaped]; exact ⟨h, by simp [PyData.depth]⟩
theorem eqv_int (i j : Int) : PyData.eqv (.int i) (.int j) = (i == j) := by simp [PyData.eqv]
theorem eqv_str (i j : Str) : PyData.eqv (.str i) (.str j) = (i == j) := by simp [PyData.eqv]
end MI
end
section
set_option Elab.async false
set_option linter.all false
set_option maxRecDepth 100000
set_option maxHeartbeats 8000000
namespace MI
open PySem PySem.Spec PyProof.Rows L2
def top (i : Nat) : Stmt := PySem.Challenge.pw_portstell_k15_forests_judged.main.body.getD i (.Pass ⟨0, 0, 0, 0⟩)

abbrev gh_ (x : Str) (f : Nat) : Str × GE := (x, .hr f)
abbrev gk_ (x : Str) (c : Nat) (rs : Bool) : Str × GE := (x, .cls c rs)
abbrev gc_ (x : Str) (v : MV) : Str × GE := (x, .con v)
abbrev gf_ (x : Str) (f np : Nat) (ds : List MV) (sg : List (List Str × List Nat)) : Str × GE := (x, .fn f np ds sg)
def gl : List (Str × GE) := [gc_ "ONE" (.tup [(.int 1), (.int 1)]),
  gc_ "MOST_NODES" (.int 48),
  gc_ "MOST_PORTS" (.int 8),
  gc_ "MOST_WIRES" (.int 40),
  gf_ "is_whole" 0 3 [.non, .non] [],
  gf_ "is_row" 1 2 [.non] [],
  gf_ "are_wholes" 2 3 [.non, .non] [],
  gf_ "gcd" 3 2 [] [],
  gf_ "is_fraction" 4 1 [] [],
  gf_ "ratio" 5 2 [] [],
  gf_ "ratio_times" 6 2 [] [],
  gf_ "is_wire" 7 2 [] [],
  gf_ "net_fault" 8 1 [] [],
  gf_ "need_net" 9 1 [] [],
  gf_ "is_ascending" 10 3 [] [],
  gf_ "need_wires" 11 2 [] [],
  gf_ "led_together" 12 2 [] [],
  gf_ "lots_by" 13 2 [] [],
  gf_ "forest_lead" 14 2 [] [],
  gf_ "need_forest" 15 2 [] [],
  gf_ "is_forest" 16 2 [] [(["forest", "net"], [1, 0])],
  gf_ "forest_lots" 17 2 [] [(["net", "forest"], [0, 1])],
  gf_ "forest_weight" 18 2 [] [(["forest", "net"], [1, 0])],
  gf_ "_law_mixed" 19 2 [] [],
  gf_ "_law_folded" 20 1 [] [],
  gf_ "_law_draw" 21 2 [] [],
  gf_ "_law_begun" 22 1 [] [],
  gf_ "_law_of" 23 2 [] [],
  gf_ "_law_like" 24 2 [] [],
  gf_ "_law_order" 25 2 [] [],
  gf_ "_law_common" 26 2 [] [],
  gf_ "_law_ratio" 27 2 [] [],
  gf_ "_law_times" 28 1 [] [],
  gf_ "_law_strength" 29 1 [] [],
  gf_ "_law_net" 30 4 [] [],
  gf_ "_law_held" 31 4 [] [],
  gf_ "_law_leads" 32 2 [] [],
  gf_ "_law_forest_lead" 33 2 [] [],
  gf_ "_law_port_lots" 34 2 [] [],
  gf_ "_law_forests" 35 1 [] [],
  gf_ "_law_small_net" 36 3 [] [],
  gf_ "_law_right" 38 1 [] [],
  gf_ "_law_told_right" 39 1 [] [],
  gf_ "_law_great_right" 40 1 [] [],
  gf_ "_law_odd_right" 41 1 [] [],
  gh_ "_law_heard" 37,
  gk_ "WireError" 1 false,
  gk_ "BadNet" 2 true,
  gk_ "BadNumber" 3 true,
  gk_ "BadPaper" 4 true]
def glh : List (Str × GE) := [gk_ "WireError" 1 false, gk_ "BadNet" 2 false, gk_ "BadNumber" 3 false, gk_ "BadPaper" 4 false]
def bi : List Str := ["len", "abs", "min", "max", "int", "tuple", "list", "all", "any", "sum", "range", "enumerate", "isinstance", "bool", "str", "dict", "zip", "sorted"]
def N_is_whole : List Str := ["value", "least", "most"]
def b_is_whole : SS := (.cons (.ite (.orr (.nt (.isi (.var 0) [.int])) (.isi (.var 0) [.bool])) (.cons (.ret (.con (.bl false))) .nil) .nil) (.cons (.ret (.an (.orr (.cmp .isn (.var 1) (.con .non)) (.cmp .ge (.var 0) (.var 1))) (.orr (.cmp .isn (.var 2) (.con .non)) (.cmp .le (.var 0) (.var 2))))) .nil))
theorem c_is_whole : ckS 60 { N := N_is_whole, sc := defScope (top 6), fo := fun _ => true, gl := gl, bi := bi } 60 (.ss b_is_whole (defBody (top 6))) = true := by kernel_rfl
def N_is_row : List Str := ["value", "length"]
def b_is_row : SS := (.cons (.ret (.an (.isi (.var 0) [.tuple]) (.orr (.cmp .isn (.var 1) (.con .non)) (.cmp .eq (.blt .len (.cons (.var 0) .nil)) (.var 1))))) .nil)
theorem c_is_row : ckS 60 { N := N_is_row, sc := defScope (top 7), fo := fun _ => true, gl := gl, bi := bi } 60 (.ss b_is_row (defBody (top 7))) = true := by kernel_rfl
def N_are_wholes : List Str := ["value", "least", "most", "one"]
def b_are_wholes : SS := (.cons (.ret (.an (.app false 1 (.cons (.var 0) .nil) [.non]) (.blt .all1 (.cons (.lcm [3] (.seq (.var 0)) (.nm 3) (.con (.bl true)) (.app false 0 (.cons (.var 3) (.cons (.var 1) (.cons (.var 2) .nil))) [])) .nil)))) .nil)
theorem c_are_wholes : ckS 60 { N := N_are_wholes, sc := defScope (top 8), fo := fun _ => true, gl := gl, bi := bi } 60 (.ss b_are_wholes (defBody (top 8))) = true := by kernel_rfl
def N_gcd : List Str := ["one", "other"]
def b_gcd : SS := (.cons (.asg (.tp (.cons (.nm 0) (.cons (.nm 1) .nil))) (.tup (.cons (.blt .abs (.cons (.var 0) .nil)) (.cons (.blt .abs (.cons (.var 1) .nil)) .nil)))) (.cons (.whl (.cmp .ne (.var 1) (.con (.int 0))) (.cons (.asg (.tp (.cons (.nm 0) (.cons (.nm 1) .nil))) (.tup (.cons (.var 1) (.cons (.bin .mod (.blt .int1 (.cons (.var 0) .nil)) (.var 1)) .nil)))) .nil)) (.cons (.ret (.var 0)) .nil)))
theorem c_gcd : ckS 60 { N := N_gcd, sc := defScope (top 9), fo := fun _ => true, gl := gl, bi := bi } 60 (.ss b_gcd (defBody (top 9))) = true := by kernel_rfl
def N_is_fraction : List Str := ["value"]
def b_is_fraction : SS := (.cons (.ite (.orr (.nt (.app false 1 (.cons (.var 0) (.cons (.con (.int 2)) .nil)) [])) (.orr (.nt (.app false 0 (.cons (.idx (.var 0) (.con (.int 0))) .nil) [.non, .non])) (.nt (.app false 0 (.cons (.idx (.var 0) (.con (.int 1))) (.cons (.con (.int 1)) .nil)) [.non])))) (.cons (.ret (.con (.bl false))) .nil) .nil) (.cons (.ret (.cmp .eq (.app false 3 (.cons (.idx (.var 0) (.con (.int 0))) (.cons (.idx (.var 0) (.con (.int 1))) .nil)) []) (.con (.int 1)))) .nil))
theorem c_is_fraction : ckS 60 { N := N_is_fraction, sc := defScope (top 12), fo := fun _ => true, gl := gl, bi := bi } 60 (.ss b_is_fraction (defBody (top 12))) = true := by kernel_rfl
def N_ratio : List Str := ["upper", "under", "common"]
def b_ratio : SS := (.cons (.ite (.cmp .lt (.var 1) (.con (.int 0))) (.cons (.asg (.tp (.cons (.nm 0) (.cons (.nm 1) .nil))) (.tup (.cons (.neg (.var 0)) (.cons (.neg (.var 1)) .nil)))) .nil) .nil) (.cons (.asg (.nm 2) (.app false 3 (.cons (.var 0) (.cons (.var 1) .nil)) [])) (.cons (.ret (.tup (.cons (.bin .fdv (.var 0) (.var 2)) (.cons (.bin .fdv (.var 1) (.var 2)) .nil)))) .nil)))
theorem c_ratio : ckS 60 { N := N_ratio, sc := defScope (top 13), fo := fun _ => true, gl := gl, bi := bi } 60 (.ss b_ratio (defBody (top 13))) = true := by kernel_rfl
def N_ratio_times : List Str := ["one", "other"]
def b_ratio_times : SS := (.cons (.ret (.app false 5 (.cons (.bin .mul (.idx (.var 0) (.con (.int 0))) (.idx (.var 1) (.con (.int 0)))) (.cons (.bin .mul (.idx (.var 0) (.con (.int 1))) (.idx (.var 1) (.con (.int 1)))) .nil)) [])) .nil)
theorem c_ratio_times : ckS 60 { N := N_ratio_times, sc := defScope (top 14), fo := fun _ => true, gl := gl, bi := bi } 60 (.ss b_ratio_times (defBody (top 14))) = true := by kernel_rfl
def N_is_wire : List Str := ["nodes", "value"]
def b_is_wire : SS := (.cons (.ite (.orr (.nt (.app false 1 (.cons (.var 1) (.cons (.con (.int 3)) .nil)) [])) (.orr (.nt (.app false 0 (.cons (.idx (.var 1) (.con (.int 0))) (.cons (.con (.int 0)) (.cons (.bin .sub (.var 0) (.con (.int 1))) .nil))) [])) (.nt (.app false 0 (.cons (.idx (.var 1) (.con (.int 1))) (.cons (.con (.int 0)) (.cons (.bin .sub (.var 0) (.con (.int 1))) .nil))) [])))) (.cons (.ret (.con (.bl false))) .nil) .nil) (.cons (.ret (.an (.cmp .lt (.idx (.var 1) (.con (.int 0))) (.idx (.var 1) (.con (.int 1)))) (.an (.app false 4 (.cons (.idx (.var 1) (.con (.int 2))) .nil) []) (.cmp .gt (.idx (.idx (.var 1) (.con (.int 2))) (.con (.int 0))) (.con (.int 0)))))) .nil))
theorem c_is_wire : ckS 60 { N := N_is_wire, sc := defScope (top 19), fo := fun _ => true, gl := gl, bi := bi } 60 (.ss b_is_wire (defBody (top 19))) = true := by kernel_rfl
def N_net_fault : List Str := ["value", "number", "wire"]
def b_net_fault : SS := (.cons (.ite (.orr (.nt (.app false 1 (.cons (.var 0) (.cons (.con (.int 3)) .nil)) [])) (.nt (.app false 1 (.cons (.idx (.var 0) (.con (.int 2))) .nil) [.non]))) (.cons (.ret (.tup (.cons (.con (.str "form")) .nil))) .nil) .nil) (.cons (.ite (.nt (.app false 0 (.cons (.idx (.var 0) (.con (.int 0))) (.cons (.con (.int 0)) (.cons (.con (.int 48)) .nil))) [])) (.cons (.ret (.tup (.cons (.con (.str "nodes")) .nil))) .nil) .nil) (.cons (.ite (.nt (.app false 0 (.cons (.idx (.var 0) (.con (.int 1))) (.cons (.con (.int 0)) (.cons (.blt .min2 (.cons (.idx (.var 0) (.con (.int 0))) (.cons (.con (.int 8)) .nil))) .nil))) [])) (.cons (.ret (.tup (.cons (.con (.str "ports")) .nil))) .nil) .nil) (.cons (.ite (.cmp .gt (.blt .len (.cons (.idx (.var 0) (.con (.int 2))) .nil)) (.con (.int 40))) (.cons (.ret (.tup (.cons (.con (.str "many")) .nil))) .nil) .nil) (.cons (.fr (.tp (.cons (.nm 1) (.cons (.nm 2) .nil))) (.enu (.idx (.var 0) (.con (.int 2)))) (.cons (.ite (.orr (.nt (.app false 7 (.cons (.idx (.var 0) (.con (.int 0))) (.cons (.var 2) .nil)) [])) (.an (.cmp .gt (.var 1) (.con (.int 0))) (.cmp .lt (.var 2) (.idx (.idx (.var 0) (.con (.int 2))) (.bin .sub (.var 1) (.con (.int 1))))))) (.cons (.ret (.tup (.cons (.var 1) .nil))) .nil) .nil) .nil)) (.cons (.ret (.tup .nil)) .nil))))))
theorem c_net_fault : ckS 60 { N := N_net_fault, sc := defScope (top 20), fo := fun _ => true, gl := gl, bi := bi } 60 (.ss b_net_fault (defBody (top 20))) = true := by kernel_rfl
def N_need_net : List Str := ["net", "fault"]
def b_need_net : SS := (.cons (.asg (.nm 1) (.app false 8 (.cons (.var 0) .nil) [])) (.cons (.ite (.cmp .ne (.var 1) (.tup .nil)) (.cons (.rai 2 (.idx (.var 1) (.con (.int 0)))) .nil) .nil) (.cons (.ret (.var 0)) .nil)))
theorem c_need_net : ckS 60 { N := N_need_net, sc := defScope (top 21), fo := fun _ => true, gl := gl, bi := bi } 60 (.ss b_need_net (defBody (top 21))) = true := by kernel_rfl
def N_is_ascending : List Str := ["value", "least", "most", "one", "other"]
def b_is_ascending : SS := (.cons (.ret (.an (.app false 2 (.cons (.var 0) (.cons (.var 1) (.cons (.var 2) .nil))) []) (.blt .all1 (.cons (.lcm [3, 4] (.zip (.var 0) (.slc (.var 0) true (.con (.int 1)) false (.con .non))) (.tp (.cons (.nm 3) (.cons (.nm 4) .nil))) (.con (.bl true)) (.cmp .lt (.var 3) (.var 4))) .nil)))) .nil)
theorem c_is_ascending : ckS 60 { N := N_is_ascending, sc := defScope (top 23), fo := fun _ => true, gl := gl, bi := bi } 60 (.ss b_is_ascending (defBody (top 23))) = true := by kernel_rfl
def N_need_wires : List Str := ["net", "forest"]
def b_need_wires : SS := (.cons (.ite (.nt (.app false 10 (.cons (.var 1) (.cons (.con (.int 0)) (.cons (.bin .sub (.blt .len (.cons (.idx (.var 0) (.con (.int 2))) .nil)) (.con (.int 1))) .nil))) [])) (.cons (.rai 3 (.var 1)) .nil) .nil) (.cons (.ret (.var 1)) .nil))
theorem c_need_wires : ckS 60 { N := N_need_wires, sc := defScope (top 24), fo := fun _ => true, gl := gl, bi := bi } 60 (.ss b_need_wires (defBody (top 24))) = true := by kernel_rfl
def N_led_together : List Str := ["nodes", "pairs", "lead", "one", "two", "near", "far", "place"]
def b_led_together : SS := (.cons (.asg (.nm 2) (.lrg false (.cons (.var 0) .nil))) (.cons (.fr (.tp (.cons (.nm 3) (.cons (.nm 4) .nil))) (.seq (.var 1)) (.cons (.asg (.tp (.cons (.nm 5) (.cons (.nm 6) .nil))) (.blt .srt1 (.cons (.tup (.cons (.idx (.var 2) (.var 3)) (.cons (.idx (.var 2) (.var 4)) .nil))) .nil))) (.cons (.ite (.cmp .eq (.var 5) (.var 6)) (.cons (.ret (.con .non)) .nil) .nil) (.cons (.asg (.nm 2) (.lcm [7] (.seq (.var 2)) (.nm 7) (.con (.bl true)) (.ife (.cmp .eq (.var 7) (.var 6)) (.var 5) (.var 7)))) .nil)))) (.cons (.ret (.var 2)) .nil)))
theorem c_led_together : ckS 60 { N := N_led_together, sc := defScope (top 25), fo := fun _ => true, gl := gl, bi := bi } 60 (.ss b_led_together (defBody (top 25))) = true := by kernel_rfl
def N_lots_by : List Str := ["lead", "ports", "found", "port", "place"]
def b_lots_by : SS := (.cons (.asg (.nm 2) (.dsp [] .nil)) (.cons (.fr (.nm 3) (.rng (.cons (.var 1) .nil)) (.cons (.ex (.mth .append (.sdf (.var 2) (.idx (.var 0) (.var 3))) (.cons (.var 3) .nil))) .nil)) (.cons (.ret (.blt .tup1 (.cons (.lcm [4] (.seq (.blt .srt1 (.cons (.var 2) .nil))) (.nm 4) (.con (.bl true)) (.blt .tup1 (.cons (.idx (.var 2) (.var 4)) .nil))) .nil))) .nil)))
theorem c_lots_by : ckS 60 { N := N_lots_by, sc := defScope (top 26), fo := fun _ => true, gl := gl, bi := bi } 60 (.ss b_lots_by (defBody (top 26))) = true := by kernel_rfl
def N_forest_lead : List Str := ["net", "forest", "lead", "number", "place"]
def b_forest_lead : SS := (.cons (.asg (.nm 2) (.app false 12 (.cons (.idx (.var 0) (.con (.int 0))) (.cons (.lcm [3] (.seq (.var 1)) (.nm 3) (.con (.bl true)) (.slc (.idx (.idx (.var 0) (.con (.int 2))) (.var 3)) false (.con .non) true (.con (.int 2)))) .nil)) [])) (.cons (.ite (.orr (.cmp .isn (.var 2) (.con .non)) (.nt (.blt .all1 (.cons (.lcm [4] (.seq (.var 2)) (.nm 4) (.con (.bl true)) (.cmp .lt (.var 4) (.idx (.var 0) (.con (.int 1))))) .nil)))) (.cons (.ret (.con .non)) .nil) .nil) (.cons (.ret (.var 2)) .nil)))
theorem c_forest_lead : ckS 60 { N := N_forest_lead, sc := defScope (top 28), fo := fun _ => true, gl := gl, bi := bi } 60 (.ss b_forest_lead (defBody (top 28))) = true := by kernel_rfl
def N_need_forest : List Str := ["net", "forest", "lead"]
def b_need_forest : SS := (.cons (.ex (.app false 9 (.cons (.var 0) .nil) [])) (.cons (.ex (.app false 11 (.cons (.var 0) (.cons (.var 1) .nil)) [])) (.cons (.asg (.nm 2) (.app false 14 (.cons (.var 0) (.cons (.var 1) .nil)) [])) (.cons (.ite (.cmp .isn (.var 2) (.con .non)) (.cons (.rai 4 (.con (.str "forest"))) .nil) .nil) (.cons (.ret (.var 2)) .nil)))))
theorem c_need_forest : ckS 60 { N := N_need_forest, sc := defScope (top 29), fo := fun _ => true, gl := gl, bi := bi } 60 (.ss b_need_forest (defBody (top 29))) = true := by kernel_rfl
def N_is_forest : List Str := ["net", "forest"]
def b_is_forest : SS := (.cons (.ex (.app false 9 (.cons (.var 0) .nil) [])) (.cons (.ex (.app false 11 (.cons (.var 0) (.cons (.var 1) .nil)) [])) (.cons (.ret (.cmp .notn (.app false 14 (.cons (.var 0) (.cons (.var 1) .nil)) []) (.con .non))) .nil)))
theorem c_is_forest : ckS 60 { N := N_is_forest, sc := defScope (top 30), fo := fun _ => true, gl := gl, bi := bi } 60 (.ss b_is_forest (defBody (top 30))) = true := by kernel_rfl
def N_forest_lots : List Str := ["net", "forest"]
def b_forest_lots : SS := (.cons (.ret (.app false 13 (.cons (.app false 15 (.cons (.var 0) (.cons (.var 1) .nil)) []) (.cons (.idx (.var 0) (.con (.int 1))) .nil)) [])) .nil)
theorem c_forest_lots : ckS 60 { N := N_forest_lots, sc := defScope (top 31), fo := fun _ => true, gl := gl, bi := bi } 60 (.ss b_forest_lots (defBody (top 31))) = true := by kernel_rfl
def N_forest_weight : List Str := ["net", "forest", "found", "number"]
def b_forest_weight : SS := (.cons (.ex (.app false 15 (.cons (.var 0) (.cons (.var 1) .nil)) [])) (.cons (.asg (.nm 2) (.con (.tup [(.int 1), (.int 1)]))) (.cons (.fr (.nm 3) (.seq (.var 1)) (.cons (.asg (.nm 2) (.app false 6 (.cons (.var 2) (.cons (.idx (.idx (.idx (.var 0) (.con (.int 2))) (.var 3)) (.con (.int 2))) .nil)) [])) .nil)) (.cons (.ret (.var 2)) .nil))))
theorem c_forest_weight : ckS 60 { N := N_forest_weight, sc := defScope (top 32), fo := fun _ => true, gl := gl, bi := bi } 60 (.ss b_forest_weight (defBody (top 32))) = true := by kernel_rfl
def N__law_mixed : List Str := ["cell", "n", "blend"]
def b__law_mixed : SS := (.cons (.asg (.nm 2) (.bin .add (.bin .add (.bin .mod (.blt .int1 (.cons (.bin .mul (.bin .mul (.var 0) (.bin .add (.con (.int 1)) (.bin .mul (.con (.int 2)) (.var 1)))) (.con (.int 48271))) .nil)) (.con (.int 2147483647))) (.bin .mul (.bin .mul (.con (.int 7919)) (.var 1)) (.var 1))) (.bin .mul (.con (.int 104729)) (.var 1)))) (.cons (.ret (.bin .fdv (.bin .mod (.blt .int1 (.cons (.bin .mul (.var 2) (.con (.int 69621))) .nil)) (.con (.int 2147483629))) (.con (.int 7)))) .nil))
theorem c__law_mixed : ckS 60 { N := N__law_mixed, sc := defScope (top 34), fo := fun _ => true, gl := gl, bi := bi } 60 (.ss b__law_mixed (defBody (top 34))) = true := by kernel_rfl
def N__law_folded : List Str := ["script", "found", "n", "cell"]
def b__law_folded : SS := (.cons (.asg (.nm 1) (.chg (.lcm [2] (.rng (.cons (.con (.int 64)) .nil)) (.nm 2) (.con (.bl true)) (.bin .add (.con (.int 17)) (.var 2))))) (.cons (.fr (.tp (.cons (.nm 2) (.cons (.nm 3) .nil))) (.enu (.var 0)) (.cons (.asg (.ix (.var 1) (.bin .mod (.blt .int1 (.cons (.var 2) .nil)) (.con (.int 64)))) (.bin .mod (.blt .int1 (.cons (.bin .add (.bin .mul (.idx (.var 1) (.bin .mod (.blt .int1 (.cons (.var 2) .nil)) (.con (.int 64)))) (.con (.int 48271))) (.var 3)) .nil)) (.con (.int 2147483647)))) .nil)) (.cons (.fr (.nm 2) (.rng (.cons (.con (.int 1)) (.cons (.con (.int 64)) .nil))) (.cons (.asg (.ix (.var 1) (.var 2)) (.bin .mod (.blt .int1 (.cons (.bin .add (.idx (.var 1) (.var 2)) (.bin .mul (.idx (.var 1) (.bin .sub (.var 2) (.con (.int 1)))) (.con (.int 16807)))) .nil)) (.con (.int 2147483647)))) .nil)) (.cons (.ret (.var 1)) .nil))))
theorem c__law_folded : ckS 60 { N := N__law_folded, sc := defScope (top 35), fo := fun _ => true, gl := gl, bi := bi } 60 (.ss b__law_folded (defBody (top 35))) = true := by kernel_rfl
def N__law_draw : List Str := ["m", "limit", "n", "lot", "here", "cell"]
def b__law_draw : SS := (.cons (.asg (.nm 2) (.idx (.var 0) (.con (.str "spot")))) (.cons (.asg (.ix (.var 0) (.con (.str "spot"))) (.bin .add (.var 2) (.con (.int 1)))) (.cons (.ite (.cmp .ne (.idx (.var 0) (.con (.str "great"))) (.lst .nil)) (.cons (.asg (.nm 3) (.idx (.var 0) (.con (.str "great")))) (.cons (.asg (.nm 4) (.bin .mod (.blt .int1 (.cons (.var 2) .nil)) (.blt .len (.cons (.var 3) .nil)))) (.cons (.asg (.nm 5) (.idx (.var 3) (.var 4))) (.cons (.ite (.cmp .gt (.var 5) (.con (.int 0))) (.cons (.asg (.ix (.var 3) (.var 4)) (.bin .fdv (.var 5) (.var 1))) (.cons (.ret (.bin .mod (.blt .int1 (.cons (.var 5) .nil)) (.var 1))) .nil)) .nil) .nil)))) .nil) (.cons (.asg (.nm 3) (.idx (.var 0) (.con (.str "cells")))) (.cons (.ret (.bin .mod (.blt .int1 (.cons (.app false 19 (.cons (.app false 19 (.cons (.bin .add (.idx (.var 3) (.bin .mod (.blt .int1 (.cons (.var 2) .nil)) (.con (.int 64)))) (.bin .mul (.con (.int 31)) (.bin .fdv (.var 2) (.con (.int 64))))) (.cons (.var 2) .nil)) []) (.cons (.bin .add (.var 2) (.con (.int 7))) .nil)) []) .nil)) (.var 1))) .nil)))))
theorem c__law_draw : ckS 60 { N := N__law_draw, sc := defScope (top 36), fo := fun _ => true, gl := gl, bi := bi } 60 (.ss b__law_draw (defBody (top 36))) = true := by kernel_rfl
def N__law_begun : List Str := ["script", "m", "cell"]
def b__law_begun : SS := (.cons (.asg (.nm 1) (.dsp [.inr "cells", .inr "great", .inr "spot"] (.cons (.app false 20 (.cons (.var 0) .nil) []) (.cons (.lst .nil) (.cons (.con (.int 0)) .nil))))) (.cons (.asg (.ix (.var 1) (.con (.str "great"))) (.chg (.lcm [2] (.seq (.var 0)) (.nm 2) (.con (.bl true)) (.ife (.cmp .ge (.var 2) (.bin .pow (.con (.int 10)) (.con (.int 18)))) (.var 2) (.con (.int 0)))))) (.cons (.ret (.var 1)) .nil)))
theorem c__law_begun : ckS 60 { N := N__law_begun, sc := defScope (top 37), fo := fun _ => true, gl := gl, bi := bi } 60 (.ss b__law_begun (defBody (top 37))) = true := by kernel_rfl
def N__law_of : List Str := ["m", "some"]
def b__law_of : SS := (.cons (.ret (.idx (.var 1) (.app false 21 (.cons (.var 0) (.cons (.blt .len (.cons (.var 1) .nil)) .nil)) []))) .nil)
theorem c__law_of : ckS 60 { N := N__law_of, sc := defScope (top 38), fo := fun _ => true, gl := gl, bi := bi } 60 (.ss b__law_of (defBody (top 38))) = true := by kernel_rfl
def N__law_like : List Str := ["got", "due", "n"]
def b__law_like : SS := (.cons (.ite (.cmp .isn (.var 1) (.con .non)) (.cons (.ret (.cmp .isn (.var 0) (.con .non))) .nil) .nil) (.cons (.ite (.isi (.var 1) [.bool]) (.cons (.ret (.an (.isi (.var 0) [.bool]) (.cmp .eq (.var 0) (.var 1)))) .nil) .nil) (.cons (.ite (.isi (.var 1) [.int]) (.cons (.ret (.an (.isi (.var 0) [.int]) (.an (.nt (.isi (.var 0) [.bool])) (.cmp .eq (.var 0) (.var 1))))) .nil) .nil) (.cons (.ite (.isi (.var 1) [.str]) (.cons (.ret (.an (.isi (.var 0) [.str]) (.cmp .eq (.var 0) (.var 1)))) .nil) .nil) (.cons (.ite (.orr (.an (.isi (.var 1) [.tuple]) (.nt (.isi (.var 0) [.tuple]))) (.an (.isi (.var 1) [.list]) (.nt (.isi (.var 0) [.list])))) (.cons (.ret (.con (.bl false))) .nil) .nil) (.cons (.ite (.cmp .ne (.blt .len (.cons (.var 0) .nil)) (.blt .len (.cons (.var 1) .nil))) (.cons (.ret (.con (.bl false))) .nil) .nil) (.cons (.fr (.nm 2) (.rng (.cons (.blt .len (.cons (.var 1) .nil)) .nil)) (.cons (.ite (.nt (.app false 24 (.cons (.idx (.var 0) (.var 2)) (.cons (.idx (.var 1) (.var 2)) .nil)) [])) (.cons (.ret (.con (.bl false))) .nil) .nil) .nil)) (.cons (.ret (.con (.bl true))) .nil))))))))
theorem c__law_like : ckS 60 { N := N__law_like, sc := defScope (top 39), fo := fun _ => true, gl := gl, bi := bi } 60 (.ss b__law_like (defBody (top 39))) = true := by kernel_rfl
def N__law_order : List Str := ["m", "many", "left", "found"]
def b__law_order : SS := (.cons (.asg (.tp (.cons (.nm 2) (.cons (.nm 3) .nil))) (.tup (.cons (.chg (.lrg false (.cons (.var 1) .nil))) (.cons (.chg (.lst .nil)) .nil)))) (.cons (.whl (.cmp .ne (.var 2) (.lst .nil)) (.cons (.ex (.mth .append (.var 3) (.cons (.mth .pop1 (.var 2) (.cons (.app false 21 (.cons (.var 0) (.cons (.blt .len (.cons (.var 2) .nil)) .nil)) []) .nil)) .nil))) .nil)) (.cons (.ret (.var 3)) .nil)))
theorem c__law_order : ckS 60 { N := N__law_order, sc := defScope (top 40), fo := fun _ => true, gl := gl, bi := bi } 60 (.ss b__law_order (defBody (top 40))) = true := by kernel_rfl
def N__law_common : List Str := ["one", "other"]
def b__law_common : SS := (.cons (.asg (.tp (.cons (.nm 0) (.cons (.nm 1) .nil))) (.tup (.cons (.blt .abs (.cons (.var 0) .nil)) (.cons (.blt .abs (.cons (.var 1) .nil)) .nil)))) (.cons (.whl (.cmp .ne (.var 1) (.con (.int 0))) (.cons (.asg (.tp (.cons (.nm 0) (.cons (.nm 1) .nil))) (.tup (.cons (.var 1) (.cons (.bin .mod (.blt .int1 (.cons (.var 0) .nil)) (.var 1)) .nil)))) .nil)) (.cons (.ret (.var 0)) .nil)))
theorem c__law_common : ckS 60 { N := N__law_common, sc := defScope (top 41), fo := fun _ => true, gl := gl, bi := bi } 60 (.ss b__law_common (defBody (top 41))) = true := by kernel_rfl
def N__law_ratio : List Str := ["upper", "under", "common"]
def b__law_ratio : SS := (.cons (.asg (.nm 2) (.app false 26 (.cons (.var 0) (.cons (.var 1) .nil)) [])) (.cons (.asg (.nm 2) (.ife (.cmp .lt (.var 1) (.con (.int 0))) (.neg (.var 2)) (.var 2))) (.cons (.ret (.tup (.cons (.bin .fdv (.var 0) (.var 2)) (.cons (.bin .fdv (.var 1) (.var 2)) .nil)))) .nil)))
theorem c__law_ratio : ckS 60 { N := N__law_ratio, sc := defScope (top 42), fo := fun _ => true, gl := gl, bi := bi } 60 (.ss b__law_ratio (defBody (top 42))) = true := by kernel_rfl
def N__law_times : List Str := ["fractions", "found", "upper", "under"]
def b__law_times : SS := (.cons (.asg (.nm 1) (.tup (.cons (.con (.int 1)) (.cons (.con (.int 1)) .nil)))) (.cons (.fr (.tp (.cons (.nm 2) (.cons (.nm 3) .nil))) (.seq (.var 0)) (.cons (.asg (.nm 1) (.app false 27 (.cons (.bin .mul (.idx (.var 1) (.con (.int 0))) (.var 2)) (.cons (.bin .mul (.idx (.var 1) (.con (.int 1))) (.var 3)) .nil)) [])) .nil)) (.cons (.ret (.var 1)) .nil)))
theorem c__law_times : ckS 60 { N := N__law_times, sc := defScope (top 43), fo := fun _ => true, gl := gl, bi := bi } 60 (.ss b__law_times (defBody (top 43))) = true := by kernel_rfl
def N__law_strength : List Str := ["m", "pick"]
def b__law_strength : SS := (.cons (.asg (.nm 1) (.app false 21 (.cons (.var 0) (.cons (.con (.int 8)) .nil)) [])) (.cons (.ite (.cmp .lt (.var 1) (.con (.int 3))) (.cons (.ret (.tup (.cons (.con (.int 1)) (.cons (.con (.int 1)) .nil)))) .nil) .nil) (.cons (.ite (.cmp .lt (.var 1) (.con (.int 7))) (.cons (.ret (.app false 27 (.cons (.bin .add (.con (.int 1)) (.app false 21 (.cons (.var 0) (.cons (.con (.int 6)) .nil)) [])) (.cons (.bin .add (.con (.int 1)) (.app false 21 (.cons (.var 0) (.cons (.con (.int 5)) .nil)) [])) .nil)) [])) .nil) .nil) (.cons (.ret (.app false 27 (.cons (.bin .add (.con (.int 1)) (.app false 21 (.cons (.var 0) (.cons (.bin .pow (.con (.int 10)) (.con (.int 6))) .nil)) [])) (.cons (.bin .add (.con (.int 1)) (.app false 21 (.cons (.var 0) (.cons (.bin .pow (.con (.int 10)) (.con (.int 6))) .nil)) [])) .nil)) [])) .nil))))
theorem c__law_strength : ckS 60 { N := N__law_strength, sc := defScope (top 44), fo := fun _ => true, gl := gl, bi := bi } 60 (.ss b__law_strength (defBody (top 44))) = true := by kernel_rfl
def N__law_net : List Str := ["m", "nodes", "ports", "wires", "found", "turn", "two", "one"]
def b__law_net : SS := (.cons (.asg (.nm 4) (.chg (.lst .nil))) (.cons (.ite (.cmp .gt (.var 1) (.con (.int 1))) (.cons (.fr (.nm 5) (.rng (.cons (.app false 21 (.cons (.var 0) (.cons (.bin .add (.var 3) (.con (.int 1))) .nil)) []) .nil)) (.cons (.asg (.tp (.cons (.nm 7) (.cons (.nm 6) .nil))) (.tup (.cons (.app false 21 (.cons (.var 0) (.cons (.var 1) .nil)) []) (.cons (.app false 21 (.cons (.var 0) (.cons (.bin .sub (.var 1) (.con (.int 1))) .nil)) []) .nil)))) (.cons (.asg (.nm 6) (.ife (.cmp .ge (.var 6) (.var 7)) (.bin .add (.var 6) (.con (.int 1))) (.var 6))) (.cons (.ex (.mth .append (.var 4) (.cons (.tup (.cons (.blt .min2 (.cons (.var 7) (.cons (.var 6) .nil))) (.cons (.blt .max2 (.cons (.var 7) (.cons (.var 6) .nil))) (.cons (.app false 29 (.cons (.var 0) .nil) []) .nil)))) .nil))) .nil)))) .nil) .nil) (.cons (.ret (.tup (.cons (.var 1) (.cons (.var 2) (.cons (.blt .tup1 (.cons (.blt .srt1 (.cons (.var 4) .nil)) .nil)) .nil))))) .nil)))
theorem c__law_net : ckS 60 { N := N__law_net, sc := defScope (top 45), fo := fun _ => true, gl := gl, bi := bi } 60 (.ss b__law_net (defBody (top 45))) = true := by kernel_rfl
def N__law_held : List Str := ["m", "nodes", "ports", "wires", "found", "node", "order", "turn", "two", "one", "n", "strength"]
def b__law_held : SS := (.cons (.asg (.nm 4) (.chg (.lst .nil))) (.cons (.fr (.nm 5) (.rng (.cons (.var 2) (.cons (.var 1) .nil))) (.cons (.ex (.mth .append (.var 4) (.cons (.tup (.cons (.app false 21 (.cons (.var 0) (.cons (.var 5) .nil)) []) (.cons (.var 5) (.cons (.app false 29 (.cons (.var 0) .nil) []) .nil)))) .nil))) .nil)) (.cons (.ite (.cmp .gt (.var 1) (.con (.int 1))) (.cons (.fr (.nm 7) (.rng (.cons (.app false 21 (.cons (.var 0) (.cons (.blt .max2 (.cons (.con (.int 1)) (.cons (.bin .add (.bin .sub (.var 3) (.blt .len (.cons (.var 4) .nil))) (.con (.int 1))) .nil))) .nil)) []) .nil)) (.cons (.asg (.tp (.cons (.nm 9) (.cons (.nm 8) .nil))) (.tup (.cons (.app false 21 (.cons (.var 0) (.cons (.var 1) .nil)) []) (.cons (.app false 21 (.cons (.var 0) (.cons (.bin .sub (.var 1) (.con (.int 1))) .nil)) []) .nil)))) (.cons (.asg (.nm 8) (.ife (.cmp .ge (.var 8) (.var 9)) (.bin .add (.var 8) (.con (.int 1))) (.var 8))) (.cons (.ex (.mth .append (.var 4) (.cons (.tup (.cons (.blt .min2 (.cons (.var 9) (.cons (.var 8) .nil))) (.cons (.blt .max2 (.cons (.var 9) (.cons (.var 8) .nil))) (.cons (.app false 29 (.cons (.var 0) .nil) []) .nil)))) .nil))) .nil)))) .nil) .nil) (.cons (.asg (.nm 6) (.bin .add (.lrg false (.cons (.var 2) .nil)) (.lcm [10] (.seq (.app false 25 (.cons (.var 0) (.cons (.bin .sub (.var 1) (.var 2)) .nil)) [])) (.nm 10) (.con (.bl true)) (.bin .add (.var 2) (.var 10))))) (.cons (.asg (.nm 4) (.chg (.lcm [9, 8, 11] (.seq (.var 4)) (.tp (.cons (.nm 9) (.cons (.nm 8) (.cons (.nm 11) .nil)))) (.con (.bl true)) (.tup (.cons (.blt .min2 (.cons (.idx (.var 6) (.var 9)) (.cons (.idx (.var 6) (.var 8)) .nil))) (.cons (.blt .max2 (.cons (.idx (.var 6) (.var 9)) (.cons (.idx (.var 6) (.var 8)) .nil))) (.cons (.var 11) .nil))))))) (.cons (.ret (.tup (.cons (.var 1) (.cons (.var 2) (.cons (.blt .tup1 (.cons (.blt .srt1 (.cons (.var 4) .nil)) .nil)) .nil))))) .nil))))))
theorem c__law_held : ckS 60 { N := N__law_held, sc := defScope (top 46), fo := fun _ => true, gl := gl, bi := bi } 60 (.ss b__law_held (defBody (top 46))) = true := by kernel_rfl
def N__law_leads : List Str := ["nodes", "pairs", "lead", "one", "two", "near", "far", "place"]
def b__law_leads : SS := (.cons (.asg (.nm 2) (.lrg false (.cons (.var 0) .nil))) (.cons (.fr (.tp (.cons (.nm 3) (.cons (.nm 4) .nil))) (.seq (.var 1)) (.cons (.asg (.tp (.cons (.nm 5) (.cons (.nm 6) .nil))) (.tup (.cons (.blt .min2 (.cons (.idx (.var 2) (.var 3)) (.cons (.idx (.var 2) (.var 4)) .nil))) (.cons (.blt .max2 (.cons (.idx (.var 2) (.var 3)) (.cons (.idx (.var 2) (.var 4)) .nil))) .nil)))) (.cons (.ite (.cmp .eq (.var 5) (.var 6)) (.cons (.ret (.con .non)) .nil) .nil) (.cons (.asg (.nm 2) (.lcm [7] (.seq (.var 2)) (.nm 7) (.con (.bl true)) (.ife (.cmp .eq (.var 7) (.var 6)) (.var 5) (.var 7)))) .nil)))) (.cons (.ret (.var 2)) .nil)))
theorem c__law_leads : ckS 60 { N := N__law_leads, sc := defScope (top 47), fo := fun _ => true, gl := gl, bi := bi } 60 (.ss b__law_leads (defBody (top 47))) = true := by kernel_rfl
def N__law_forest_lead : List Str := ["net", "forest", "lead", "n", "place"]
def b__law_forest_lead : SS := (.cons (.asg (.nm 2) (.app false 32 (.cons (.idx (.var 0) (.con (.int 0))) (.cons (.lcm [3] (.seq (.var 1)) (.nm 3) (.con (.bl true)) (.slc (.idx (.idx (.var 0) (.con (.int 2))) (.var 3)) false (.con .non) true (.con (.int 2)))) .nil)) [])) (.cons (.ret (.ife (.orr (.cmp .isn (.var 2) (.con .non)) (.cmp .ne (.lcm [4] (.seq (.var 2)) (.nm 4) (.cmp .ge (.var 4) (.idx (.var 0) (.con (.int 1)))) (.con (.int 1))) (.lst .nil))) (.con .non) (.var 2))) .nil))
theorem c__law_forest_lead : ckS 60 { N := N__law_forest_lead, sc := defScope (top 48), fo := fun _ => true, gl := gl, bi := bi } 60 (.ss b__law_forest_lead (defBody (top 48))) = true := by kernel_rfl
def N__law_port_lots : List Str := ["net", "lead", "found", "port", "other"]
def b__law_port_lots : SS := (.cons (.asg (.nm 2) (.chg (.lst .nil))) (.cons (.fr (.nm 3) (.rng (.cons (.idx (.var 0) (.con (.int 1))) .nil)) (.cons (.ite (.cmp .eq (.idx (.var 1) (.var 3)) (.var 3)) (.cons (.ex (.mth .append (.var 2) (.cons (.blt .tup1 (.cons (.lcm [4] (.rng (.cons (.idx (.var 0) (.con (.int 1))) .nil)) (.nm 4) (.cmp .eq (.idx (.var 1) (.var 4)) (.var 3)) (.var 4)) .nil)) .nil))) .nil) .nil) .nil)) (.cons (.ret (.blt .tup1 (.cons (.var 2) .nil))) .nil)))
theorem c__law_port_lots : ckS 60 { N := N__law_port_lots, sc := defScope (top 49), fo := fun _ => true, gl := gl, bi := bi } 60 (.ss b__law_port_lots (defBody (top 49))) = true := by kernel_rfl
def N__law_forests : List Str := ["net", "rows", "n", "found", "row", "lead", "k"]
def b__law_forests : SS := (.cons (.asg (.nm 1) (.lst (.cons (.tup .nil) .nil))) (.cons (.fr (.nm 2) (.rng (.cons (.blt .len (.cons (.idx (.var 0) (.con (.int 2))) .nil)) .nil)) (.cons (.asg (.nm 1) (.bin .add (.var 1) (.lcm [4] (.seq (.var 1)) (.nm 4) (.cmp .notn (.app false 32 (.cons (.idx (.var 0) (.con (.int 0))) (.cons (.lcm [6] (.seq (.bin .add (.var 4) (.tup (.cons (.var 2) .nil)))) (.nm 6) (.con (.bl true)) (.slc (.idx (.idx (.var 0) (.con (.int 2))) (.var 6)) false (.con .non) true (.con (.int 2)))) .nil)) []) (.con .non)) (.bin .add (.var 4) (.tup (.cons (.var 2) .nil)))))) .nil)) (.cons (.asg (.nm 3) (.chg (.lst .nil))) (.cons (.fr (.nm 4) (.seq (.blt .srt1 (.cons (.var 1) .nil))) (.cons (.asg (.nm 5) (.app false 33 (.cons (.var 0) (.cons (.var 4) .nil)) [])) (.cons (.ite (.cmp .notn (.var 5) (.con .non)) (.cons (.ex (.mth .append (.var 3) (.cons (.tup (.cons (.var 4) (.cons (.app false 34 (.cons (.var 0) (.cons (.var 5) .nil)) []) (.cons (.app false 28 (.cons (.lcm [2] (.seq (.var 4)) (.nm 2) (.con (.bl true)) (.idx (.idx (.idx (.var 0) (.con (.int 2))) (.var 2)) (.con (.int 2)))) .nil) []) .nil)))) .nil))) .nil) .nil) .nil))) (.cons (.ret (.var 3)) .nil)))))
theorem c__law_forests : ckS 60 { N := N__law_forests, sc := defScope (top 50), fo := fun _ => true, gl := gl, bi := bi } 60 (.ss b__law_forests (defBody (top 50))) = true := by kernel_rfl
def N__law_small_net : List Str := ["m", "nodes", "wires", "many", "ports", "net"]
def b__law_small_net : SS := (.cons (.asg (.nm 3) (.app false 21 (.cons (.var 0) (.cons (.bin .add (.var 1) (.con (.int 1))) .nil)) [])) (.cons (.asg (.nm 4) (.blt .min2 (.cons (.var 3) (.cons (.app false 21 (.cons (.var 0) (.cons (.con (.int 5)) .nil)) []) .nil)))) (.cons (.ite (.orr (.cmp .eq (.var 4) (.con (.int 0))) (.cmp .eq (.app false 21 (.cons (.var 0) (.cons (.con (.int 5)) .nil)) []) (.con (.int 0)))) (.cons (.asg (.nm 5) (.app false 30 (.cons (.var 0) (.cons (.var 3) (.cons (.var 4) (.cons (.var 2) .nil)))) [])) .nil) (.cons (.asg (.nm 5) (.app false 31 (.cons (.var 0) (.cons (.var 3) (.cons (.var 4) (.cons (.var 2) .nil)))) [])) .nil)) (.cons (.ret (.tup (.cons (.idx (.var 5) (.con (.int 0))) (.cons (.idx (.var 5) (.con (.int 1))) (.cons (.slc (.idx (.var 5) (.con (.int 2))) false (.con .non) true (.var 2)) .nil))))) .nil))))
theorem c__law_small_net : ckS 60 { N := N__law_small_net, sc := defScope (top 51), fo := fun _ => true, gl := gl, bi := bi } 60 (.ss b__law_small_net (defBody (top 51))) = true := by kernel_rfl
def N__law_heard : List Str := ["deed", "e", "found", "error"]
def b__law_heard : SS := (.cons (.asg (.tp (.cons (.nm 2) (.cons (.nm 3) .nil))) (.tup (.cons (.con .non) (.cons (.con .non) .nil)))) (.cons (.tra 0 2 3 1 [2, 3, 4]) (.cons (.ite (.cmp .isn (.var 3) (.con .non)) (.cons (.ret (.tup (.cons (.con (.str "told")) (.cons (.var 2) .nil)))) .nil) .nil) (.cons (.ite (.isi (.var 3) [.own 3]) (.cons (.ret (.tup (.cons (.con (.str "number")) (.cons (.fld "value" (.var 3)) .nil)))) .nil) .nil) (.cons (.ret (.tup (.cons (.ife (.isi (.var 3) [.own 2]) (.con (.str "net")) (.con (.str "paper"))) (.cons (.fld "place" (.var 3)) .nil)))) .nil)))))
theorem c__law_heard : ckS 60 { N := N__law_heard, sc := defScope (top 52), fo := fun _ => true, gl := glh, bi := bi, hd := true } 60 (.ss b__law_heard (defBody (top 52))) = true := by kernel_rfl
def N__law_right : List Str := ["m", "net", "turn", "row", "lead", "told", "due", "n"]
def b__law_right : SS := (.cons (.asg (.nm 1) (.app false 36 (.cons (.var 0) (.cons (.con (.int 6)) (.cons (.con (.int 8)) .nil))) [])) (.cons (.fr (.nm 2) (.rng (.cons (.con (.int 5)) .nil)) (.cons (.asg (.nm 3) (.blt .tup1 (.cons (.lcm [7] (.rng (.cons (.blt .len (.cons (.idx (.var 1) (.con (.int 2))) .nil)) .nil)) (.nm 7) (.cmp .eq (.app false 21 (.cons (.var 0) (.cons (.con (.int 2)) .nil)) []) (.con (.int 0))) (.var 7)) .nil))) (.cons (.asg (.nm 4) (.app false 33 (.cons (.var 1) (.cons (.var 3) .nil)) [])) (.cons (.asg (.nm 5) (.lst (.cons (.hrd 37 (.app false 16 (.cons (.var 1) (.cons (.var 3) .nil)) [])) (.cons (.hrd 37 (.apk 17 (.cons (.var 1) (.cons (.var 3) .nil)) [.inl 0, .inl 1])) (.cons (.hrd 37 (.app false 18 (.cons (.var 1) (.cons (.var 3) .nil)) [])) .nil))))) (.cons (.asg (.nm 6) (.lst (.cons (.tup (.cons (.con (.str "told")) (.cons (.cmp .notn (.var 4) (.con .non)) .nil))) (.cons (.tup (.cons (.con (.str "paper")) (.cons (.con (.str "forest")) .nil))) (.cons (.tup (.cons (.con (.str "paper")) (.cons (.con (.str "forest")) .nil))) .nil))))) (.cons (.ite (.cmp .notn (.var 4) (.con .non)) (.cons (.asg (.nm 6) (.lst (.cons (.idx (.var 6) (.con (.int 0))) (.cons (.tup (.cons (.con (.str "told")) (.cons (.app false 34 (.cons (.var 1) (.cons (.var 4) .nil)) []) .nil))) (.cons (.tup (.cons (.con (.str "told")) (.cons (.app false 28 (.cons (.lcm [7] (.seq (.var 3)) (.nm 7) (.con (.bl true)) (.idx (.idx (.idx (.var 1) (.con (.int 2))) (.var 7)) (.con (.int 2)))) .nil) []) .nil))) .nil))))) .nil) .nil) (.cons (.ite (.nt (.app false 24 (.cons (.var 5) (.cons (.var 6) .nil)) [])) (.cons (.ret (.con (.bl false))) .nil) .nil) (.cons (.ite (.an (.cmp .notn (.var 4) (.con .non)) (.nt (.app false 24 (.cons (.lst (.cons (.apk 16 (.cons (.var 3) (.cons (.var 1) .nil)) [.inl 1, .inl 0]) (.cons (.apk 18 (.cons (.var 3) (.cons (.var 1) .nil)) [.inl 1, .inl 0]) .nil))) (.cons (.lst (.cons (.con (.bl true)) (.cons (.idx (.idx (.var 6) (.con (.int 2))) (.con (.int 1))) .nil))) .nil)) []))) (.cons (.ret (.con (.bl false))) .nil) .nil) .nil)))))))) (.cons (.ret (.con (.bl true))) .nil)))
theorem c__law_right : ckS 60 { N := N__law_right, sc := defScope (top 53), fo := fun _ => true, gl := gl, bi := bi, lm := true } 60 (.ss b__law_right (defBody (top 53))) = true := by kernel_rfl
def N__law_told_right : List Str := ["m", "net", "some", "row", "lots", "weight"]
def b__law_told_right : SS := (.cons (.asg (.nm 1) (.app false 31 (.cons (.var 0) (.cons (.bin .add (.con (.int 1)) (.app false 21 (.cons (.var 0) (.cons (.con (.int 5)) .nil)) [])) (.cons (.con (.int 1)) (.cons (.con (.int 6)) .nil)))) [])) (.cons (.asg (.nm 2) (.app false 35 (.cons (.tup (.cons (.idx (.var 1) (.con (.int 0))) (.cons (.idx (.var 1) (.con (.int 1))) (.cons (.slc (.idx (.var 1) (.con (.int 2))) false (.con .non) true (.con (.int 8))) .nil)))) .nil) [])) (.cons (.ite (.cmp .eq (.var 2) (.lst .nil)) (.cons (.ret (.con (.bl true))) .nil) .nil) (.cons (.asg (.tp (.cons (.nm 3) (.cons (.nm 4) (.cons (.nm 5) .nil)))) (.app false 23 (.cons (.var 0) (.cons (.var 2) .nil)) [])) (.cons (.ret (.app false 24 (.cons (.lst (.cons (.app false 16 (.cons (.var 1) (.cons (.var 3) .nil)) []) (.cons (.app false 17 (.cons (.var 1) (.cons (.var 3) .nil)) []) (.cons (.app false 18 (.cons (.var 1) (.cons (.var 3) .nil)) []) .nil)))) (.cons (.lst (.cons (.con (.bl true)) (.cons (.var 4) (.cons (.var 5) .nil)))) .nil)) [])) .nil)))))
theorem c__law_told_right : ckS 60 { N := N__law_told_right, sc := defScope (top 54), fo := fun _ => true, gl := gl, bi := bi } 60 (.ss b__law_told_right (defBody (top 54))) = true := by kernel_rfl
def N__law_great_right : List Str := ["m", "wires", "net", "whole", "spot", "rest", "told", "due", "many", "ports", "node", "port", "wire"]
def b__law_great_right : SS := (.cons (.asg (.tp (.cons (.nm 8) (.cons (.nm 9) .nil))) (.tup (.cons (.bin .add (.con (.int 11)) (.app false 21 (.cons (.var 0) (.cons (.con (.int 30)) .nil)) [])) (.cons (.bin .add (.con (.int 1)) (.app false 21 (.cons (.var 0) (.cons (.con (.int 8)) .nil)) [])) .nil)))) (.cons (.asg (.nm 1) (.lcm [10] (.rng (.cons (.var 9) (.cons (.var 8) .nil))) (.nm 10) (.con (.bl true)) (.tup (.cons (.app false 21 (.cons (.var 0) (.cons (.var 10) .nil)) []) (.cons (.var 10) (.cons (.app false 29 (.cons (.var 0) .nil) []) .nil)))))) (.cons (.asg (.nm 2) (.tup (.cons (.var 8) (.cons (.var 9) (.cons (.blt .tup1 (.cons (.blt .srt1 (.cons (.var 1) .nil)) .nil)) .nil))))) (.cons (.asg (.nm 3) (.lrg true (.cons (.blt .len (.cons (.var 1) .nil)) .nil))) (.cons (.asg (.nm 4) (.app false 21 (.cons (.var 0) (.cons (.blt .len (.cons (.var 1) .nil)) .nil)) [])) (.cons (.asg (.nm 5) (.bin .add (.slc (.var 3) false (.con .non) true (.var 4)) (.slc (.var 3) true (.bin .add (.var 4) (.con (.int 1))) false (.con .non)))) (.cons (.asg (.nm 6) (.chg (.lst (.cons (.app false 16 (.cons (.var 2) (.cons (.var 3) .nil)) []) (.cons (.app false 17 (.cons (.var 2) (.cons (.var 3) .nil)) []) (.cons (.app false 18 (.cons (.var 2) (.cons (.var 3) .nil)) []) (.cons (.app false 16 (.cons (.var 2) (.cons (.var 5) .nil)) []) .nil))))))) (.cons (.ex (.mth .append (.var 6) (.cons (.hrd 37 (.app false 18 (.cons (.var 2) (.cons (.var 5) .nil)) [])) .nil))) (.cons (.asg (.nm 7) (.lst (.cons (.con (.bl true)) (.cons (.blt .tup1 (.cons (.lcm [11] (.rng (.cons (.var 9) .nil)) (.nm 11) (.con (.bl true)) (.tup (.cons (.var 11) .nil))) .nil)) (.cons (.app false 28 (.cons (.lcm [12] (.seq (.var 1)) (.nm 12) (.con (.bl true)) (.idx (.var 12) (.con (.int 2)))) .nil) []) (.cons (.con (.bl false)) (.cons (.tup (.cons (.con (.str "paper")) (.cons (.con (.str "forest")) .nil))) .nil))))))) (.cons (.ret (.app false 24 (.cons (.var 6) (.cons (.var 7) .nil)) [])) .nil))))))))))
theorem c__law_great_right : ckS 60 { N := N__law_great_right, sc := defScope (top 55), fo := fun _ => true, gl := gl, bi := bi, lm := true } 60 (.ss b__law_great_right (defBody (top 55))) = true := by kernel_rfl
def N__law_odd_right : List Str := ["m", "net", "odd", "bad", "fault", "told", "due"]
def b__law_odd_right : SS := (.cons (.asg (.nm 1) (.tup (.cons (.con (.int 3)) (.cons (.con (.int 2)) (.cons (.tup (.cons (.tup (.cons (.con (.int 0)) (.cons (.con (.int 1)) (.cons (.tup (.cons (.con (.int 1)) (.cons (.con (.int 2)) .nil))) .nil)))) (.cons (.tup (.cons (.con (.int 0)) (.cons (.con (.int 2)) (.cons (.tup (.cons (.con (.int 1)) (.cons (.con (.int 1)) .nil))) .nil)))) (.cons (.tup (.cons (.con (.int 1)) (.cons (.con (.int 2)) (.cons (.tup (.cons (.con (.int 2)) (.cons (.con (.int 1)) .nil))) .nil)))) .nil)))) .nil))))) (.cons (.asg (.nm 2) (.app false 23 (.cons (.var 0) (.cons (.lst (.cons (.con .non) (.cons (.lst (.cons (.con (.int 0)) .nil)) (.cons (.tup (.cons (.con (.int 0)) (.cons (.con (.int 0)) .nil))) (.cons (.tup (.cons (.con (.int 1)) (.cons (.con (.int 0)) .nil))) (.cons (.tup (.cons (.con (.int 3)) .nil)) (.cons (.tup (.cons (.neg (.con (.int 1))) .nil)) (.cons (.tup (.cons (.con (.bl true)) .nil)) (.cons (.tup (.cons (.con (.int 0)) (.cons (.con .non) .nil))) (.cons (.con (.str "0")) (.cons (.con (.int 1)) .nil))))))))))) .nil)) [])) (.cons (.asg (.nm 3) (.app false 23 (.cons (.var 0) (.cons (.lst (.cons (.con .non) (.cons (.tup (.cons (.con (.int 1)) (.cons (.con (.int 2)) (.cons (.tup .nil) .nil)))) (.cons (.tup (.cons (.con (.int 2)) (.cons (.con (.int 1)) (.cons (.tup (.cons (.tup (.cons (.con (.int 0)) (.cons (.con (.int 1)) (.cons (.tup (.cons (.con (.int 2)) (.cons (.con (.int 2)) .nil))) .nil)))) .nil)) .nil)))) (.cons (.tup (.cons (.con (.int 2)) (.cons (.con (.int 1)) (.cons (.lst (.cons (.tup (.cons (.con (.int 0)) (.cons (.con (.int 1)) (.cons (.tup (.cons (.con (.int 1)) (.cons (.con (.int 1)) .nil))) .nil)))) .nil)) .nil)))) .nil))))) .nil)) [])) (.cons (.asg (.nm 4) (.ife (.cmp .eq (.var 3) (.tup (.cons (.con (.int 1)) (.cons (.con (.int 2)) (.cons (.tup .nil) .nil))))) (.con (.str "ports")) (.ife (.cmp .eq (.var 3) (.tup (.cons (.con (.int 2)) (.cons (.con (.int 1)) (.cons (.tup (.cons (.tup (.cons (.con (.int 0)) (.cons (.con (.int 1)) (.cons (.tup (.cons (.con (.int 2)) (.cons (.con (.int 2)) .nil))) .nil)))) .nil)) .nil))))) (.con (.int 0)) (.con (.str "form"))))) (.cons (.asg (.nm 5) (.lst (.cons (.hrd 37 (.app false 16 (.cons (.var 3) (.cons (.var 2) .nil)) [])) (.cons (.hrd 37 (.app false 16 (.cons (.var 1) (.cons (.var 2) .nil)) [])) (.cons (.hrd 37 (.app false 17 (.cons (.var 3) (.cons (.var 2) .nil)) [])) (.cons (.hrd 37 (.app false 17 (.cons (.var 1) (.cons (.var 2) .nil)) [])) (.cons (.hrd 37 (.app false 18 (.cons (.var 1) (.cons (.var 2) .nil)) [])) (.cons (.hrd 37 (.app false 18 (.cons (.var 1) (.cons (.tup .nil) .nil)) [])) (.cons (.hrd 37 (.app false 16 (.cons (.tup (.cons (.con (.int 0)) (.cons (.con (.int 0)) (.cons (.tup .nil) .nil)))) (.cons (.tup .nil) .nil)) [])) (.cons (.hrd 37 (.app false 17 (.cons (.tup (.cons (.con (.int 2)) (.cons (.con (.int 2)) (.cons (.tup .nil) .nil)))) (.cons (.tup .nil) .nil)) [])) .nil)))))))))) (.cons (.asg (.nm 6) (.lst (.cons (.tup (.cons (.con (.str "net")) (.cons (.var 4) .nil))) (.cons (.tup (.cons (.con (.str "number")) (.cons (.var 2) .nil))) (.cons (.tup (.cons (.con (.str "net")) (.cons (.var 4) .nil))) (.cons (.tup (.cons (.con (.str "number")) (.cons (.var 2) .nil))) (.cons (.tup (.cons (.con (.str "number")) (.cons (.var 2) .nil))) (.cons (.tup (.cons (.con (.str "paper")) (.cons (.con (.str "forest")) .nil))) (.cons (.tup (.cons (.con (.str "told")) (.cons (.con (.bl true)) .nil))) .nil))))))))) (.cons (.ret (.app false 24 (.cons (.var 5) (.cons (.bin .add (.var 6) (.lst (.cons (.tup (.cons (.con (.str "told")) (.cons (.tup (.cons (.tup (.cons (.con (.int 0)) .nil)) (.cons (.tup (.cons (.con (.int 1)) .nil)) .nil))) .nil))) .nil))) .nil)) [])) .nil)))))))
theorem c__law_odd_right : ckS 60 { N := N__law_odd_right, sc := defScope (top 56), fo := fun _ => true, gl := gl, bi := bi, lm := true } 60 (.ss b__law_odd_right (defBody (top 56))) = true := by kernel_rfl
def N_law : List Str := ["script", "m", "turn"]
def b_law : SS := (.cons (.asg (.nm 1) (.app true 22 (.cons (.var 0) .nil) [])) (.cons (.fr (.nm 2) (.rng (.cons (.con (.int 3)) .nil)) (.cons (.ite (.orr (.nt (.app false 38 (.cons (.var 1) .nil) [])) (.nt (.app false 39 (.cons (.var 1) .nil) []))) (.cons (.ret (.con (.bl false))) .nil) .nil) .nil)) (.cons (.ret (.an (.app false 40 (.cons (.var 1) .nil) []) (.app false 41 (.cons (.var 1) .nil) []))) .nil)))
theorem c_law : ckS 60 { N := N_law, sc := defScope (top 57), fo := fun _ => true, gl := gl, bi := bi } 60 (.ss b_law (defBody (top 57))) = true := by kernel_rfl
end MI
end
section
set_option Elab.async false
set_option linter.all false
set_option maxRecDepth 100000
set_option maxHeartbeats 0
namespace MI
open PySem PySem.Spec PyProof.Rows L2
open He (Fa DefD)
abbrev hdW : PySem.W.OpenRow := PySem.W.OpenLaw.row PySem.Challenge.rw_portstell_k15_forests_judged
def dd (x : Str) (i : Nat) (dfl : List He.Dv) : DefD := ⟨(x, none), x, x, defArgs (top i), defBody (top i), defScope (top i), dfl, []⟩
def hdF1 : List DefD := [dd "is_whole" 6 [.non, .non], dd "is_row" 7 [.non], dd "are_wholes" 8 [.non, .non], dd "gcd" 9 [], dd "is_fraction" 12 [], dd "ratio" 13 [], dd "ratio_times" 14 [], dd "is_wire" 19 [], dd "net_fault" 20 [], dd "need_net" 21 [], dd "is_ascending" 23 [], dd "need_wires" 24 [], dd "led_together" 25 [], dd "lots_by" 26 [], dd "forest_lead" 28 [], dd "need_forest" 29 [], dd "is_forest" 30 [], dd "forest_lots" 31 [], dd "forest_weight" 32 [], dd "_law_mixed" 34 [], dd "_law_folded" 35 [], dd "_law_draw" 36 [], dd "_law_begun" 37 [], dd "_law_of" 38 [], dd "_law_like" 39 [], dd "_law_order" 40 [], dd "_law_common" 41 [], dd "_law_ratio" 42 [], dd "_law_times" 43 [], dd "_law_strength" 44 []]
def hdF2 : List DefD := [dd "_law_net" 45 [], dd "_law_held" 46 [], dd "_law_leads" 47 [], dd "_law_forest_lead" 48 [], dd "_law_port_lots" 49 [], dd "_law_forests" 50 [], dd "_law_small_net" 51 [], dd "_law_heard" 52 [], dd "_law_right" 53 [], dd "_law_told_right" 54 [], dd "_law_great_right" 55 [], dd "_law_odd_right" 56 [], dd "law" 57 []]
def hdF : List DefD := hdF1 ++ hdF2
def hdA0 : List Fa := [.glo "is_whole", .glo "is_row", .glo "are_wholes", .glo "gcd", .glo "is_fraction", .glo "ratio", .glo "ratio_times", .glo "is_wire", .glo "net_fault", .glo "need_net", .glo "is_ascending", .glo "need_wires", .glo "led_together", .glo "lots_by", .glo "forest_lead", .glo "need_forest", .glo "is_forest", .glo "forest_lots", .glo "forest_weight", .glo "_law_mixed", .glo "_law_folded", .glo "_law_draw", .glo "_law_begun", .glo "_law_of", .glo "_law_like", .glo "_law_order", .glo "_law_common", .glo "_law_ratio", .glo "_law_times", .glo "_law_strength"]
def hdA1 : List Fa := [.glo "_law_net", .glo "_law_held", .glo "_law_leads", .glo "_law_forest_lead", .glo "_law_port_lots", .glo "_law_forests", .glo "_law_small_net", .glo "_law_heard", .glo "_law_right", .glo "_law_told_right", .glo "_law_great_right", .glo "_law_odd_right", .glo "law", .glo "WireError", .glo "BadNet", .glo "BadNumber", .glo "BadPaper", .int "MOST_NODES" (48), .int "MOST_PORTS" (8), .int "MOST_WIRES" (40), .free "len", .free "abs", .free "min", .free "max", .free "int", .free "tuple", .free "list", .free "all", .free "any", .free "sum"]
def hdA2 : List Fa := [.free "range", .free "enumerate", .free "isinstance", .free "bool", .free "str", .free "dict", .free "zip", .free "sorted", .glo "ONE"]
def hdA : List Fa := hdA0 ++ hdA1 ++ hdA2
def hdL0 : List Str := ["is_whole", "is_row", "are_wholes", "gcd", "is_fraction", "ratio", "ratio_times", "is_wire", "net_fault", "need_net", "is_ascending", "need_wires", "led_together", "lots_by", "forest_lead", "need_forest", "is_forest", "forest_lots", "forest_weight", "_law_mixed", "_law_folded", "_law_draw", "_law_begun", "_law_of", "_law_like", "_law_order", "_law_common", "_law_ratio", "_law_times", "_law_strength"]
def hdL1 : List Str := ["_law_net", "_law_held", "_law_leads", "_law_forest_lead", "_law_port_lots", "_law_forests", "_law_small_net", "_law_heard", "_law_right", "_law_told_right", "_law_great_right", "_law_odd_right", "WireError", "BadNet", "BadNumber", "BadPaper", "ONE", "MOST_NODES", "MOST_PORTS", "MOST_WIRES"]
def hdL : List Str := hdL0 ++ hdL1
def hdR : List RsD := [⟨"BadNet", "place", "BadNet.__init__", defArgs ((C8.clsBody (top 2)).getD 0 (.Pass ⟨0, 0, 0, 0⟩)), defBody ((C8.clsBody (top 2)).getD 0 (.Pass ⟨0, 0, 0, 0⟩)), defScope ((C8.clsBody (top 2)).getD 0 (.Pass ⟨0, 0, 0, 0⟩))⟩, ⟨"BadNumber", "value", "BadNumber.__init__", defArgs ((C8.clsBody (top 3)).getD 0 (.Pass ⟨0, 0, 0, 0⟩)), defBody ((C8.clsBody (top 3)).getD 0 (.Pass ⟨0, 0, 0, 0⟩)), defScope ((C8.clsBody (top 3)).getD 0 (.Pass ⟨0, 0, 0, 0⟩))⟩, ⟨"BadPaper", "place", "BadPaper.__init__", defArgs ((C8.clsBody (top 4)).getD 0 (.Pass ⟨0, 0, 0, 0⟩)), defBody ((C8.clsBody (top 4)).getD 0 (.Pass ⟨0, 0, 0, 0⟩)), defScope ((C8.clsBody (top 4)).getD 0 (.Pass ⟨0, 0, 0, 0⟩))⟩]
def clsN : Nat → Str
  | 1 => "WireError"
  | 2 => "BadNet"
  | 3 => "BadNumber"
  | 4 => "BadPaper"
  | _ => ""
def subT : Nat → Nat → Option Bool
  | 2, 1 => some true
  | 2, 2 => some true
  | 2, 3 => some false
  | 2, 4 => some false
  | 3, 1 => some true
  | 3, 2 => some false
  | 3, 3 => some true
  | 3, 4 => some false
  | 4, 1 => some true
  | 4, 2 => some false
  | 4, 3 => some false
  | 4, 4 => some true
  | _, _ => none
def fldT : Nat → Str
  | 2 => "place"
  | 3 => "value"
  | 4 => "place"
  | _ => ""
/-- the defs that make lambdas -/
def lamQ : List (Str × Nat) := [("_law_right", 53), ("_law_great_right", 55), ("_law_odd_right", 56)]
def lamD : List He.Defn := lamQ.map fun d => (d.1, none)
def hdX (K : PySem.W.Frag) : Bool := decide ((lamD.map fun d => (He.cT K d).2).Nodup) && (He.tupB K "ONE" [.int (1), .int (1)] && (exfB K (He.ga K "BadNet") "place" && (exfB K (He.ga K "BadNumber") "value" && (exfB K (He.ga K "BadPaper") "place" && ((decide (PySem.W.kitOne K (.ref (He.ga K "BadNet")) (.ref (He.ga K "WireError")) = some true) && decide (PySem.W.exmOne K (.ref (He.ga K "BadNet")) (.ref (He.ga K "WireError")) = some true)) && ((decide (PySem.W.kitOne K (.ref (He.ga K "BadNet")) (.ref (He.ga K "BadNet")) = some true) && decide (PySem.W.exmOne K (.ref (He.ga K "BadNet")) (.ref (He.ga K "BadNet")) = some true)) && ((decide (PySem.W.kitOne K (.ref (He.ga K "BadNet")) (.ref (He.ga K "BadNumber")) = some false) && decide (PySem.W.exmOne K (.ref (He.ga K "BadNet")) (.ref (He.ga K "BadNumber")) = some false)) && ((decide (PySem.W.kitOne K (.ref (He.ga K "BadNet")) (.ref (He.ga K "BadPaper")) = some false) && decide (PySem.W.exmOne K (.ref (He.ga K "BadNet")) (.ref (He.ga K "BadPaper")) = some false)) && ((decide (PySem.W.kitOne K (.ref (He.ga K "BadNumber")) (.ref (He.ga K "WireError")) = some true) && decide (PySem.W.exmOne K (.ref (He.ga K "BadNumber")) (.ref (He.ga K "WireError")) = some true)) && ((decide (PySem.W.kitOne K (.ref (He.ga K "BadNumber")) (.ref (He.ga K "BadNet")) = some false) && decide (PySem.W.exmOne K (.ref (He.ga K "BadNumber")) (.ref (He.ga K "BadNet")) = some false)) && ((decide (PySem.W.kitOne K (.ref (He.ga K "BadNumber")) (.ref (He.ga K "BadNumber")) = some true) && decide (PySem.W.exmOne K (.ref (He.ga K "BadNumber")) (.ref (He.ga K "BadNumber")) = some true)) && ((decide (PySem.W.kitOne K (.ref (He.ga K "BadNumber")) (.ref (He.ga K "BadPaper")) = some false) && decide (PySem.W.exmOne K (.ref (He.ga K "BadNumber")) (.ref (He.ga K "BadPaper")) = some false)) && ((decide (PySem.W.kitOne K (.ref (He.ga K "BadPaper")) (.ref (He.ga K "WireError")) = some true) && decide (PySem.W.exmOne K (.ref (He.ga K "BadPaper")) (.ref (He.ga K "WireError")) = some true)) && ((decide (PySem.W.kitOne K (.ref (He.ga K "BadPaper")) (.ref (He.ga K "BadNet")) = some false) && decide (PySem.W.exmOne K (.ref (He.ga K "BadPaper")) (.ref (He.ga K "BadNet")) = some false)) && ((decide (PySem.W.kitOne K (.ref (He.ga K "BadPaper")) (.ref (He.ga K "BadNumber")) = some false) && decide (PySem.W.exmOne K (.ref (He.ga K "BadPaper")) (.ref (He.ga K "BadNumber")) = some false)) && ((decide (PySem.W.kitOne K (.ref (He.ga K "BadPaper")) (.ref (He.ga K "BadPaper")) = some true) && decide (PySem.W.exmOne K (.ref (He.ga K "BadPaper")) (.ref (He.ga K "BadPaper")) = some true))))))))))))))))))
abbrev hdK : PySem.W.Hook := hookM 6 hdA hdF hdR lamD hdX hdW.prog.main.file
def hdO (s : PySem.W.SharedT) : AlM := obsM 6 hdA hdF hdR lamD hdX hdW.prog.main.file (HandSHeadRun.getT s)
theorem hdO_eq (s : PySem.W.SharedT) : hdO s = hdK.obs s.abs := obsM_eq (HandSHeadRun.getT_eq s)
theorem hd_run (w : World) : HandSHeadRun.RunEq hdW (PySem.W.view hdW.prog [57]) hdK hdO 4000 hdL w := by
  intro os
  kernel_rfl
end MI
end
section
set_option Elab.async false
set_option linter.all false
set_option maxRecDepth 100000
set_option maxHeartbeats 4000000
namespace MI
open PySem PySem.Spec PyProof.Rows L2
open He (ga)
def prT0 : List Fn := [⟨3, 3, b_is_whole⟩, ⟨2, 2, b_is_row⟩, ⟨3, 4, b_are_wholes⟩, ⟨2, 2, b_gcd⟩, ⟨1, 1, b_is_fraction⟩, ⟨2, 3, b_ratio⟩, ⟨2, 2, b_ratio_times⟩, ⟨2, 2, b_is_wire⟩, ⟨1, 3, b_net_fault⟩, ⟨1, 2, b_need_net⟩, ⟨3, 5, b_is_ascending⟩, ⟨2, 2, b_need_wires⟩, ⟨2, 8, b_led_together⟩, ⟨2, 5, b_lots_by⟩, ⟨2, 5, b_forest_lead⟩, ⟨2, 3, b_need_forest⟩, ⟨2, 2, b_is_forest⟩, ⟨2, 2, b_forest_lots⟩, ⟨2, 4, b_forest_weight⟩, ⟨2, 3, b__law_mixed⟩]
def prT1 : List Fn := [⟨1, 4, b__law_folded⟩, ⟨2, 6, b__law_draw⟩, ⟨1, 3, b__law_begun⟩, ⟨2, 2, b__law_of⟩, ⟨2, 3, b__law_like⟩, ⟨2, 4, b__law_order⟩, ⟨2, 2, b__law_common⟩, ⟨2, 3, b__law_ratio⟩, ⟨1, 4, b__law_times⟩, ⟨1, 2, b__law_strength⟩, ⟨4, 8, b__law_net⟩, ⟨4, 12, b__law_held⟩, ⟨2, 8, b__law_leads⟩, ⟨2, 5, b__law_forest_lead⟩, ⟨2, 5, b__law_port_lots⟩, ⟨1, 7, b__law_forests⟩, ⟨3, 6, b__law_small_net⟩, ⟨1, 4, b__law_heard⟩, ⟨1, 8, b__law_right⟩, ⟨1, 6, b__law_told_right⟩]
def prT2 : List Fn := [⟨1, 13, b__law_great_right⟩, ⟨1, 7, b__law_odd_right⟩, ⟨1, 3, b_law⟩]
def prT : List Fn := prT0 ++ prT1 ++ prT2
def giOf (K : PySem.W.Frag) : GI := ⟨K, fun c => ga K (clsN c), fldT, lamQ.map (fun d => ((He.cT K (d.1, none)).2, (envOfC d.1 (defScope (top d.2)) 0 0 .none).qual ++ "<lambda>")), [], [], []⟩
theorem tab_uni {α β : Type} : ∀ {l : List (α × β)}, (l.map (·.1)).Nodup → ∀ {a : α} {b : β}, (a, b) ∈ l → ∀ p ∈ l, p.1 = a → p.2 = b
  | [], _, _, _, h, _, _, _ => absurd h List.not_mem_nil
  | q :: l, nd, a, b, h, p, hp, e => by
    rw [List.map_cons, List.nodup_cons] at nd
    rcases List.mem_cons.mp h with h1 | h1
    · rcases List.mem_cons.mp hp with h2 | h2
      · rw [h2, ← h1]
      · exact absurd (List.mem_map.mpr ⟨p, h2, by rw [e, ← h1]⟩) nd.1
    · rcases List.mem_cons.mp hp with h2 | h2
      · subst h2
        exact absurd (List.mem_map.mpr ⟨(a, b), h1, e.symm⟩) nd.1
      · exact tab_uni nd.2 h1 p h2 e
section
variable {K : PySem.W.Frag} {h base : Heap} {mg : Str → Option Value}
abbrev Told (h : Heap) (K : PySem.W.Frag) : Prop := SaysM hdA hdF hdR lamD hdX hdW.prog.main.file h K
theorem df_fun (c : Told h K) {i : Nat} {d : He.DefD} (e : hdF[i]? = some d) : ∃ fd, FunD K d.name d.qual d.params d.body d.scope (d.dvs K) (d.kws K) (He.fAd K d.at_) fd := c.d.def_ i e
theorem df_glo (X : K.In h) (G : h.Ns mainGlobals mg) (c : Told h K) {i : Nat} {x : Str} (e : hdA[i]? = some (.glo x)) : mg x = some (.ref (ga K x)) := He.glo_ok X G (c.d.fact i e)
abbrev TabsB (K : PySem.W.Frag) (base : Heap) (mg : Str → Option Value) : Prop := ∀ p ∈ lamD.map (He.cT K), LamX.TabB base mg p.1 p.2
theorem lam_nd (c : Told h K) : (lamD.map fun d => (He.cT K d).2).Nodup := by
  have z := c.more
  unfold hdX at z
  simp only [Bool.and_eq_true, decide_eq_true_eq] at z
  first | exact z.1 | exact z
theorem lam_of (c : Told h K) (TB : TabsB K base mg) {x : Str} {j : Nat} {params : Arguments} {body : List Stmt} {dvs : List V} {kws : List (Str × V)} {fd : FuncData} (hx : (x, j) ∈ lamQ) (F : FunD K x x params body (defScope (top j)) dvs kws (He.fAd K (x, none)) fd) : LmF (giOf K) base mg fd x (defScope (top j)) := by
  obtain ⟨cc, hcc⟩ : ∃ cc, fd.code = .ref cc := by
    obtain ⟨oc, od, dV, kV, doc, pm, an, cdv, ct, osl, rfl, lk, hcd, _, _⟩ := F.ex
    exact He.codeIn_ref hcd
  have e1 : (He.cT K (x, none)).1 = cc := by
    obtain ⟨oc, od, dV, kV, doc, pm, an, cdv, ct, osl, e, lk, hcd, _, _⟩ := F.ex
    exact He.codeOf_eq lk hcc
  have hm : (x, none) ∈ lamD := List.mem_map.mpr ⟨(x, j), hx, rfl⟩
  have tb := TB _ (List.mem_map.mpr ⟨_, hm, rfl⟩)
  rw [e1] at tb
  refine ⟨rfl, rfl, rfl, cc, _, hcc, tb, fun L f cd => ?_⟩
  have hin : ((He.cT K (x, none)).2, (envOfC x (defScope (top j)) L f cd).qual ++ "<lambda>") ∈ (giOf K).T := List.mem_map.mpr ⟨(x, j), hx, rfl⟩
  refine ⟨hin, tab_uni ?_ hin⟩
  have nd := lam_nd c
  unfold lamD at nd
  rw [List.map_map] at nd
  show (List.map (fun q => q.1) (lamQ.map (fun d => ((He.cT K (d.1, none)).2, (envOfC d.1 (defScope (top d.2)) 0 0 .none).qual ++ "<lambda>")))).Nodup
  rw [List.map_map]
  exact nd
theorem s_is_whole_ : FnScope N_is_whole ["value", "least", "most"] (defScope (top 6)) := ⟨rfl, rfl, rfl, by decide +kernel, rfl, by decide +kernel, by decide +kernel⟩
theorem d_is_whole (X : K.In h) (G : h.Ns mainGlobals mg) (c : Told h K) : DefOk (giOf K) base mg prT gl bi "is_whole" 0 3 [.non, .non] [] := by
  obtain ⟨fd, F⟩ := df_fun c (i := 0) (d := dd "is_whole" 6 [.non, .non]) rfl
  exact def1 (G := giOf K) (ps := ["value", "least", "most"]) (N := N_is_whole) (b := b_is_whole) (m := 60) (n := 60) (dvs := [.non, .non]) F (by simp) (by decide) (df_glo X G c (i := 0) rfl) rfl s_is_whole_ s_is_whole_.nd (fun j hj T kV doc pm an cdv ct us its h1 h2 => match j, hj, us, its, h1, h2 with
    | 0, _, [_], [_, _], _, _ => ⟨_, rfl, rfl⟩
    | 1, _, [_, _], [_, _], _, _ => ⟨_, rfl, rfl⟩
    | 2, _, [_, _, _], [_, _], _, _ => ⟨_, rfl, rfl⟩) c_is_whole rfl
theorem s_is_row_ : FnScope N_is_row ["value", "length"] (defScope (top 7)) := ⟨rfl, rfl, rfl, by decide +kernel, rfl, by decide +kernel, by decide +kernel⟩
theorem d_is_row (X : K.In h) (G : h.Ns mainGlobals mg) (c : Told h K) : DefOk (giOf K) base mg prT gl bi "is_row" 1 2 [.non] [] := by
  obtain ⟨fd, F⟩ := df_fun c (i := 1) (d := dd "is_row" 7 [.non]) rfl
  exact def1 (G := giOf K) (ps := ["value", "length"]) (N := N_is_row) (b := b_is_row) (m := 60) (n := 60) (dvs := [.non]) F (by simp) (by decide) (df_glo X G c (i := 1) rfl) rfl s_is_row_ s_is_row_.nd (fun j hj T kV doc pm an cdv ct us its h1 h2 => match j, hj, us, its, h1, h2 with
    | 0, _, [_], [_], _, _ => ⟨_, rfl, rfl⟩
    | 1, _, [_, _], [_], _, _ => ⟨_, rfl, rfl⟩) c_is_row rfl
theorem s_are_wholes_ : FnScope N_are_wholes ["value", "least", "most"] (defScope (top 8)) := ⟨rfl, rfl, rfl, by decide +kernel, rfl, by decide +kernel, by decide +kernel⟩
theorem d_are_wholes (X : K.In h) (G : h.Ns mainGlobals mg) (c : Told h K) : DefOk (giOf K) base mg prT gl bi "are_wholes" 2 3 [.non, .non] [] := by
  obtain ⟨fd, F⟩ := df_fun c (i := 2) (d := dd "are_wholes" 8 [.non, .non]) rfl
  exact def1 (G := giOf K) (ps := ["value", "least", "most"]) (N := N_are_wholes) (b := b_are_wholes) (m := 60) (n := 60) (dvs := [.non, .non]) F (by simp) (by decide) (df_glo X G c (i := 2) rfl) rfl s_are_wholes_ s_are_wholes_.nd (fun j hj T kV doc pm an cdv ct us its h1 h2 => match j, hj, us, its, h1, h2 with
    | 0, _, [_], [_, _], _, _ => ⟨_, rfl, rfl⟩
    | 1, _, [_, _], [_, _], _, _ => ⟨_, rfl, rfl⟩
    | 2, _, [_, _, _], [_, _], _, _ => ⟨_, rfl, rfl⟩) c_are_wholes rfl
theorem s_gcd_ : FnScope N_gcd ["one", "other"] (defScope (top 9)) := ⟨rfl, rfl, rfl, by decide +kernel, rfl, by decide +kernel, by decide +kernel⟩
theorem d_gcd (X : K.In h) (G : h.Ns mainGlobals mg) (c : Told h K) : DefOk (giOf K) base mg prT gl bi "gcd" 3 2 [] [] := by
  obtain ⟨fd, F⟩ := df_fun c (i := 3) (d := dd "gcd" 9 []) rfl
  exact def0 (G := giOf K) (ps := ["one", "other"]) (N := N_gcd) (b := b_gcd) (m := 60) (n := 60) (lm := false) F (fun z => by cases z) (df_glo X G c (i := 3) rfl) rfl s_gcd_ s_gcd_.nd (fun _ _ _ _ _ _ us hl => match us, hl with | [_, _], _ => rfl) (fun p hp => absurd hp List.not_mem_nil) c_gcd
theorem s_is_fraction_ : FnScope N_is_fraction ["value"] (defScope (top 12)) := ⟨rfl, rfl, rfl, by decide +kernel, rfl, by decide +kernel, by decide +kernel⟩
theorem d_is_fraction (X : K.In h) (G : h.Ns mainGlobals mg) (c : Told h K) : DefOk (giOf K) base mg prT gl bi "is_fraction" 4 1 [] [] := by
  obtain ⟨fd, F⟩ := df_fun c (i := 4) (d := dd "is_fraction" 12 []) rfl
  exact def0 (G := giOf K) (ps := ["value"]) (N := N_is_fraction) (b := b_is_fraction) (m := 60) (n := 60) (lm := false) F (fun z => by cases z) (df_glo X G c (i := 4) rfl) rfl s_is_fraction_ s_is_fraction_.nd (fun _ _ _ _ _ _ us hl => match us, hl with | [_], _ => rfl) (fun p hp => absurd hp List.not_mem_nil) c_is_fraction
theorem s_ratio_ : FnScope N_ratio ["upper", "under"] (defScope (top 13)) := ⟨rfl, rfl, rfl, by decide +kernel, rfl, by decide +kernel, by decide +kernel⟩
theorem d_ratio (X : K.In h) (G : h.Ns mainGlobals mg) (c : Told h K) : DefOk (giOf K) base mg prT gl bi "ratio" 5 2 [] [] := by
  obtain ⟨fd, F⟩ := df_fun c (i := 5) (d := dd "ratio" 13 []) rfl
  exact def0 (G := giOf K) (ps := ["upper", "under"]) (N := N_ratio) (b := b_ratio) (m := 60) (n := 60) (lm := false) F (fun z => by cases z) (df_glo X G c (i := 5) rfl) rfl s_ratio_ s_ratio_.nd (fun _ _ _ _ _ _ us hl => match us, hl with | [_, _], _ => rfl) (fun p hp => absurd hp List.not_mem_nil) c_ratio
theorem s_ratio_times_ : FnScope N_ratio_times ["one", "other"] (defScope (top 14)) := ⟨rfl, rfl, rfl, by decide +kernel, rfl, by decide +kernel, by decide +kernel⟩
theorem d_ratio_times (X : K.In h) (G : h.Ns mainGlobals mg) (c : Told h K) : DefOk (giOf K) base mg prT gl bi "ratio_times" 6 2 [] [] := by
  obtain ⟨fd, F⟩ := df_fun c (i := 6) (d := dd "ratio_times" 14 []) rfl
  exact def0 (G := giOf K) (ps := ["one", "other"]) (N := N_ratio_times) (b := b_ratio_times) (m := 60) (n := 60) (lm := false) F (fun z => by cases z) (df_glo X G c (i := 6) rfl) rfl s_ratio_times_ s_ratio_times_.nd (fun _ _ _ _ _ _ us hl => match us, hl with | [_, _], _ => rfl) (fun p hp => absurd hp List.not_mem_nil) c_ratio_times
theorem s_is_wire_ : FnScope N_is_wire ["nodes", "value"] (defScope (top 19)) := ⟨rfl, rfl, rfl, by decide +kernel, rfl, by decide +kernel, by decide +kernel⟩
theorem d_is_wire (X : K.In h) (G : h.Ns mainGlobals mg) (c : Told h K) : DefOk (giOf K) base mg prT gl bi "is_wire" 7 2 [] [] := by
  obtain ⟨fd, F⟩ := df_fun c (i := 7) (d := dd "is_wire" 19 []) rfl
  exact def0 (G := giOf K) (ps := ["nodes", "value"]) (N := N_is_wire) (b := b_is_wire) (m := 60) (n := 60) (lm := false) F (fun z => by cases z) (df_glo X G c (i := 7) rfl) rfl s_is_wire_ s_is_wire_.nd (fun _ _ _ _ _ _ us hl => match us, hl with | [_, _], _ => rfl) (fun p hp => absurd hp List.not_mem_nil) c_is_wire
theorem s_net_fault_ : FnScope N_net_fault ["value"] (defScope (top 20)) := ⟨rfl, rfl, rfl, by decide +kernel, rfl, by decide +kernel, by decide +kernel⟩
theorem d_net_fault (X : K.In h) (G : h.Ns mainGlobals mg) (c : Told h K) : DefOk (giOf K) base mg prT gl bi "net_fault" 8 1 [] [] := by
  obtain ⟨fd, F⟩ := df_fun c (i := 8) (d := dd "net_fault" 20 []) rfl
  exact def0 (G := giOf K) (ps := ["value"]) (N := N_net_fault) (b := b_net_fault) (m := 60) (n := 60) (lm := false) F (fun z => by cases z) (df_glo X G c (i := 8) rfl) rfl s_net_fault_ s_net_fault_.nd (fun _ _ _ _ _ _ us hl => match us, hl with | [_], _ => rfl) (fun p hp => absurd hp List.not_mem_nil) c_net_fault
theorem s_need_net_ : FnScope N_need_net ["net"] (defScope (top 21)) := ⟨rfl, rfl, rfl, by decide +kernel, rfl, by decide +kernel, by decide +kernel⟩
theorem d_need_net (X : K.In h) (G : h.Ns mainGlobals mg) (c : Told h K) : DefOk (giOf K) base mg prT gl bi "need_net" 9 1 [] [] := by
  obtain ⟨fd, F⟩ := df_fun c (i := 9) (d := dd "need_net" 21 []) rfl
  exact def0 (G := giOf K) (ps := ["net"]) (N := N_need_net) (b := b_need_net) (m := 60) (n := 60) (lm := false) F (fun z => by cases z) (df_glo X G c (i := 9) rfl) rfl s_need_net_ s_need_net_.nd (fun _ _ _ _ _ _ us hl => match us, hl with | [_], _ => rfl) (fun p hp => absurd hp List.not_mem_nil) c_need_net
theorem s_is_ascending_ : FnScope N_is_ascending ["value", "least", "most"] (defScope (top 23)) := ⟨rfl, rfl, rfl, by decide +kernel, rfl, by decide +kernel, by decide +kernel⟩
theorem d_is_ascending (X : K.In h) (G : h.Ns mainGlobals mg) (c : Told h K) : DefOk (giOf K) base mg prT gl bi "is_ascending" 10 3 [] [] := by
  obtain ⟨fd, F⟩ := df_fun c (i := 10) (d := dd "is_ascending" 23 []) rfl
  exact def0 (G := giOf K) (ps := ["value", "least", "most"]) (N := N_is_ascending) (b := b_is_ascending) (m := 60) (n := 60) (lm := false) F (fun z => by cases z) (df_glo X G c (i := 10) rfl) rfl s_is_ascending_ s_is_ascending_.nd (fun _ _ _ _ _ _ us hl => match us, hl with | [_, _, _], _ => rfl) (fun p hp => absurd hp List.not_mem_nil) c_is_ascending
theorem s_need_wires_ : FnScope N_need_wires ["net", "forest"] (defScope (top 24)) := ⟨rfl, rfl, rfl, by decide +kernel, rfl, by decide +kernel, by decide +kernel⟩
theorem d_need_wires (X : K.In h) (G : h.Ns mainGlobals mg) (c : Told h K) : DefOk (giOf K) base mg prT gl bi "need_wires" 11 2 [] [] := by
  obtain ⟨fd, F⟩ := df_fun c (i := 11) (d := dd "need_wires" 24 []) rfl
  exact def0 (G := giOf K) (ps := ["net", "forest"]) (N := N_need_wires) (b := b_need_wires) (m := 60) (n := 60) (lm := false) F (fun z => by cases z) (df_glo X G c (i := 11) rfl) rfl s_need_wires_ s_need_wires_.nd (fun _ _ _ _ _ _ us hl => match us, hl with | [_, _], _ => rfl) (fun p hp => absurd hp List.not_mem_nil) c_need_wires
theorem s_led_together_ : FnScope N_led_together ["nodes", "pairs"] (defScope (top 25)) := ⟨rfl, rfl, rfl, by decide +kernel, rfl, by decide +kernel, by decide +kernel⟩
theorem d_led_together (X : K.In h) (G : h.Ns mainGlobals mg) (c : Told h K) : DefOk (giOf K) base mg prT gl bi "led_together" 12 2 [] [] := by
  obtain ⟨fd, F⟩ := df_fun c (i := 12) (d := dd "led_together" 25 []) rfl
  exact def0 (G := giOf K) (ps := ["nodes", "pairs"]) (N := N_led_together) (b := b_led_together) (m := 60) (n := 60) (lm := false) F (fun z => by cases z) (df_glo X G c (i := 12) rfl) rfl s_led_together_ s_led_together_.nd (fun _ _ _ _ _ _ us hl => match us, hl with | [_, _], _ => rfl) (fun p hp => absurd hp List.not_mem_nil) c_led_together
theorem s_lots_by_ : FnScope N_lots_by ["lead", "ports"] (defScope (top 26)) := ⟨rfl, rfl, rfl, by decide +kernel, rfl, by decide +kernel, by decide +kernel⟩
theorem d_lots_by (X : K.In h) (G : h.Ns mainGlobals mg) (c : Told h K) : DefOk (giOf K) base mg prT gl bi "lots_by" 13 2 [] [] := by
  obtain ⟨fd, F⟩ := df_fun c (i := 13) (d := dd "lots_by" 26 []) rfl
  exact def0 (G := giOf K) (ps := ["lead", "ports"]) (N := N_lots_by) (b := b_lots_by) (m := 60) (n := 60) (lm := false) F (fun z => by cases z) (df_glo X G c (i := 13) rfl) rfl s_lots_by_ s_lots_by_.nd (fun _ _ _ _ _ _ us hl => match us, hl with | [_, _], _ => rfl) (fun p hp => absurd hp List.not_mem_nil) c_lots_by
theorem s_forest_lead_ : FnScope N_forest_lead ["net", "forest"] (defScope (top 28)) := ⟨rfl, rfl, rfl, by decide +kernel, rfl, by decide +kernel, by decide +kernel⟩
theorem d_forest_lead (X : K.In h) (G : h.Ns mainGlobals mg) (c : Told h K) : DefOk (giOf K) base mg prT gl bi "forest_lead" 14 2 [] [] := by
  obtain ⟨fd, F⟩ := df_fun c (i := 14) (d := dd "forest_lead" 28 []) rfl
  exact def0 (G := giOf K) (ps := ["net", "forest"]) (N := N_forest_lead) (b := b_forest_lead) (m := 60) (n := 60) (lm := false) F (fun z => by cases z) (df_glo X G c (i := 14) rfl) rfl s_forest_lead_ s_forest_lead_.nd (fun _ _ _ _ _ _ us hl => match us, hl with | [_, _], _ => rfl) (fun p hp => absurd hp List.not_mem_nil) c_forest_lead
theorem s_need_forest_ : FnScope N_need_forest ["net", "forest"] (defScope (top 29)) := ⟨rfl, rfl, rfl, by decide +kernel, rfl, by decide +kernel, by decide +kernel⟩
theorem d_need_forest (X : K.In h) (G : h.Ns mainGlobals mg) (c : Told h K) : DefOk (giOf K) base mg prT gl bi "need_forest" 15 2 [] [] := by
  obtain ⟨fd, F⟩ := df_fun c (i := 15) (d := dd "need_forest" 29 []) rfl
  exact def0 (G := giOf K) (ps := ["net", "forest"]) (N := N_need_forest) (b := b_need_forest) (m := 60) (n := 60) (lm := false) F (fun z => by cases z) (df_glo X G c (i := 15) rfl) rfl s_need_forest_ s_need_forest_.nd (fun _ _ _ _ _ _ us hl => match us, hl with | [_, _], _ => rfl) (fun p hp => absurd hp List.not_mem_nil) c_need_forest
theorem s_is_forest_ : FnScope N_is_forest ["net", "forest"] (defScope (top 30)) := ⟨rfl, rfl, rfl, by decide +kernel, rfl, by decide +kernel, by decide +kernel⟩
theorem d_is_forest (X : K.In h) (G : h.Ns mainGlobals mg) (c : Told h K) : DefOk (giOf K) base mg prT gl bi "is_forest" 16 2 [] [(["forest", "net"], [1, 0])] := by
  obtain ⟨fd, F⟩ := df_fun c (i := 16) (d := dd "is_forest" 30 []) rfl
  exact def0 (G := giOf K) (ps := ["net", "forest"]) (N := N_is_forest) (b := b_is_forest) (m := 60) (n := 60) (lm := false) F (fun z => by cases z) (df_glo X G c (i := 16) rfl) rfl s_is_forest_ s_is_forest_.nd (fun _ _ _ _ _ _ us hl => match us, hl with | [_, _], _ => rfl) (fun p hp => by
    simp only [List.mem_singleton] at hp
    subst hp
    exact kb0 F ["forest", "net"] [1, 0] fun _ _ _ _ _ _ ws hl => match ws, hl with | [_, _], _ => rfl) c_is_forest
theorem s_forest_lots_ : FnScope N_forest_lots ["net", "forest"] (defScope (top 31)) := ⟨rfl, rfl, rfl, by decide +kernel, rfl, by decide +kernel, by decide +kernel⟩
theorem d_forest_lots (X : K.In h) (G : h.Ns mainGlobals mg) (c : Told h K) : DefOk (giOf K) base mg prT gl bi "forest_lots" 17 2 [] [(["net", "forest"], [0, 1])] := by
  obtain ⟨fd, F⟩ := df_fun c (i := 17) (d := dd "forest_lots" 31 []) rfl
  exact def0 (G := giOf K) (ps := ["net", "forest"]) (N := N_forest_lots) (b := b_forest_lots) (m := 60) (n := 60) (lm := false) F (fun z => by cases z) (df_glo X G c (i := 17) rfl) rfl s_forest_lots_ s_forest_lots_.nd (fun _ _ _ _ _ _ us hl => match us, hl with | [_, _], _ => rfl) (fun p hp => by
    simp only [List.mem_singleton] at hp
    subst hp
    exact kb0 F ["net", "forest"] [0, 1] fun _ _ _ _ _ _ ws hl => match ws, hl with | [_, _], _ => rfl) c_forest_lots
theorem s_forest_weight_ : FnScope N_forest_weight ["net", "forest"] (defScope (top 32)) := ⟨rfl, rfl, rfl, by decide +kernel, rfl, by decide +kernel, by decide +kernel⟩
theorem d_forest_weight (X : K.In h) (G : h.Ns mainGlobals mg) (c : Told h K) : DefOk (giOf K) base mg prT gl bi "forest_weight" 18 2 [] [(["forest", "net"], [1, 0])] := by
  obtain ⟨fd, F⟩ := df_fun c (i := 18) (d := dd "forest_weight" 32 []) rfl
  exact def0 (G := giOf K) (ps := ["net", "forest"]) (N := N_forest_weight) (b := b_forest_weight) (m := 60) (n := 60) (lm := false) F (fun z => by cases z) (df_glo X G c (i := 18) rfl) rfl s_forest_weight_ s_forest_weight_.nd (fun _ _ _ _ _ _ us hl => match us, hl with | [_, _], _ => rfl) (fun p hp => by
    simp only [List.mem_singleton] at hp
    subst hp
    exact kb0 F ["forest", "net"] [1, 0] fun _ _ _ _ _ _ ws hl => match ws, hl with | [_, _], _ => rfl) c_forest_weight
theorem s__law_mixed_ : FnScope N__law_mixed ["cell", "n"] (defScope (top 34)) := ⟨rfl, rfl, rfl, by decide +kernel, rfl, by decide +kernel, by decide +kernel⟩
theorem d__law_mixed (X : K.In h) (G : h.Ns mainGlobals mg) (c : Told h K) : DefOk (giOf K) base mg prT gl bi "_law_mixed" 19 2 [] [] := by
  obtain ⟨fd, F⟩ := df_fun c (i := 19) (d := dd "_law_mixed" 34 []) rfl
  exact def0 (G := giOf K) (ps := ["cell", "n"]) (N := N__law_mixed) (b := b__law_mixed) (m := 60) (n := 60) (lm := false) F (fun z => by cases z) (df_glo X G c (i := 19) rfl) rfl s__law_mixed_ s__law_mixed_.nd (fun _ _ _ _ _ _ us hl => match us, hl with | [_, _], _ => rfl) (fun p hp => absurd hp List.not_mem_nil) c__law_mixed
theorem s__law_folded_ : FnScope N__law_folded ["script"] (defScope (top 35)) := ⟨rfl, rfl, rfl, by decide +kernel, rfl, by decide +kernel, by decide +kernel⟩
theorem d__law_folded (X : K.In h) (G : h.Ns mainGlobals mg) (c : Told h K) : DefOk (giOf K) base mg prT gl bi "_law_folded" 20 1 [] [] := by
  obtain ⟨fd, F⟩ := df_fun c (i := 20) (d := dd "_law_folded" 35 []) rfl
  exact def0 (G := giOf K) (ps := ["script"]) (N := N__law_folded) (b := b__law_folded) (m := 60) (n := 60) (lm := false) F (fun z => by cases z) (df_glo X G c (i := 20) rfl) rfl s__law_folded_ s__law_folded_.nd (fun _ _ _ _ _ _ us hl => match us, hl with | [_], _ => rfl) (fun p hp => absurd hp List.not_mem_nil) c__law_folded
theorem s__law_draw_ : FnScope N__law_draw ["m", "limit"] (defScope (top 36)) := ⟨rfl, rfl, rfl, by decide +kernel, rfl, by decide +kernel, by decide +kernel⟩
theorem d__law_draw (X : K.In h) (G : h.Ns mainGlobals mg) (c : Told h K) : DefOk (giOf K) base mg prT gl bi "_law_draw" 21 2 [] [] := by
  obtain ⟨fd, F⟩ := df_fun c (i := 21) (d := dd "_law_draw" 36 []) rfl
  exact def0 (G := giOf K) (ps := ["m", "limit"]) (N := N__law_draw) (b := b__law_draw) (m := 60) (n := 60) (lm := false) F (fun z => by cases z) (df_glo X G c (i := 21) rfl) rfl s__law_draw_ s__law_draw_.nd (fun _ _ _ _ _ _ us hl => match us, hl with | [_, _], _ => rfl) (fun p hp => absurd hp List.not_mem_nil) c__law_draw
theorem s__law_begun_ : FnScope N__law_begun ["script"] (defScope (top 37)) := ⟨rfl, rfl, rfl, by decide +kernel, rfl, by decide +kernel, by decide +kernel⟩
theorem d__law_begun (X : K.In h) (G : h.Ns mainGlobals mg) (c : Told h K) : DefOk (giOf K) base mg prT gl bi "_law_begun" 22 1 [] [] := by
  obtain ⟨fd, F⟩ := df_fun c (i := 22) (d := dd "_law_begun" 37 []) rfl
  exact def0 (G := giOf K) (ps := ["script"]) (N := N__law_begun) (b := b__law_begun) (m := 60) (n := 60) (lm := false) F (fun z => by cases z) (df_glo X G c (i := 22) rfl) rfl s__law_begun_ s__law_begun_.nd (fun _ _ _ _ _ _ us hl => match us, hl with | [_], _ => rfl) (fun p hp => absurd hp List.not_mem_nil) c__law_begun
theorem s__law_of_ : FnScope N__law_of ["m", "some"] (defScope (top 38)) := ⟨rfl, rfl, rfl, by decide +kernel, rfl, by decide +kernel, by decide +kernel⟩
theorem d__law_of (X : K.In h) (G : h.Ns mainGlobals mg) (c : Told h K) : DefOk (giOf K) base mg prT gl bi "_law_of" 23 2 [] [] := by
  obtain ⟨fd, F⟩ := df_fun c (i := 23) (d := dd "_law_of" 38 []) rfl
  exact def0 (G := giOf K) (ps := ["m", "some"]) (N := N__law_of) (b := b__law_of) (m := 60) (n := 60) (lm := false) F (fun z => by cases z) (df_glo X G c (i := 23) rfl) rfl s__law_of_ s__law_of_.nd (fun _ _ _ _ _ _ us hl => match us, hl with | [_, _], _ => rfl) (fun p hp => absurd hp List.not_mem_nil) c__law_of
theorem s__law_like_ : FnScope N__law_like ["got", "due"] (defScope (top 39)) := ⟨rfl, rfl, rfl, by decide +kernel, rfl, by decide +kernel, by decide +kernel⟩
theorem d__law_like (X : K.In h) (G : h.Ns mainGlobals mg) (c : Told h K) : DefOk (giOf K) base mg prT gl bi "_law_like" 24 2 [] [] := by
  obtain ⟨fd, F⟩ := df_fun c (i := 24) (d := dd "_law_like" 39 []) rfl
  exact def0 (G := giOf K) (ps := ["got", "due"]) (N := N__law_like) (b := b__law_like) (m := 60) (n := 60) (lm := false) F (fun z => by cases z) (df_glo X G c (i := 24) rfl) rfl s__law_like_ s__law_like_.nd (fun _ _ _ _ _ _ us hl => match us, hl with | [_, _], _ => rfl) (fun p hp => absurd hp List.not_mem_nil) c__law_like
theorem s__law_order_ : FnScope N__law_order ["m", "many"] (defScope (top 40)) := ⟨rfl, rfl, rfl, by decide +kernel, rfl, by decide +kernel, by decide +kernel⟩
theorem d__law_order (X : K.In h) (G : h.Ns mainGlobals mg) (c : Told h K) : DefOk (giOf K) base mg prT gl bi "_law_order" 25 2 [] [] := by
  obtain ⟨fd, F⟩ := df_fun c (i := 25) (d := dd "_law_order" 40 []) rfl
  exact def0 (G := giOf K) (ps := ["m", "many"]) (N := N__law_order) (b := b__law_order) (m := 60) (n := 60) (lm := false) F (fun z => by cases z) (df_glo X G c (i := 25) rfl) rfl s__law_order_ s__law_order_.nd (fun _ _ _ _ _ _ us hl => match us, hl with | [_, _], _ => rfl) (fun p hp => absurd hp List.not_mem_nil) c__law_order
theorem s__law_common_ : FnScope N__law_common ["one", "other"] (defScope (top 41)) := ⟨rfl, rfl, rfl, by decide +kernel, rfl, by decide +kernel, by decide +kernel⟩
theorem d__law_common (X : K.In h) (G : h.Ns mainGlobals mg) (c : Told h K) : DefOk (giOf K) base mg prT gl bi "_law_common" 26 2 [] [] := by
  obtain ⟨fd, F⟩ := df_fun c (i := 26) (d := dd "_law_common" 41 []) rfl
  exact def0 (G := giOf K) (ps := ["one", "other"]) (N := N__law_common) (b := b__law_common) (m := 60) (n := 60) (lm := false) F (fun z => by cases z) (df_glo X G c (i := 26) rfl) rfl s__law_common_ s__law_common_.nd (fun _ _ _ _ _ _ us hl => match us, hl with | [_, _], _ => rfl) (fun p hp => absurd hp List.not_mem_nil) c__law_common
theorem s__law_ratio_ : FnScope N__law_ratio ["upper", "under"] (defScope (top 42)) := ⟨rfl, rfl, rfl, by decide +kernel, rfl, by decide +kernel, by decide +kernel⟩
theorem d__law_ratio (X : K.In h) (G : h.Ns mainGlobals mg) (c : Told h K) : DefOk (giOf K) base mg prT gl bi "_law_ratio" 27 2 [] [] := by
  obtain ⟨fd, F⟩ := df_fun c (i := 27) (d := dd "_law_ratio" 42 []) rfl
  exact def0 (G := giOf K) (ps := ["upper", "under"]) (N := N__law_ratio) (b := b__law_ratio) (m := 60) (n := 60) (lm := false) F (fun z => by cases z) (df_glo X G c (i := 27) rfl) rfl s__law_ratio_ s__law_ratio_.nd (fun _ _ _ _ _ _ us hl => match us, hl with | [_, _], _ => rfl) (fun p hp => absurd hp List.not_mem_nil) c__law_ratio
theorem s__law_times_ : FnScope N__law_times ["fractions"] (defScope (top 43)) := ⟨rfl, rfl, rfl, by decide +kernel, rfl, by decide +kernel, by decide +kernel⟩
theorem d__law_times (X : K.In h) (G : h.Ns mainGlobals mg) (c : Told h K) : DefOk (giOf K) base mg prT gl bi "_law_times" 28 1 [] [] := by
  obtain ⟨fd, F⟩ := df_fun c (i := 28) (d := dd "_law_times" 43 []) rfl
  exact def0 (G := giOf K) (ps := ["fractions"]) (N := N__law_times) (b := b__law_times) (m := 60) (n := 60) (lm := false) F (fun z => by cases z) (df_glo X G c (i := 28) rfl) rfl s__law_times_ s__law_times_.nd (fun _ _ _ _ _ _ us hl => match us, hl with | [_], _ => rfl) (fun p hp => absurd hp List.not_mem_nil) c__law_times
theorem s__law_strength_ : FnScope N__law_strength ["m"] (defScope (top 44)) := ⟨rfl, rfl, rfl, by decide +kernel, rfl, by decide +kernel, by decide +kernel⟩
theorem d__law_strength (X : K.In h) (G : h.Ns mainGlobals mg) (c : Told h K) : DefOk (giOf K) base mg prT gl bi "_law_strength" 29 1 [] [] := by
  obtain ⟨fd, F⟩ := df_fun c (i := 29) (d := dd "_law_strength" 44 []) rfl
  exact def0 (G := giOf K) (ps := ["m"]) (N := N__law_strength) (b := b__law_strength) (m := 60) (n := 60) (lm := false) F (fun z => by cases z) (df_glo X G c (i := 29) rfl) rfl s__law_strength_ s__law_strength_.nd (fun _ _ _ _ _ _ us hl => match us, hl with | [_], _ => rfl) (fun p hp => absurd hp List.not_mem_nil) c__law_strength
theorem s__law_net_ : FnScope N__law_net ["m", "nodes", "ports", "wires"] (defScope (top 45)) := ⟨rfl, rfl, rfl, by decide +kernel, rfl, by decide +kernel, by decide +kernel⟩
theorem d__law_net (X : K.In h) (G : h.Ns mainGlobals mg) (c : Told h K) : DefOk (giOf K) base mg prT gl bi "_law_net" 30 4 [] [] := by
  obtain ⟨fd, F⟩ := df_fun c (i := 30) (d := dd "_law_net" 45 []) rfl
  exact def0 (G := giOf K) (ps := ["m", "nodes", "ports", "wires"]) (N := N__law_net) (b := b__law_net) (m := 60) (n := 60) (lm := false) F (fun z => by cases z) (df_glo X G c (i := 30) rfl) rfl s__law_net_ s__law_net_.nd (fun _ _ _ _ _ _ us hl => match us, hl with | [_, _, _, _], _ => rfl) (fun p hp => absurd hp List.not_mem_nil) c__law_net
theorem s__law_held_ : FnScope N__law_held ["m", "nodes", "ports", "wires"] (defScope (top 46)) := ⟨rfl, rfl, rfl, by decide +kernel, rfl, by decide +kernel, by decide +kernel⟩
theorem d__law_held (X : K.In h) (G : h.Ns mainGlobals mg) (c : Told h K) : DefOk (giOf K) base mg prT gl bi "_law_held" 31 4 [] [] := by
  obtain ⟨fd, F⟩ := df_fun c (i := 31) (d := dd "_law_held" 46 []) rfl
  exact def0 (G := giOf K) (ps := ["m", "nodes", "ports", "wires"]) (N := N__law_held) (b := b__law_held) (m := 60) (n := 60) (lm := false) F (fun z => by cases z) (df_glo X G c (i := 31) rfl) rfl s__law_held_ s__law_held_.nd (fun _ _ _ _ _ _ us hl => match us, hl with | [_, _, _, _], _ => rfl) (fun p hp => absurd hp List.not_mem_nil) c__law_held
theorem s__law_leads_ : FnScope N__law_leads ["nodes", "pairs"] (defScope (top 47)) := ⟨rfl, rfl, rfl, by decide +kernel, rfl, by decide +kernel, by decide +kernel⟩
theorem d__law_leads (X : K.In h) (G : h.Ns mainGlobals mg) (c : Told h K) : DefOk (giOf K) base mg prT gl bi "_law_leads" 32 2 [] [] := by
  obtain ⟨fd, F⟩ := df_fun c (i := 32) (d := dd "_law_leads" 47 []) rfl
  exact def0 (G := giOf K) (ps := ["nodes", "pairs"]) (N := N__law_leads) (b := b__law_leads) (m := 60) (n := 60) (lm := false) F (fun z => by cases z) (df_glo X G c (i := 32) rfl) rfl s__law_leads_ s__law_leads_.nd (fun _ _ _ _ _ _ us hl => match us, hl with | [_, _], _ => rfl) (fun p hp => absurd hp List.not_mem_nil) c__law_leads
theorem s__law_forest_lead_ : FnScope N__law_forest_lead ["net", "forest"] (defScope (top 48)) := ⟨rfl, rfl, rfl, by decide +kernel, rfl, by decide +kernel, by decide +kernel⟩
theorem d__law_forest_lead (X : K.In h) (G : h.Ns mainGlobals mg) (c : Told h K) : DefOk (giOf K) base mg prT gl bi "_law_forest_lead" 33 2 [] [] := by
  obtain ⟨fd, F⟩ := df_fun c (i := 33) (d := dd "_law_forest_lead" 48 []) rfl
  exact def0 (G := giOf K) (ps := ["net", "forest"]) (N := N__law_forest_lead) (b := b__law_forest_lead) (m := 60) (n := 60) (lm := false) F (fun z => by cases z) (df_glo X G c (i := 33) rfl) rfl s__law_forest_lead_ s__law_forest_lead_.nd (fun _ _ _ _ _ _ us hl => match us, hl with | [_, _], _ => rfl) (fun p hp => absurd hp List.not_mem_nil) c__law_forest_lead
theorem s__law_port_lots_ : FnScope N__law_port_lots ["net", "lead"] (defScope (top 49)) := ⟨rfl, rfl, rfl, by decide +kernel, rfl, by decide +kernel, by decide +kernel⟩
theorem d__law_port_lots (X : K.In h) (G : h.Ns mainGlobals mg) (c : Told h K) : DefOk (giOf K) base mg prT gl bi "_law_port_lots" 34 2 [] [] := by
  obtain ⟨fd, F⟩ := df_fun c (i := 34) (d := dd "_law_port_lots" 49 []) rfl
  exact def0 (G := giOf K) (ps := ["net", "lead"]) (N := N__law_port_lots) (b := b__law_port_lots) (m := 60) (n := 60) (lm := false) F (fun z => by cases z) (df_glo X G c (i := 34) rfl) rfl s__law_port_lots_ s__law_port_lots_.nd (fun _ _ _ _ _ _ us hl => match us, hl with | [_, _], _ => rfl) (fun p hp => absurd hp List.not_mem_nil) c__law_port_lots
theorem s__law_forests_ : FnScope N__law_forests ["net"] (defScope (top 50)) := ⟨rfl, rfl, rfl, by decide +kernel, rfl, by decide +kernel, by decide +kernel⟩
theorem d__law_forests (X : K.In h) (G : h.Ns mainGlobals mg) (c : Told h K) : DefOk (giOf K) base mg prT gl bi "_law_forests" 35 1 [] [] := by
  obtain ⟨fd, F⟩ := df_fun c (i := 35) (d := dd "_law_forests" 50 []) rfl
  exact def0 (G := giOf K) (ps := ["net"]) (N := N__law_forests) (b := b__law_forests) (m := 60) (n := 60) (lm := false) F (fun z => by cases z) (df_glo X G c (i := 35) rfl) rfl s__law_forests_ s__law_forests_.nd (fun _ _ _ _ _ _ us hl => match us, hl with | [_], _ => rfl) (fun p hp => absurd hp List.not_mem_nil) c__law_forests
theorem s__law_small_net_ : FnScope N__law_small_net ["m", "nodes", "wires"] (defScope (top 51)) := ⟨rfl, rfl, rfl, by decide +kernel, rfl, by decide +kernel, by decide +kernel⟩
theorem d__law_small_net (X : K.In h) (G : h.Ns mainGlobals mg) (c : Told h K) : DefOk (giOf K) base mg prT gl bi "_law_small_net" 36 3 [] [] := by
  obtain ⟨fd, F⟩ := df_fun c (i := 36) (d := dd "_law_small_net" 51 []) rfl
  exact def0 (G := giOf K) (ps := ["m", "nodes", "wires"]) (N := N__law_small_net) (b := b__law_small_net) (m := 60) (n := 60) (lm := false) F (fun z => by cases z) (df_glo X G c (i := 36) rfl) rfl s__law_small_net_ s__law_small_net_.nd (fun _ _ _ _ _ _ us hl => match us, hl with | [_, _, _], _ => rfl) (fun p hp => absurd hp List.not_mem_nil) c__law_small_net
theorem s__law_right_ : FnScope N__law_right ["m"] (defScope (top 53)) := ⟨rfl, rfl, rfl, by decide +kernel, rfl, by decide +kernel, by decide +kernel⟩
theorem d__law_right (X : K.In h) (G : h.Ns mainGlobals mg) (c : Told h K) (TB : TabsB K base mg) : DefOk (giOf K) base mg prT gl bi "_law_right" 38 1 [] [] := by
  obtain ⟨fd, F⟩ := df_fun c (i := 38) (d := dd "_law_right" 53 []) rfl
  exact def0 (G := giOf K) (ps := ["m"]) (N := N__law_right) (b := b__law_right) (m := 60) (n := 60) (lm := true) F (fun _ => lam_of (x := "_law_right") (j := 53) c TB (by simp [lamQ]) F) (df_glo X G c (i := 38) rfl) rfl s__law_right_ s__law_right_.nd (fun _ _ _ _ _ _ us hl => match us, hl with | [_], _ => rfl) (fun p hp => absurd hp List.not_mem_nil) c__law_right
theorem s__law_told_right_ : FnScope N__law_told_right ["m"] (defScope (top 54)) := ⟨rfl, rfl, rfl, by decide +kernel, rfl, by decide +kernel, by decide +kernel⟩
theorem d__law_told_right (X : K.In h) (G : h.Ns mainGlobals mg) (c : Told h K) : DefOk (giOf K) base mg prT gl bi "_law_told_right" 39 1 [] [] := by
  obtain ⟨fd, F⟩ := df_fun c (i := 39) (d := dd "_law_told_right" 54 []) rfl
  exact def0 (G := giOf K) (ps := ["m"]) (N := N__law_told_right) (b := b__law_told_right) (m := 60) (n := 60) (lm := false) F (fun z => by cases z) (df_glo X G c (i := 39) rfl) rfl s__law_told_right_ s__law_told_right_.nd (fun _ _ _ _ _ _ us hl => match us, hl with | [_], _ => rfl) (fun p hp => absurd hp List.not_mem_nil) c__law_told_right
theorem s__law_great_right_ : FnScope N__law_great_right ["m"] (defScope (top 55)) := ⟨rfl, rfl, rfl, by decide +kernel, rfl, by decide +kernel, by decide +kernel⟩
theorem d__law_great_right (X : K.In h) (G : h.Ns mainGlobals mg) (c : Told h K) (TB : TabsB K base mg) : DefOk (giOf K) base mg prT gl bi "_law_great_right" 40 1 [] [] := by
  obtain ⟨fd, F⟩ := df_fun c (i := 40) (d := dd "_law_great_right" 55 []) rfl
  exact def0 (G := giOf K) (ps := ["m"]) (N := N__law_great_right) (b := b__law_great_right) (m := 60) (n := 60) (lm := true) F (fun _ => lam_of (x := "_law_great_right") (j := 55) c TB (by simp [lamQ]) F) (df_glo X G c (i := 40) rfl) rfl s__law_great_right_ s__law_great_right_.nd (fun _ _ _ _ _ _ us hl => match us, hl with | [_], _ => rfl) (fun p hp => absurd hp List.not_mem_nil) c__law_great_right
theorem s__law_odd_right_ : FnScope N__law_odd_right ["m"] (defScope (top 56)) := ⟨rfl, rfl, rfl, by decide +kernel, rfl, by decide +kernel, by decide +kernel⟩
theorem d__law_odd_right (X : K.In h) (G : h.Ns mainGlobals mg) (c : Told h K) (TB : TabsB K base mg) : DefOk (giOf K) base mg prT gl bi "_law_odd_right" 41 1 [] [] := by
  obtain ⟨fd, F⟩ := df_fun c (i := 41) (d := dd "_law_odd_right" 56 []) rfl
  exact def0 (G := giOf K) (ps := ["m"]) (N := N__law_odd_right) (b := b__law_odd_right) (m := 60) (n := 60) (lm := true) F (fun _ => lam_of (x := "_law_odd_right") (j := 56) c TB (by simp [lamQ]) F) (df_glo X G c (i := 41) rfl) rfl s__law_odd_right_ s__law_odd_right_.nd (fun _ _ _ _ _ _ us hl => match us, hl with | [_], _ => rfl) (fun p hp => absurd hp List.not_mem_nil) c__law_odd_right
end
end MI
end
section
set_option Elab.async false
set_option linter.all false
set_option maxRecDepth 100000
set_option maxHeartbeats 4000000
namespace MI
open PySem PySem.Spec PyProof.Rows L2
theorem ind_heard {fu : Option Nat} (d : Nat) (f0 : Nat) (h : Mem → R MV) (μ : Mem) : outc (execs (wdAt subT fldT fu prT d (some (f0, h))) b__law_heard (some (.thk f0) :: List.replicate (N__law_heard.length - 1) none) μ) = outc (execs (wdAt subT fldT fu prT d (some (0, h))) b__law_heard (some (.thk 0) :: List.replicate (N__law_heard.length - 1) none) μ) := by
  have e : List.replicate (N__law_heard.length - 1) (none : Option MV) = [none, none, none] := rfl
  rw [e]
  cases hh : h μ with
  | none => simp (implicitDefEqProofs := false) [b__law_heard, execs, exec, ev, evs, asg, asgs, hh, asgK, outc, most]
  | some r =>
    obtain ⟨o, μ'⟩ := r
    cases o with
    | ok v => simp (implicitDefEqProofs := false) [b__law_heard, execs, exec, ev, evs, asg, asgs, hh, asgK, outc, most, evCmp]
    | error x =>
      obtain ⟨c, y⟩ := x
      by_cases h2 : c = 2
      · subst h2
        simp (implicitDefEqProofs := false) [b__law_heard, execs, exec, ev, evs, asg, asgs, hh, asgK, outc, most, evCmp, subAny, subT, isCls, isCl, fldT]
      by_cases h3 : c = 3
      · subst h3
        simp (implicitDefEqProofs := false) [b__law_heard, execs, exec, ev, evs, asg, asgs, hh, asgK, outc, most, evCmp, subAny, subT, isCls, isCl, fldT]
      by_cases h4 : c = 4
      · subst h4
        simp (implicitDefEqProofs := false) [b__law_heard, execs, exec, ev, evs, asg, asgs, hh, asgK, outc, most, evCmp, subAny, subT, isCls, isCl, fldT]
      · have hs : ∀ d, subT c d = none := fun d => by
          unfold subT
          split <;> first | rfl | exact absurd rfl h2 | exact absurd rfl h3 | exact absurd rfl h4
        simp (implicitDefEqProofs := false) [b__law_heard, execs, exec, ev, evs, asg, asgs, hh, asgK, outc, most, evCmp, subAny, hs]
end MI
end
section
set_option Elab.async false
set_option linter.all false
set_option maxRecDepth 100000
set_option maxHeartbeats 4000000
namespace MI
open PySem PySem.Spec PyProof.Rows L2
open He (ga)
section
variable {K : PySem.W.Frag} {h base : Heap} {mg : Str → Option Value} {fu : Option Nat}
theorem mk_BadNet (c : Told h K) : MkT hdW.prog K (ga K "BadNet") "place" := by
  obtain ⟨e1, e2⟩ := SaysM.raises (prog := hdW.prog) c (i := 0) rfl
  exact rs_ok e1 e2 (by kernel_rfl) (by decide +kernel) (by decide +kernel) (fun _ _ _ _ _ _ _ _ _ _ _ _ _ _ a b => rfl) ⟨_, _, rfl⟩ ⟨_, _, [_, _, _, _, _, _, _, _, _, _], rfl, rfl⟩ ⟨rfl, rfl, rfl, by decide +kernel, by decide +kernel, by decide +kernel, by decide +kernel, by decide +kernel⟩
theorem mk_BadNumber (c : Told h K) : MkT hdW.prog K (ga K "BadNumber") "value" := by
  obtain ⟨e1, e2⟩ := SaysM.raises (prog := hdW.prog) c (i := 1) rfl
  exact rs_ok e1 e2 (by kernel_rfl) (by decide +kernel) (by decide +kernel) (fun _ _ _ _ _ _ _ _ _ _ _ _ _ _ a b => rfl) ⟨_, _, rfl⟩ ⟨_, _, [_, _, _, _, _, _, _, _, _, _], rfl, rfl⟩ ⟨rfl, rfl, rfl, by decide +kernel, by decide +kernel, by decide +kernel, by decide +kernel, by decide +kernel⟩
theorem mk_BadPaper (c : Told h K) : MkT hdW.prog K (ga K "BadPaper") "place" := by
  obtain ⟨e1, e2⟩ := SaysM.raises (prog := hdW.prog) c (i := 2) rfl
  exact rs_ok e1 e2 (by kernel_rfl) (by decide +kernel) (by decide +kernel) (fun _ _ _ _ _ _ _ _ _ _ _ _ _ _ a b => rfl) ⟨_, _, rfl⟩ ⟨_, _, [_, _, _, _, _, _, _, _, _, _], rfl, rfl⟩ ⟨rfl, rfl, rfl, by decide +kernel, by decide +kernel, by decide +kernel, by decide +kernel, by decide +kernel⟩
theorem con_ONE (X : K.In h) (G : h.Ns mainGlobals mg) (c : Told h K) : ∃ u, mg "ONE" = some u ∧ ConOk (giOf K) (.tup [(.int 1), (.int 1)]) u := by
  have z := c.more
  unfold hdX at z
  simp only [Bool.and_eq_true] at z
  exact ⟨_, df_glo X G c (i := 68) rfl, .ref (ga K "ONE"), rfl, fun B ι H => .tup (He.tupB_ok z.2.1 H) (.cons (.int 1) (.cons (.int 1) (.nil)))⟩
theorem s__law_heard_ : FnScope N__law_heard ["deed"] (defScope (top 52)) := ⟨rfl, rfl, rfl, by decide +kernel, rfl, by decide +kernel, by decide +kernel⟩
theorem d__law_heard (X : K.In h) (G : h.Ns mainGlobals mg) (c : Told h K) : HrDef (giOf K) mg subT fldT fu prT glh bi "_law_heard" 37 := by
  obtain ⟨fd, F⟩ := df_fun c (i := 37) (d := dd "_law_heard" 52 []) rfl
  exact hdef (G := giOf K) (Ng := N__law_heard) (b := b__law_heard) (m := 60) (n := 60) F (df_glo X G c (i := 37) rfl) s__law_heard_ rfl (.inl (by decide +kernel)) (by decide +kernel) (by decide +kernel) rfl s__law_heard_.nd (fun _ _ _ _ _ _ us hl => match us, hl with | [_], _ => rfl) c__law_heard ind_heard
def Fits (G : GI) (base : Heap) (mg : Str → Option Value) (fu : Option Nat) (p : Str × GE) : Prop := match p.2 with
  | .con v => ∃ u, mg p.1 = some u ∧ ConOk G v u
  | .fn f np dvs sg => DefOk G base mg prT gl bi p.1 f np dvs sg
  | .cls c rs => mg p.1 = some (.ref (G.cls c)) ∧ (rs = true → MkT hdW.prog G.K (G.cls c) (G.fld c))
  | .hr f => HrDef G mg subT fldT fu prT glh bi p.1 f
theorem look_mem {α : Type} {x : Str} {g : α} : ∀ {l : List (Str × α)}, l.lookup x = some g → (x, g) ∈ l
  | (y, v) :: r, h => by
    rw [List.lookup_cons] at h
    split at h
    · rename_i z
      rw [eq_of_beq z]
      cases h
      exact List.mem_cons_self
    · exact List.mem_cons_of_mem _ (look_mem h)
theorem fits_cons {G : GI} {p : Str × GE} {l : List (Str × GE)} (h : Fits G base mg fu p) (r : ∀ q ∈ l, Fits G base mg fu q) : ∀ q ∈ p :: l, Fits G base mg fu q := List.forall_mem_cons.mpr ⟨h, r⟩
theorem fits_all (X : K.In h) (G : h.Ns mainGlobals mg) (c : Told h K) (TB : TabsB K base mg) : ∀ p ∈ gl, Fits (giOf K) base mg fu p :=
    (fits_cons (con_ONE X G c)
    (fits_cons (by obtain ⟨t, e⟩ := He.int_ok X G (c.d.fact 47 (f := .int "MOST_NODES" (48)) rfl); exact ⟨_, e, .int 48, ⟨t, rfl⟩, fun B ι H => .int 48⟩)
    (fits_cons (by obtain ⟨t, e⟩ := He.int_ok X G (c.d.fact 48 (f := .int "MOST_PORTS" (8)) rfl); exact ⟨_, e, .int 8, ⟨t, rfl⟩, fun B ι H => .int 8⟩)
    (fits_cons (by obtain ⟨t, e⟩ := He.int_ok X G (c.d.fact 49 (f := .int "MOST_WIRES" (40)) rfl); exact ⟨_, e, .int 40, ⟨t, rfl⟩, fun B ι H => .int 40⟩)
    (fits_cons (d_is_whole X G c)
    (fits_cons (d_is_row X G c)
    (fits_cons (d_are_wholes X G c)
    (fits_cons (d_gcd X G c)
    (fits_cons (d_is_fraction X G c)
    (fits_cons (d_ratio X G c)
    (fits_cons (d_ratio_times X G c)
    (fits_cons (d_is_wire X G c)
    (fits_cons (d_net_fault X G c)
    (fits_cons (d_need_net X G c)
    (fits_cons (d_is_ascending X G c)
    (fits_cons (d_need_wires X G c)
    (fits_cons (d_led_together X G c)
    (fits_cons (d_lots_by X G c)
    (fits_cons (d_forest_lead X G c)
    (fits_cons (d_need_forest X G c)
    (fits_cons (d_is_forest X G c)
    (fits_cons (d_forest_lots X G c)
    (fits_cons (d_forest_weight X G c)
    (fits_cons (d__law_mixed X G c)
    (fits_cons (d__law_folded X G c)
    (fits_cons (d__law_draw X G c)
    (fits_cons (d__law_begun X G c)
    (fits_cons (d__law_of X G c)
    (fits_cons (d__law_like X G c)
    (fits_cons (d__law_order X G c)
    (fits_cons (d__law_common X G c)
    (fits_cons (d__law_ratio X G c)
    (fits_cons (d__law_times X G c)
    (fits_cons (d__law_strength X G c)
    (fits_cons (d__law_net X G c)
    (fits_cons (d__law_held X G c)
    (fits_cons (d__law_leads X G c)
    (fits_cons (d__law_forest_lead X G c)
    (fits_cons (d__law_port_lots X G c)
    (fits_cons (d__law_forests X G c)
    (fits_cons (d__law_small_net X G c)
    (fits_cons (d__law_right X G c TB)
    (fits_cons (d__law_told_right X G c)
    (fits_cons (d__law_great_right X G c TB)
    (fits_cons (d__law_odd_right X G c TB)
    (fits_cons (d__law_heard X G c)
    (fits_cons ⟨df_glo X G c (i := 43) rfl, fun z => by cases z⟩
    (fits_cons ⟨df_glo X G c (i := 44) rfl, fun z => mk_BadNet c⟩
    (fits_cons ⟨df_glo X G c (i := 45) rfl, fun z => mk_BadNumber c⟩
    (fits_cons ⟨df_glo X G c (i := 46) rfl, fun z => mk_BadPaper c⟩
    (fun p hp => absurd hp List.not_mem_nil)))))))))))))))))))))))))))))))))))))))))))))))))))
theorem fits_h (X : K.In h) (G : h.Ns mainGlobals mg) (c : Told h K) : ∀ p ∈ glh, Fits (giOf K) base mg fu p :=
    (fits_cons ⟨df_glo X G c (i := 43) rfl, fun z => by cases z⟩
    (fits_cons ⟨df_glo X G c (i := 44) rfl, fun z => by cases z⟩
    (fits_cons ⟨df_glo X G c (i := 45) rfl, fun z => by cases z⟩
    (fits_cons ⟨df_glo X G c (i := 46) rfl, fun z => by cases z⟩
    (fun p hp => absurd hp List.not_mem_nil)))))
end
end MI
end
section
set_option Elab.async false
set_option linter.all false
set_option maxRecDepth 100000
set_option maxHeartbeats 4000000
namespace MI
open PySem PySem.Spec PyProof.Rows L2
open He (ga)
section
variable {K : PySem.W.Frag} {h base : Heap} {mg : Str → Option Value} {fu : Option Nat}
theorem cls_ok (c : Told h K) : ClsOk (giOf K) (wdAt subT fldT fu prT 0 none) := by
  have z := c.more
  unfold hdX at z
  simp only [Bool.and_eq_true, decide_eq_true_eq] at z
  obtain ⟨_, _, y2, y3, y4, z1, z2, z3, z4, z5, z6, z7, z8, z9, z10, z11, z12⟩ := z
  refine ⟨rfl, fun c d b e => ?_, fun c e => ?_⟩
  · have e : subT c d = some b := e
    unfold subT at e
    split at e <;> first | (cases e; done) | skip
    all_goals cases e
    · exact ⟨exf_of y2, z1⟩
    · exact ⟨exf_of y2, z2⟩
    · exact ⟨exf_of y2, z3⟩
    · exact ⟨exf_of y2, z4⟩
    · exact ⟨exf_of y3, z5⟩
    · exact ⟨exf_of y3, z6⟩
    · exact ⟨exf_of y3, z7⟩
    · exact ⟨exf_of y3, z8⟩
    · exact ⟨exf_of y4, z9⟩
    · exact ⟨exf_of y4, z10⟩
    · exact ⟨exf_of y4, z11⟩
    · exact ⟨exf_of y4, z12⟩
  · have e : fldT c ≠ "" := e
    unfold fldT at e
    split at e
    · exact ⟨2, true, rfl⟩
    · exact ⟨3, true, rfl⟩
    · exact ⟨4, true, rfl⟩
    · exact absurd rfl e
theorem prog_ok (X : K.In h) (G : h.Ns mainGlobals mg) (c : Told h K) (TB : TabsB K base mg) : ProgOk hdW.prog (giOf K) base mg subT fldT fu prT gl glh bi where
  gl := fun x g e => by
    have q := fits_all (fu := fu) X G c TB _ (look_mem e)
    cases g <;> exact q
  glh := fun x g e => by
    have hm := look_mem e
    have q := fits_h (base := base) (fu := fu) X G c _ hm
    cases g with
    | con v => exact q
    | cls _ _ => exact q
    | fn _ _ _ _ => simp [glh] at hm
    | hr _ => simp [glh] at hm
  bi := fun x hx => by
    obtain ⟨i, hi, e⟩ := List.mem_iff_getElem.mp hx
    have ff : ∀ x ∈ bi, He.Fa.free x ∈ hdA := by
      intro x hx
      simp only [bi, List.mem_cons, List.not_mem_nil, or_false] at hx
      unfold hdA
      rcases hx with rfl | rfl | rfl | rfl | rfl | rfl | rfl | rfl | rfl | rfl | rfl | rfl | rfl | rfl | rfl | rfl | rfl | rfl <;> simp [hdA0, hdA1, hdA2]
    exact He.free_ok X G (c.d.facts (ff x hx))
  cl := cls_ok c
end
end MI
end
section
set_option Elab.async false
set_option linter.all false
set_option maxRecDepth 100000
set_option maxHeartbeats 4000000
namespace MI
open PySem PySem.Spec PyProof.Rows L2
open He (ga)
/-- the law's own def -/
def lawF : Fn := ⟨1, N_law.length, b_law⟩
/-- what is left: the law's reading -/
def Answers : Prop := ∀ (ns : List Int), ns.length ≤ 63 → (∀ z ∈ ns, Builtin.Int.intBits z ≤ 1048576) → ∀ x, x = MV.lv (ns.map .int) ∨ x = MV.fl (ns.map .int) → ∃ μ, topDen subT fldT none prT lawF 14 [x] [] = some (.ok (.bl true), μ)
theorem s_law_ : FnScope N_law ["script"] (defScope (top 57)) := ⟨rfl, rfl, rfl, by decide +kernel, rfl, by decide +kernel, by decide +kernel⟩
theorem rvs_ints {G : GI} {B ι : List Addr} {H : Hp} : ∀ ns : List Int, RVs G B ι H (ns.map MV.int) (ns.map V.int)
  | [] => .nil
  | n :: ns => .cons (.int n) (rvs_ints ns)
theorem law_at (A : Answers) {w : World} {K : PySem.W.Frag} {h : Heap} {mg : Str → Option Value} {fa : Addr} (X : K.In h) (G : h.Ns mainGlobals mg) (hfa : mg "law" = some (.ref fa)) (c : Told h K) :
    LamX.LawAtS PySem.Challenge.rw_portstell_k15_forests_judged w K (L2.CX hdW.prog w) 45 63 "script" mg fa h := by
  obtain ⟨fd, F⟩ := df_fun c (i := 42) (d := dd "law" 57 []) rfl
  have e := hfa.symm.trans (df_glo X G c (i := 42) rfl)
  cases e
  have bA := FunD.bindsA (ps := ["script"]) F fun _ _ _ _ _ _ us hl => match us, hl with | [_], _ => rfl
  refine ⟨fd, lamD.map (He.cT K), spM (giOf K) (topDen subT fldT none prT lawF 14) 1, fun p q => ?_, fun p q => ?_, fun p q => ?_, fun s u => bA s [u] rfl, fun H a ns hl hb ht hS => ?_, fun base KB GB TB => ?_⟩
  · obtain ⟨d, hd, rfl⟩ := List.mem_map.mp q; exact c.emp _ hd
  · obtain ⟨d, hd, rfl⟩ := List.mem_map.mp q; exact c.out _ hd
  · obtain ⟨d, hd, rfl⟩ := List.mem_map.mp q; exact PySem.W.codeHd_of_K X (c.hd _ hd)
  · have htb : LamX.Tabs (giOf K).T H := fun p q => by
      obtain ⟨d, hd, rfl⟩ := List.mem_map.mp (show p ∈ lamQ.map (fun d => ((He.cT K (d.1, none)).2, (envOfC d.1 (defScope (top d.2)) 0 0 .none).qual ++ "<lambda>")) from q)
      exact LamX.TabS.nil (ht _ (List.mem_map.mpr ⟨(d.1, none), List.mem_map.mpr ⟨d, hd, rfl⟩, rfl⟩))
    have hr : HR (giOf K) [] [] H [] := ⟨rfl, .nil, fun a ha => absurd ha List.not_mem_nil, htb, ⟨rfl, fun i v e => (by cases e)⟩, fun p q => absurd q List.not_mem_nil, fun n a o h1 h2 => (by simp at h1)⟩
    rcases hS with (q | ⟨ob, q⟩) | ⟨o, its, n, lk, h1, h2, h3, h4, h5⟩
    · obtain ⟨μ, e⟩ := A ns hl hb _ (.inl rfl)
      refine ⟨rfl, [], [], [], [.lv (ns.map .int)], hr, .cons (.lv q (by simp) (by simp) (rvs_ints ns)) .nil, ?_⟩
      rw [e]
      intro w' H' ι' _ _ rv
      cases rv
      rfl
    · obtain ⟨μ, e⟩ := A ns hl hb _ (.inr rfl)
      refine ⟨rfl, [], [], [], [.fl (ns.map .int)], hr, .cons (.flH q (by simp) (rvs_ints ns)) .nil, ?_⟩
      rw [e]
      intro w' H' ι' _ _ rv
      cases rv
      rfl
    · obtain ⟨μ, e⟩ := A ns hl hb _ (.inr rfl)
      refine ⟨rfl, [], [], [], [.fl (ns.map .int)], hr, .cons (.flK ⟨lk, h1, h2, h3, h4, h5⟩ (rvs_ints ns)) .nil, ?_⟩
      rw [e]
      intro w' H' ι' _ _ rv
      cases rv
      rfl
  · exact top_ok (G := giOf K) (sub := subT) (fld := fldT) (fu := none) (T := prT) (gl := gl) (glh := glh) (bi := bi) (N := N_law) (F := lawF) (m := 60) (n := 60) (lm := false) (prog_ok X G c TB) 14 F s_law_ rfl rfl s_law_.nd c_law fun z => by cases z
end MI
end
section
set_option Elab.async false
set_option linter.all false
set_option maxRecDepth 100000
set_option maxHeartbeats 4000000
set_option exponentiation.threshold 20000
namespace MI
open PySem PySem.Spec PyProof.Rows L2
theorem den_at {f : Nat} {F : Fn} {d : Nat} {a : Option (Nat × (Mem → R MV))} {vs : List MV} {μ : Mem} (hT : prT[f]? = some F) (hl : vs.length = F.np) (hn : F.np ≤ F.ns) : den subT fldT none prT (d + 1) a f vs μ = outc (execs (wdAt subT fldT none prT d a) F.body (vs.map some ++ List.replicate (F.ns - vs.length) none) μ) := by
  unfold den
  rw [hT]
  dsimp only
  rw [if_pos ⟨hl, hn⟩]
theorem r_whole (d : Nat) (i : Int) (μ : Mem) : den subT fldT none prT (d + 1) none 0 [.int i, .non, .non] μ = some (.ok (.bl true), μ) := by
  rw [den_at (F := ⟨3, 3, b_is_whole⟩) rfl rfl (by decide)]
  simp [b_is_whole, execs, exec, ev, evs, isCls, isCl, evCmp, outc, blO, intO]
abbrev gcT : E := .cmp .ne (.var 1) (.con (.int 0))
abbrev gcB : SS := .cons (.asg (.tp (.cons (.nm 0) (.cons (.nm 1) .nil))) (.tup (.cons (.var 1) (.cons (.bin .mod (.blt .int1 (.cons (.var 0) .nil)) (.var 1)) .nil)))) .nil
theorem gc_t (W : Wd) (μ : Mem) (a b : Int) : ev W gcT [some (.int a), some (.int b)] μ = some (.ok (.bl (!(b == 0))), μ) := by
  simp [ev, evCmp, dat_int, eqv_int]
theorem gc_b (W : Wd) (μ : Mem) (a b : Int) (h : b ≠ 0) : execs W gcB [some (.int a), some (.int b)] μ = some (.nxt [some (.int b), some (.int (a.fmod b))], μ) := by
  simp [ev, evs, execs, exec, asg, asgs, asgK, evBi, evBin, bopI, h, most]
theorem whN_t {test : Env → Mem → R MV} {body : Env → Mem → RS} {n : Nat} {ρ ρ' : Env} {μ μ1 μ2 : Mem} (h : test ρ μ = some (.ok (.bl true), μ1)) (g : body ρ μ1 = some (.nxt ρ', μ2)) : whN test body (n + 1) ρ μ = whN test body n ρ' μ2 := by
  conv => lhs; unfold whN
  rw [h]
  dsimp only
  rw [g]
theorem whN_f {test : Env → Mem → R MV} {body : Env → Mem → RS} {n : Nat} {ρ : Env} {μ μ1 : Mem} (h : test ρ μ = some (.ok (.bl false), μ1)) : whN test body (n + 1) ρ μ = some (.nxt ρ, μ1) := by
  unfold whN
  rw [h]
theorem gc_whN (W : Wd) (μ : Mem) : ∀ b a : Nat, ∃ n, whN (fun ρ μ => ev W gcT ρ μ) (fun ρ μ => execs W gcB ρ μ) n [some (.int a), some (.int b)] μ = some (.nxt [some (.int (Nat.gcd a b)), some (.int 0)], μ) := by
  intro b
  induction b using Nat.strongRecOn with
  | ind b ih =>
    intro a
    by_cases h : b = 0
    · subst h
      exact ⟨1, by rw [whN_f (μ1 := μ) (by show ev W gcT [some (.int a), some (.int ((0 : Nat) : Int))] μ = _; rw [gc_t] <;> rfl)]; simp⟩
    · obtain ⟨n, e⟩ := ih (a % b) (Nat.mod_lt _ (by omega)) b
      refine ⟨n + 1, ?_⟩
      rw [whN_t (μ1 := μ) (by rw [gc_t]; simp [h]) (gc_b W μ a b (by omega))]
      have e2 : Int.fmod (a : Int) (b : Int) = ((a % b : Nat) : Int) := by
        rw [Int.fmod_eq_emod_of_nonneg _ (by omega)]
        rfl
      have e3 : Nat.gcd b (a % b) = Nat.gcd a b := by
        rw [Nat.gcd_comm b (a % b), ← Nat.gcd_rec, Nat.gcd_comm b a]
      rw [e2, e, e3]
theorem abs_nat (i : Int) : (if i < 0 then -i else i) = ((i.natAbs : Nat) : Int) := by split <;> omega
theorem gc_wh (W : Wd) (hW : W.fu = none) (μ : Mem) (a b : Nat) : exec W (.whl gcT gcB) [some (.int a), some (.int b)] μ = some (.nxt [some (.int (Nat.gcd a b)), some (.int 0)], μ) := by
  obtain ⟨n, e⟩ := gc_whN W μ b a
  simp only [exec, hW, wh]
  exact whD_of e
theorem r_gcd (d : Nat) (a b : Int) (μ : Mem) : den subT fldT none prT (d + 1) none 3 [.int a, .int b] μ = some (.ok (.int (Int.gcd a b)), μ) := by
  rw [den_at (F := ⟨2, 2, b_gcd⟩) rfl rfl (by decide)]
  have e : exec (wdAt subT fldT none prT d none) (.asg (.tp (.cons (.nm 0) (.cons (.nm 1) .nil))) (.tup (.cons (.blt .abs (.cons (.var 0) .nil)) (.cons (.blt .abs (.cons (.var 1) .nil)) .nil)))) [some (.int a), some (.int b)] μ = some (.nxt [some (.int (a.natAbs : Nat)), some (.int (b.natAbs : Nat))], μ) := by
    simp only [← abs_nat]
    simp [exec, ev, evs, asg, asgs, asgK, evBi, most]
  show outc (execs (wdAt subT fldT none prT d none) b_gcd [some (.int a), some (.int b)] μ) = _
  simp only [b_gcd, execs]
  rw [e, seqK_nxt, gc_wh _ rfl, seqK_nxt]
  simp [exec, ev, outc, Int.gcd]
theorem gcOk_self (n : Nat) : ∀ μ : Mem, gcOk n μ μ = true
  | [] => rfl
  | o :: μ => by simp [gcOk, gcOk_self n μ]
mutual
/-- nothing at a place -/
def MV.noL : MV → Bool
  | .loc _ => false
  | .tup xs => MV.noLs xs
  | .lv xs => MV.noLs xs
  | .fl xs => MV.noLs xs
  | .exo _ x => MV.noL x
  | _ => true
def MV.noLs : List MV → Bool
  | [] => true
  | x :: xs => MV.noL x && MV.noLs xs
end
mutual
theorem rd_noL {lk : Nat → Option MV} : ∀ {v : MV}, v.noL = true → MV.rd lk v = some v
  | .loc _, h => by simp [MV.noL] at h
  | .tup xs, h => by simp only [MV.noL] at h; simp [MV.rd, rds_noL h]
  | .lv xs, h => by simp only [MV.noL] at h; simp [MV.rd, rds_noL h]
  | .fl xs, h => by simp only [MV.noL] at h; simp [MV.rd, rds_noL h]
  | .exo _ x, h => by simp only [MV.noL] at h; simp [MV.rd, rd_noL h]
  | .non, _ => rfl
  | .bl _, _ => rfl
  | .int _, _ => rfl
  | .str _, _ => rfl
  | .thk _, _ => rfl
theorem rds_noL {lk : Nat → Option MV} : ∀ {vs : List MV}, MV.noLs vs = true → MV.rds lk vs = some vs
  | [], _ => rfl
  | x :: xs, h => by
    simp only [MV.noLs, Bool.and_eq_true] at h
    simp [MV.rds, rd_noL h.1, rds_noL h.2]
end
theorem gc_same {μ : Mem} {v : MV} (h : v.noL = true) : gc μ.length μ (some (.ok v, μ)) = some (.ok v, μ) := by
  simp [gc, gcOk_self, frz, rd_noL h]
end MI
end
section
set_option Elab.async false
set_option linter.all false
set_option maxRecDepth 100000
set_option maxHeartbeats 4000000
set_option exponentiation.threshold 20000
namespace MI
open PySem PySem.Spec PyProof.Rows L2
/-- a fraction -/
def fr (q : Rat) : MV := .tup [.int q.num, .int q.den]
theorem div_small {x y : Int} (h : y.natAbs < 2 ^ 9000) : Builtin.divisionGoesByPylong x y = false := by
  unfold Builtin.divisionGoesByPylong
  have : ¬ ((if y = 0 then 0 else y.natAbs.log2 / 30 + 1) > 300) := by
    split
    · omega
    · rename_i hy
      have h0 : y.natAbs ≠ 0 := by omega
      have := (Nat.log2_lt h0).mpr h
      omega
  simp [this]
theorem rat_eq (u v : Int) (h : v ≠ 0) : (Rat.divInt u v).num = (if v < 0 then -u else u).fdiv (Int.gcd u v) ∧ ((Rat.divInt u v).den : Int) = (if v < 0 then -v else v).fdiv (Int.gcd u v) := by
  have hg : (0 : Int) ≤ (Int.gcd u v : Int) := by omega
  rw [Rat.num_divInt, Rat.den_divInt, if_neg h, Int.fdiv_eq_ediv_of_nonneg _ hg, Int.fdiv_eq_ediv_of_nonneg _ hg, Int.gcd_comm v u]
  constructor
  · congr 1
    split
    · rename_i hv
      rw [Int.sign_eq_neg_one_of_neg hv]; omega
    · rename_i hv
      rw [Int.sign_eq_one_of_pos (by omega)]; omega
  · rw [Int.natCast_ediv]
    congr 1
    split <;> omega
theorem gc_int (μ : Mem) (i : Int) : gc (List.length μ) μ (some (.ok (.int i), μ)) = some (.ok (.int i), μ) := gc_same rfl
theorem r_ratio (d : Nat) (u v : Int) (μ : Mem) (h : v ≠ 0) (hb : Int.gcd u v < 2 ^ 9000) : den subT fldT none prT (d + 2) none 5 [.int u, .int v] μ = some (.ok (fr (Rat.divInt u v)), μ) := by
  rw [den_at (F := ⟨2, 3, b_ratio⟩) rfl rfl (by decide)]
  obtain ⟨e1, e2⟩ := rat_eq u v h
  have hg : (Int.gcd u v : Int) ≠ 0 := by
    have := Int.gcd_pos_of_ne_zero_right u h
    omega
  have hd : ∀ x, Builtin.divisionGoesByPylong x (Int.gcd u v : Int) = false := fun x => div_small (by simpa using hb)
  by_cases hv : v < 0
  · rw [if_pos hv] at e1 e2
    simp [b_ratio, execs, exec, ev, evs, asg, asgs, asgK, evCmp, ltD, outc, most, r_gcd, gc_int, evBin, bopI, intO, hv, hg, hd, h, fr, e1, e2]
  · rw [if_neg hv] at e1 e2
    simp [b_ratio, execs, exec, ev, evs, asg, asgs, asgK, evCmp, ltD, outc, most, r_gcd, gc_int, evBin, bopI, intO, hv, hg, hd, h, fr, e1, e2]
theorem gc_bl (μ : Mem) (b : Bool) : gc (List.length μ) μ (some (.ok (.bl b), μ)) = some (.ok (.bl b), μ) := gc_same rfl
theorem r_row (d : Nat) (xs : List MV) (n : Int) (μ : Mem) : den subT fldT none prT (d + 1) none 1 [.tup xs, .int n] μ = some (.ok (.bl ((xs.length : Int) == n)), μ) := by
  rw [den_at (F := ⟨2, 2, b_is_row⟩) rfl rfl (by decide)]
  simp [b_is_row, execs, exec, ev, evs, isCls, isCl, evCmp, outc, evBi, dcOf, sqOf, dat_int, eqv_int]
theorem r_whole1 (d : Nat) (i l : Int) (μ : Mem) : den subT fldT none prT (d + 1) none 0 [.int i, .int l, .non] μ = some (.ok (.bl (decide (l ≤ i))), μ) := by
  rw [den_at (F := ⟨3, 3, b_is_whole⟩) rfl rfl (by decide)]
  by_cases h : l ≤ i
  · have h' : ¬ i < l := by omega
    simp [b_is_whole, execs, exec, ev, evs, isCls, isCl, evCmp, outc, blO, intO, ltD, h, h']
  · have h' : i < l := by omega
    simp [b_is_whole, execs, exec, ev, evs, isCls, isCl, evCmp, outc, blO, intO, ltD, h, h']
theorem idx_p0 (μ : Mem) (x y : MV) : evIdx μ (.tup [x, y]) (.int 0) = some x := by simp [evIdx, dcOf, sqOf, L2.atI, L2.ixN]
theorem idx_p1 (μ : Mem) (x y : MV) : evIdx μ (.tup [x, y]) (.int 1) = some y := by simp [evIdx, dcOf, sqOf, L2.atI, L2.ixN]
theorem r_isfr (d : Nat) (q : Rat) (μ : Mem) : den subT fldT none prT (d + 2) none 4 [fr q] μ = some (.ok (.bl true), μ) := by
  rw [den_at (F := ⟨1, 1, b_is_fraction⟩) rfl rfl (by decide)]
  have h1 : (1 : Int) ≤ q.den := by have := q.den_pos; omega
  have h2 : Int.gcd q.num q.den = 1 := q.reduced
  simp [b_is_fraction, execs, exec, ev, evs, fr, r_row, gc_bl, gc_int, r_whole, r_whole1, r_gcd, idx_p0, idx_p1, evCmp, outc, blO, dat_int, eqv_int, h1, h2]
/-- numerator and denominator of so many bits at most -/
def Bd (a b : Nat) (q : Rat) : Prop := q.num.natAbs ≤ 2 ^ a ∧ q.den ≤ 2 ^ b
theorem Bd.mono {a b c d : Nat} {q : Rat} (h : Bd a b q) (h1 : a ≤ c) (h2 : b ≤ d) : Bd c d q :=
  ⟨Nat.le_trans h.1 (Nat.pow_le_pow_right (by decide) h1), Nat.le_trans h.2 (Nat.pow_le_pow_right (by decide) h2)⟩
theorem log_le {k n : Nat} (h : k ≤ 2 ^ n) : k.log2 ≤ n := by
  by_cases h0 : k = 0
  · subst h0; simp
  · have h1 : k < 2 ^ (n + 1) := Nat.lt_of_le_of_lt h (Nat.pow_lt_pow_right (by decide) (by omega))
    have := (Nat.log2_lt h0).mpr h1
    omega
theorem mul_ok {i j : Int} {a b : Nat} (hi : i.natAbs ≤ 2 ^ a) (hj : j.natAbs ≤ 2 ^ b) (h : a + b < 134000000) : mulOk i j = true := by
  have := log_le hi
  have := log_le hj
  simp only [mulOk, Bool.or_eq_true, decide_eq_true_eq]
  right
  omega
theorem dvi_le {u v : Int} (hv : v ≠ 0) {a b : Nat} (h1 : u.natAbs ≤ 2 ^ a) (h2 : v.natAbs ≤ 2 ^ b) : Bd a b (Rat.divInt u v) := by
  have hp : 0 < Int.gcd u v := Int.gcd_pos_of_ne_zero_right u hv
  constructor
  · refine Nat.le_trans ?_ h1
    rw [Rat.num_divInt, Int.gcd_comm v u]
    have hs : v.sign.natAbs = 1 := Int.natAbs_sign_of_ne_zero hv
    have : (v.sign * u / (Int.gcd u v : Int)).natAbs ≤ (v.sign * u).natAbs := Int.natAbs_ediv_le_natAbs _ _
    rw [Int.natAbs_mul, hs, Nat.one_mul] at this
    exact this
  · refine Nat.le_trans ?_ h2
    rw [Rat.den_divInt, if_neg hv]
    exact Nat.div_le_self _ _
theorem add_dvi (p q : Rat) : p + q = Rat.divInt (p.num * q.den + q.num * p.den) (p.den * q.den) := by
  conv => lhs; rw [← Rat.num_divInt_den p, ← Rat.num_divInt_den q]
  rw [Rat.divInt_add_divInt _ _ (by have := p.den_pos; omega) (by have := q.den_pos; omega)]
theorem sub_dvi (p q : Rat) : p - q = Rat.divInt (p.num * q.den - q.num * p.den) (p.den * q.den) := by
  conv => lhs; rw [← Rat.num_divInt_den p, ← Rat.num_divInt_den q]
  rw [Rat.divInt_sub_divInt _ _ (by have := p.den_pos; omega) (by have := q.den_pos; omega)]
theorem mul_dvi (p q : Rat) : p * q = Rat.divInt (p.num * q.num) (p.den * q.den) := by
  conv => lhs; rw [← Rat.num_divInt_den p, ← Rat.num_divInt_den q]
  rw [Rat.divInt_mul_divInt]
theorem div_dvi (p q : Rat) : p / q = Rat.divInt (p.num * q.den) (p.den * q.num) := by
  conv => lhs; rw [← Rat.num_divInt_den p, ← Rat.num_divInt_den q]
  rw [Rat.div_def, Rat.inv_divInt, Rat.divInt_mul_divInt]
theorem den_mul {p q : Rat} {b b' : Nat} (h : p.den ≤ 2 ^ b) (h' : q.den ≤ 2 ^ b') : ((p.den : Int) * q.den).natAbs ≤ 2 ^ (b + b') := by
  rw [Int.natAbs_mul, Nat.pow_add]
  exact Nat.mul_le_mul (by simpa using h) (by simpa using h')
theorem mul_le {i j : Int} {a b : Nat} (hi : i.natAbs ≤ 2 ^ a) (hj : j.natAbs ≤ 2 ^ b) : (i * j).natAbs ≤ 2 ^ (a + b) := by
  rw [Int.natAbs_mul, Nat.pow_add]
  exact Nat.mul_le_mul hi hj
theorem add_le {i j : Int} {a b n : Nat} (hi : i.natAbs ≤ 2 ^ a) (hj : j.natAbs ≤ 2 ^ b) (ha : a ≤ n) (hb : b ≤ n) : (i + j).natAbs ≤ 2 ^ (n + 1) := by
  have h1 := Nat.le_trans hi (Nat.pow_le_pow_right (n := 2) (by decide) ha)
  have h2 := Nat.le_trans hj (Nat.pow_le_pow_right (n := 2) (by decide) hb)
  rw [Nat.pow_succ]
  omega
theorem sub_le {i j : Int} {a b n : Nat} (hi : i.natAbs ≤ 2 ^ a) (hj : j.natAbs ≤ 2 ^ b) (ha : a ≤ n) (hb : b ≤ n) : (i - j).natAbs ≤ 2 ^ (n + 1) := by
  have h1 := Nat.le_trans hi (Nat.pow_le_pow_right (n := 2) (by decide) ha)
  have h2 := Nat.le_trans hj (Nat.pow_le_pow_right (n := 2) (by decide) hb)
  rw [Nat.pow_succ]
  omega
section
variable {p q : Rat} {a b a' b' : Nat}
theorem den_nz (p q : Rat) : (p.den : Int) * q.den ≠ 0 := Int.mul_ne_zero (by have := p.den_pos; omega) (by have := q.den_pos; omega)
theorem num_nz (h : q ≠ 0) : (p.den : Int) * q.num ≠ 0 := Int.mul_ne_zero (by have := p.den_pos; omega) (by simpa using h)
theorem Bd.add (h : Bd a b p) (h' : Bd a' b' q) (n m : Nat) (h1 : a + b' ≤ n) (h2 : a' + b ≤ n) (h3 : b + b' ≤ m) : Bd (n + 1) m (p + q) := by
  rw [add_dvi]
  exact Bd.mono (dvi_le (den_nz p q) (add_le (mul_le h.1 (by simpa using h'.2)) (mul_le h'.1 (by simpa using h.2)) h1 h2) (den_mul h.2 h'.2)) (Nat.le_refl _) h3
theorem Bd.sub (h : Bd a b p) (h' : Bd a' b' q) (n m : Nat) (h1 : a + b' ≤ n) (h2 : a' + b ≤ n) (h3 : b + b' ≤ m) : Bd (n + 1) m (p - q) := by
  rw [sub_dvi]
  exact Bd.mono (dvi_le (den_nz p q) (sub_le (mul_le h.1 (by simpa using h'.2)) (mul_le h'.1 (by simpa using h.2)) h1 h2) (den_mul h.2 h'.2)) (Nat.le_refl _) h3
theorem Bd.mul (h : Bd a b p) (h' : Bd a' b' q) (n m : Nat) (h1 : a + a' ≤ n) (h3 : b + b' ≤ m) : Bd n m (p * q) := by
  rw [mul_dvi]
  exact Bd.mono (dvi_le (den_nz p q) (mul_le h.1 h'.1) (den_mul h.2 h'.2)) h1 h3
theorem Bd.div (h : Bd a b p) (h' : Bd a' b' q) (hq : q ≠ 0) (n m : Nat) (h1 : a + b' ≤ n) (h3 : b + a' ≤ m) : Bd n m (p / q) := by
  rw [div_dvi]
  exact Bd.mono (dvi_le (num_nz hq) (mul_le h.1 (by simpa using h'.2)) (mul_le (by simpa using h.2) h'.1)) h1 h3
theorem gcd_le_b {u v : Int} (hv : v ≠ 0) {n : Nat} (h : v.natAbs ≤ 2 ^ n) (hn : n < 9000) : Int.gcd u v < 2 ^ 9000 := by
  have h1 : Int.gcd u v ≤ v.natAbs := Nat.le_of_dvd (by omega) (Int.gcd_dvd_natAbs_right u v)
  have : (2 : Nat) ^ n < 2 ^ 9000 := Nat.pow_lt_pow_right (by decide) hn
  omega
end
end MI
end
section
set_option Elab.async false
set_option linter.all false
set_option maxRecDepth 100000
set_option maxHeartbeats 4000000
set_option exponentiation.threshold 20000
namespace MI
open PySem PySem.Spec PyProof.Rows L2
theorem num_pos' {q : Rat} (h : 0 < q) : 0 < q.num := by
  have h1 : 0 ≤ q.num := Rat.num_nonneg.mpr (by grind)
  have h2 : q.num ≠ 0 := fun e => by
    have := Rat.num_eq_zero.mp e
    grind
  omega
theorem noL_fr (q : Rat) : (fr q).noL = true := by simp [fr, MV.noL, MV.noLs]
theorem gc_fr (μ : Mem) (q : Rat) : gc (List.length μ) μ (some (.ok (fr q), μ)) = some (.ok (fr q), μ) := gc_same (noL_fr q)
theorem fx0 (μ : Mem) (q : Rat) : evIdx μ (fr q) (.int 0) = some (.int q.num) := idx_p0 _ _ _
theorem fx1 (μ : Mem) (q : Rat) : evIdx μ (fr q) (.int 1) = some (.int q.den) := idx_p1 _ _ _
theorem fr0 : MV.tup [.int 0, .int 1] = fr 0 := rfl
theorem fr1 : MV.tup [.int 1, .int 1] = fr 1 := rfl
section
variable {p q : Rat} {a b a' b' : Nat}
theorem e_ratio (d : Nat) {u v : Int} (r : Rat) (μ : Mem) (he : r = Rat.divInt u v) (hv : v ≠ 0) {n : Nat} (h : v.natAbs ≤ 2 ^ n) (hn : n < 9000) : den subT fldT none prT (d + 2) none 5 [.int u, .int v] μ = some (.ok (fr r), μ) := by
  rw [he]
  exact r_ratio d u v μ hv (gcd_le_b hv h hn)
theorem r_rtimes (d : Nat) (μ : Mem) (h : Bd a b p) (h' : Bd a' b' q) (hb : b + b' < 9000) (h1 : a + a' < 100000) : den subT fldT none prT (d + 3) none 6 [fr p, fr q] μ = some (.ok (fr (p * q)), μ) := by
  rw [den_at (F := ⟨2, 2, b_ratio_times⟩) rfl rfl (by decide)]
  have m1 := mul_ok h.1 h'.1 (by omega)
  have m3 := mul_ok (show (p.den : Int).natAbs ≤ 2 ^ b by simpa using h.2) (show (q.den : Int).natAbs ≤ 2 ^ b' by simpa using h'.2) (by omega)
  have e := e_ratio d (p * q) μ (mul_dvi p q) (den_nz p q) (den_mul h.2 h'.2) hb
  simp (implicitDefEqProofs := false) [execs, exec, ev, evs, evIt, asg, asgs, asgK, evCmp, ltD, outc, most, evBi, evBin, bopI, dcOf, sqOf, isCls, isCl, blO, intO, dat_int, eqv_int, gc_int, gc_bl, gc_fr, fx0, fx1, b_ratio_times, m1, m3, e]
end
theorem den_same {f g : Nat} (h : prT[f]? = prT[g]?) (d : Nat) (vs : List MV) (μ : Mem) : den subT fldT none prT (d + 1) none f vs μ = den subT fldT none prT (d + 1) none g vs μ := by
  unfold den
  rw [h]
theorem r_lcommon (d : Nat) (a b : Int) (μ : Mem) : den subT fldT none prT (d + 1) none 26 [.int a, .int b] μ = some (.ok (.int (Int.gcd a b)), μ) :=
  (den_same (show prT[26]? = prT[3]? from rfl) d _ μ).trans (r_gcd d a b μ)
theorem e_lratio (d : Nat) {u v : Int} (r : Rat) (μ : Mem) (he : r = Rat.divInt u v) (hv : v ≠ 0) {n : Nat} (h : v.natAbs ≤ 2 ^ n) (hn : n < 9000) : den subT fldT none prT (d + 2) none 27 [.int u, .int v] μ = some (.ok (fr r), μ) := by
  rw [he, den_at (F := ⟨2, 3, b__law_ratio⟩) rfl rfl (by decide)]
  obtain ⟨e1, e2⟩ := rat_eq u v hv
  have hb := gcd_le_b hv h hn (u := u)
  have hg : (Int.gcd u v : Int) ≠ 0 := by
    have := Int.gcd_pos_of_ne_zero_right u hv
    omega
  have hd : ∀ x, Builtin.divisionGoesByPylong x (Int.gcd u v : Int) = false := fun x => div_small (by simpa using hb)
  have hd' : ∀ x, Builtin.divisionGoesByPylong x (-(Int.gcd u v : Int)) = false := fun x => div_small (by simpa using hb)
  by_cases hv' : v < 0
  · rw [if_pos hv', ← Int.neg_fdiv_neg, Int.neg_neg] at e1 e2
    simp (implicitDefEqProofs := false) [execs, exec, ev, evs, evIt, asg, asgs, asgK, evCmp, ltD, outc, most, evBi, evBin, bopI, dcOf, sqOf, isCls, isCl, blO, intO, dat_int, eqv_int, gc_int, gc_bl, gc_fr, fx0, fx1, b__law_ratio, r_lcommon, hv', hg, hd', hv, fr, e1, e2]
  · rw [if_neg hv'] at e1 e2
    simp (implicitDefEqProofs := false) [execs, exec, ev, evs, evIt, asg, asgs, asgK, evCmp, ltD, outc, most, evBi, evBin, bopI, dcOf, sqOf, isCls, isCl, blO, intO, dat_int, eqv_int, gc_int, gc_bl, gc_fr, fx0, fx1, b__law_ratio, r_lcommon, hv', hg, hd, hv, fr, e1, e2]
section
variable {p q : Rat} {a b a' b' : Nat}
end
end MI
end
section
set_option Elab.async false
set_option linter.all false
set_option maxRecDepth 100000
set_option maxHeartbeats 4000000
set_option exponentiation.threshold 20000
namespace MI
open PySem PySem.Spec PyProof.Rows L2
theorem forL_nxt {gd : List (Nat × List MV)} {step : MV → Env → Mem → RS} {x : MV} {xs : List MV} {ρ ρ' : Env} {μ μ' : Mem} (hg : gdOk μ gd = true) (h : step x ρ μ = some (.nxt ρ', μ')) : forL gd step (x :: xs) ρ μ = forL gd step xs ρ' μ' := by
  conv => lhs; unfold forL
  rw [if_pos hg, h]
theorem forL_nil {gd : List (Nat × List MV)} {step : MV → Env → Mem → RS} {ρ : Env} {μ : Mem} (hg : gdOk μ gd = true) : forL gd step [] ρ μ = some (.nxt ρ, μ) := by
  unfold forL
  rw [if_pos hg]
theorem asg_fr (W : Wd) (gs : GS) (q : Rat) (ρ : Env) (μ : Mem) : asg W (.tp gs) (fr q) ρ μ = asgs W gs [.int q.num, .int q.den] ρ μ := by simp only [fr, asg]
theorem Bd0 : Bd 0 0 0 := by constructor <;> decide
theorem Bd1 : Bd 0 0 1 := by constructor <;> decide
abbrev pr23 : G := .tp (.cons (.nm 2) (.cons (.nm 3) .nil))
noncomputable abbrev stp (W : Wd) (g : G) (b : SS) : MV → Env → Mem → RS := fun x ρ μ => match asg W g x ρ μ with
  | some (ρ', μ') => execs W b ρ' μ'
  | none => none
theorem timesB_step {a b a' b' : Nat} (d : Nat) (x : MV) (acc q : Rat) (o2 o3 : Option MV) (μ : Mem) (h : Bd a b acc) (h' : Bd a' b' q) (hb : b + b' < 9000) (h1 : a + a' < 100000) :
    stp (wdAt subT fldT none prT (d + 2) none) pr23 (.cons (.asg (.nm 1) (.app false 27 (.cons (.bin .mul (.idx (.var 1) (.con (.int 0))) (.var 2)) (.cons (.bin .mul (.idx (.var 1) (.con (.int 1))) (.var 3)) .nil)) [])) .nil) (fr q) [some x, some (fr acc), o2, o3] μ = some (.nxt [some x, some (fr (acc * q)), some (.int q.num), some (.int q.den)], μ) := by
  have m1 := mul_ok h.1 h'.1 (by omega)
  have m3 := mul_ok (show (acc.den : Int).natAbs ≤ 2 ^ b by simpa using h.2) (show (q.den : Int).natAbs ≤ 2 ^ b' by simpa using h'.2) (by omega)
  have e := e_lratio d (acc * q) μ (mul_dvi acc q) (den_nz acc q) (den_mul h.2 h'.2) hb
  simp only [stp, asg_fr]
  simp (implicitDefEqProofs := false) [execs, exec, ev, evs, evIt, asg, asgs, asgK, evCmp, ltD, outc, most, evBi, evBin, bopI, dcOf, sqOf, isCls, isCl, blO, intO, dat_int, eqv_int, gc_int, gc_bl, gc_fr, fx0, fx1,  m1, m3, e]
theorem ix30 (μ : Mem) (x y z : MV) : evIdx μ (.tup [x, y, z]) (.int 0) = some x := by simp [evIdx, dcOf, sqOf, L2.atI, L2.ixN]
theorem ix31 (μ : Mem) (x y z : MV) : evIdx μ (.tup [x, y, z]) (.int 1) = some y := by simp [evIdx, dcOf, sqOf, L2.atI, L2.ixN]
theorem ix32 (μ : Mem) (x y z : MV) : evIdx μ (.tup [x, y, z]) (.int 2) = some z := by simp [evIdx, dcOf, sqOf, L2.atI, L2.ixN]
/-- plain values, so deep at most -/
def Pl : Nat → MV → Prop
  | _, .non => True
  | _, .bl _ => True
  | _, .int _ => True
  | _, .str s => (PyData.str s).canLay0 = true
  | n + 1, .tup xs => xs.length ≤ 1000 ∧ ∀ x ∈ xs, Pl n x
  | n + 1, .lv xs => xs.length ≤ 1000 ∧ ∀ x ∈ xs, Pl n x
  | _, _ => False
theorem Pl_up : ∀ {n : Nat} {v : MV}, Pl n v → Pl (n + 1) v
  | n, .non, h => by unfold Pl at h ⊢; trivial
  | n, .bl _, h => by unfold Pl at h ⊢; trivial
  | n, .int _, h => by unfold Pl at h ⊢; trivial
  | n, .str _, h => by unfold Pl at h ⊢; exact h
  | 0, .tup xs, h => by unfold Pl at h; exact h.elim
  | 0, .lv xs, h => by unfold Pl at h; exact h.elim
  | n + 1, .tup xs, h => by unfold Pl at h ⊢; exact ⟨h.1, fun x hx => Pl_up (h.2 x hx)⟩
  | n + 1, .lv xs, h => by unfold Pl at h ⊢; exact ⟨h.1, fun x hx => Pl_up (h.2 x hx)⟩
  | n, .loc _, h => by cases n <;> (unfold Pl at h; exact h.elim)
  | n, .exo _ _, h => by cases n <;> (unfold Pl at h; exact h.elim)
  | n, .thk _, h => by cases n <;> (unfold Pl at h; exact h.elim)
  | n, .fl _, h => by cases n <;> (unfold Pl at h; exact h.elim)
theorem forL_all {step : MV → Env → Mem → RS} {μ : Mem} {P : Env → Prop} : ∀ {xs : List MV}, (∀ x ∈ xs, ∀ ρ, P ρ → ∃ ρ', step x ρ μ = some (.nxt ρ', μ) ∧ P ρ') → ∀ {ρ}, P ρ → ∃ ρ', forL [] step xs ρ μ = some (.nxt ρ', μ) ∧ P ρ'
  | [], _, ρ, h => ⟨ρ, forL_nil rfl, h⟩
  | x :: xs, hs, ρ, h => by
    obtain ⟨ρ1, e, h1⟩ := hs x List.mem_cons_self ρ h
    obtain ⟨ρ2, e2, h2⟩ := forL_all (fun y hy => hs y (List.mem_cons_of_mem _ hy)) h1
    exact ⟨ρ2, (forL_nxt rfl e).trans e2, h2⟩
theorem atI_nat {α : Type} {xs : List α} {k : Nat} (h : k < xs.length) : L2.atI xs (k : Int) = some xs[k] := by
  have : (k : Int) < xs.length := by omega
  simp [L2.atI, L2.ixN, this, h]
theorem ixt_nat (μ : Mem) {xs : List MV} {k : Nat} (h : k < xs.length) : evIdx μ (.tup xs) (.int k) = some xs[k] := by simp [evIdx, dcOf, sqOf, atI_nat h]
theorem ixl_nat (μ : Mem) {xs : List MV} {k : Nat} (h : k < xs.length) : evIdx μ (.lv xs) (.int k) = some xs[k] := by simp [evIdx, dcOf, sqOf, atI_nat h]
abbrev likB : SS := .cons (.ite (.nt (.app false 24 (.cons (.idx (.var 0) (.var 2)) (.cons (.idx (.var 1) (.var 2)) .nil)) [])) (.cons (.ret (.con (.bl false))) .nil) .nil) .nil
theorem lik_for (d : Nat) (v : MV) (xs : List MV) (μ : Mem) (hx : ∀ k, (h : k < xs.length) → evIdx μ v (.int k) = some xs[k]) (hd : ∀ x ∈ xs, den subT fldT none prT d none 24 [x, x] μ = some (.ok (.bl true), μ)) :
    ∃ o, forL [] (stp (wdAt subT fldT none prT d none) (.nm 2) likB) ((List.range xs.length).map fun (k : Nat) => MV.int k) [some v, some v, none] μ = some (.nxt [some v, some v, o], μ) := by
  have := forL_all (step := stp (wdAt subT fldT none prT d none) (.nm 2) likB) (μ := μ) (P := fun ρ => ∃ o, ρ = [some v, some v, o]) (xs := (List.range xs.length).map fun (k : Nat) => MV.int k) (fun x hx' ρ hρ => by
    obtain ⟨k, hk, rfl⟩ := List.mem_map.mp hx'
    obtain ⟨o, rfl⟩ := hρ
    have hk := List.mem_range.mp hk
    have e1 := hx k hk
    have e2 := hd xs[k] (List.getElem_mem hk)
    refine ⟨_, ?_, ⟨some (.int k), rfl⟩⟩
    simp (implicitDefEqProofs := false) [execs, exec, ev, evs, evIt, asg, asgs, asgK, evCmp, ltD, outc, most, evBi, evBin, bopI, dcOf, sqOf, isCls, isCl, blO, intO, dat_int, eqv_int, gc_int, gc_bl, gc_fr, fx0, fx1, stp, e1, e2]) (ρ := [some v, some v, none]) ⟨none, rfl⟩
  obtain ⟨ρ', e, o, rfl⟩ := this
  exact ⟨o, e⟩
theorem small_len {xs : List MV} (h : xs.length ≤ 1000) : small (xs.length : Int) = true := by
  unfold small
  simp only [Bool.and_eq_true, decide_eq_true_eq]
  omega
def likT : SS := .cons (.fr (.nm 2) (.rng (.cons (.blt .len (.cons (.var 1) .nil)) .nil)) likB) (.cons (.ret (.con (.bl true))) .nil)
theorem lik_tail (W : Wd) (v : MV) (xs : List MV) (μ : Mem) {o : Option MV} (h : evBi μ .len [v] = some (.int xs.length)) (hl : xs.length ≤ 1000) (e : forL [] (stp W (.nm 2) likB) ((List.range xs.length).map fun (k : Nat) => MV.int k) [some v, some v, none] μ = some (.nxt [some v, some v, o], μ)) : execs W likT [some v, some v, none] μ = some (.ret (.bl true), μ) := by
  have e2 : exec W (.fr (.nm 2) (.rng (.cons (.blt .len (.cons (.var 1) .nil)) .nil)) likB) [some v, some v, none] μ = _ := (show _ = forL [] (stp W (.nm 2) likB) ((List.range xs.length).map fun (k : Nat) => MV.int k) [some v, some v, none] μ by simp (implicitDefEqProofs := false) [exec, evIt, ev, evs, h, rngOf, small_len hl] <;> rfl).trans e
  unfold likT
  simp only [execs]
  rw [e2, seqK_nxt]
  simp (implicitDefEqProofs := false) [exec, ev]
theorem lik_body : b__law_like = (.cons (.ite (.cmp .isn (.var 1) (.con .non)) (.cons (.ret (.cmp .isn (.var 0) (.con .non))) .nil) .nil) (.cons (.ite (.isi (.var 1) [.bool]) (.cons (.ret (.an (.isi (.var 0) [.bool]) (.cmp .eq (.var 0) (.var 1)))) .nil) .nil) (.cons (.ite (.isi (.var 1) [.int]) (.cons (.ret (.an (.isi (.var 0) [.int]) (.an (.nt (.isi (.var 0) [.bool])) (.cmp .eq (.var 0) (.var 1))))) .nil) .nil) (.cons (.ite (.isi (.var 1) [.str]) (.cons (.ret (.an (.isi (.var 0) [.str]) (.cmp .eq (.var 0) (.var 1)))) .nil) .nil) (.cons (.ite (.orr (.an (.isi (.var 1) [.tuple]) (.nt (.isi (.var 0) [.tuple]))) (.an (.isi (.var 1) [.list]) (.nt (.isi (.var 0) [.list])))) (.cons (.ret (.con (.bl false))) .nil) .nil) (.cons (.ite (.cmp .ne (.blt .len (.cons (.var 0) .nil)) (.blt .len (.cons (.var 1) .nil))) (.cons (.ret (.con (.bl false))) .nil) .nil) likT)))))) := rfl
theorem like_in (n : Nat) (v : MV) (hv : Pl n v) (d : Nat) (μ : Mem) (ih : ∀ m x, m + 1 = n → Pl m x → den subT fldT none prT d none 24 [x, x] μ = some (.ok (.bl true), μ)) : den subT fldT none prT (d + 1) none 24 [v, v] μ = some (.ok (.bl true), μ) := by
  rw [den_at (F := ⟨2, 3, b__law_like⟩) rfl rfl (by decide)]
  show outc (execs (wdAt subT fldT none prT d none) b__law_like [some v, some v, none] μ) = _
  rw [lik_body]
  cases v with
  | non => simp (implicitDefEqProofs := false) [execs, exec, ev, evs, evIt, asg, asgs, asgK, evCmp, ltD, outc, most, evBi, evBin, bopI, dcOf, sqOf, isCls, isCl, blO, intO, dat_int, eqv_int, gc_int, gc_bl, gc_fr, fx0, fx1, ]
  | bl b => simp (implicitDefEqProofs := false) [execs, exec, ev, evs, evIt, asg, asgs, asgK, evCmp, ltD, outc, most, evBi, evBin, bopI, dcOf, sqOf, isCls, isCl, blO, intO, dat_int, eqv_int, gc_int, gc_bl, gc_fr, fx0, fx1, dat, frz, MV.rd, MV.toD, SeqAt.shaped, PyData.canLay0, PyData.depth, PyData.eqv]
  | int i => simp (implicitDefEqProofs := false) [execs, exec, ev, evs, evIt, asg, asgs, asgK, evCmp, ltD, outc, most, evBi, evBin, bopI, dcOf, sqOf, isCls, isCl, blO, intO, dat_int, eqv_int, gc_int, gc_bl, gc_fr, fx0, fx1, ]
  | str s =>
    have hs : (PyData.str s).canLay0 = true := by cases n <;> exact hv
    simp (implicitDefEqProofs := false) [execs, exec, ev, evs, evIt, asg, asgs, asgK, evCmp, ltD, outc, most, evBi, evBin, bopI, dcOf, sqOf, isCls, isCl, blO, intO, dat_int, eqv_int, gc_int, gc_bl, gc_fr, fx0, fx1, dat_str _ _ hs, eqv_str]
  | tup xs =>
    match n, hv with
    | n + 1, hv =>
      obtain ⟨hl, ha⟩ := hv
      obtain ⟨o, e⟩ := lik_for d (.tup xs) xs μ (fun k h => ixt_nat μ h) (fun x hx => ih n x rfl (ha x hx))
      have e2 := lik_tail (wdAt subT fldT none prT d none) (.tup xs) xs μ (by simp [evBi, dcOf, sqOf]) hl e
      simp (implicitDefEqProofs := false) [execs, exec, ev, evs, evIt, asg, asgs, asgK, evCmp, ltD, outc, most, evBi, evBin, bopI, dcOf, sqOf, isCls, isCl, blO, intO, dat_int, eqv_int, gc_int, gc_bl, gc_fr, fx0, fx1, e2]
  | lv xs =>
    match n, hv with
    | n + 1, hv =>
      obtain ⟨hl, ha⟩ := hv
      obtain ⟨o, e⟩ := lik_for d (.lv xs) xs μ (fun k h => ixl_nat μ h) (fun x hx => ih n x rfl (ha x hx))
      have e2 := lik_tail (wdAt subT fldT none prT d none) (.lv xs) xs μ (by simp [evBi, dcOf, sqOf]) hl e
      simp (implicitDefEqProofs := false) [execs, exec, ev, evs, evIt, asg, asgs, asgK, evCmp, ltD, outc, most, evBi, evBin, bopI, dcOf, sqOf, isCls, isCl, blO, intO, dat_int, eqv_int, gc_int, gc_bl, gc_fr, fx0, fx1, e2]
  | loc _ => cases n <;> exact hv.elim
  | exo _ _ => cases n <;> exact hv.elim
  | thk _ => cases n <;> exact hv.elim
  | fl _ => cases n <;> exact hv.elim
theorem r_like : ∀ (n : Nat) (v : MV), Pl n v → ∀ (d : Nat) (μ : Mem), n ≤ d → den subT fldT none prT (d + 1) none 24 [v, v] μ = some (.ok (.bl true), μ)
  | 0, v, hv, d, μ, _ => like_in 0 v hv d μ fun m x h => by omega
  | n + 1, v, hv, 0, μ, h => by omega
  | n + 1, v, hv, d + 1, μ, h => like_in (n + 1) v hv (d + 1) μ fun m x e hx => r_like n x (by cases e; exact hx) d μ (by omega)
theorem Pl_fr (q : Rat) : Pl 1 (fr q) := ⟨by simp, fun x hx => by simp at hx; rcases hx with rfl | rfl <;> exact trivial⟩
end MI
end
section
set_option Elab.async false
set_option linter.all false
set_option maxRecDepth 100000
set_option maxHeartbeats 4000000
set_option exponentiation.threshold 20000
namespace MI
open PySem PySem.Spec PyProof.Rows L2
theorem r_mixed (d : Nat) (c n : Int) (μ : Mem) (h0 : 0 ≤ n) (h1 : n < 2 ^ 50) : ∃ v, den subT fldT none prT (d + 1) none 19 [.int c, .int n] μ = some (.ok (.int v), μ) := by
  rw [den_at (F := ⟨2, 3, b__law_mixed⟩) rfl rfl (by decide)]
  have m1 : n.natAbs < 2 ^ 64 := by omega
  have m2 : (1 + 2 * n).natAbs < 2 ^ 64 := by omega
  have k1 : ∀ i, mulOk i n = true := fun i => by simp only [mulOk, m1, decide_true, Bool.or_true, Bool.true_or]
  have k2 : ∀ i, mulOk i (1 + 2 * n) = true := fun i => by simp only [mulOk, m2, decide_true, Bool.or_true, Bool.true_or]
  have k3 : ∀ i, mulOk i 48271 = true := fun i => by simp [mulOk]
  have k4 : ∀ i, mulOk i 69621 = true := fun i => by simp [mulOk]
  have k5 : ∀ x, Builtin.divisionGoesByPylong x 7 = false := fun x => div_small (by decide)
  simp (implicitDefEqProofs := false) [execs, exec, ev, evs, evIt, asg, asgs, asgK, evCmp, ltD, outc, most, evBi, evBin, bopI, dcOf, sqOf, isCls, isCl, blO, intO, dat_int, eqv_int, gc_int, gc_bl, gc_fr, fx0, fx1, b__law_mixed, k1, k2, k3, k4, k5]
/-- the memory that draws go over -/
def M (cs : List Int) (s : Nat) (gs : List Int) (rest : Mem) : Mem := .dic [(.inr "cells", .lv (cs.map .int)), (.inr "great", .loc 1), (.inr "spot", .int s)] :: .lst (gs.map .int) :: rest
theorem q_cs : (("cells" : Str) = "spot") = False := by simp; decide +kernel
theorem q_cg : (("cells" : Str) = "great") = False := by simp; decide +kernel
theorem q_gs : (("great" : Str) = "spot") = False := by simp; decide +kernel
theorem q_sg : (("spot" : Str) = "great") = False := by simp; decide +kernel
theorem q_gc : (("great" : Str) = "cells") = False := by simp; decide +kernel
theorem q_sc : (("spot" : Str) = "cells") = False := by simp; decide +kernel
section
variable (cs : List Int) (s : Nat) (gs : List Int) (rest : Mem)
theorem M_spot : evIdx (M cs s gs rest) (.loc 0) (.str "spot") = some (.int s) := by simp [M, evIdx, dcOf, keyOf, getK, q_cs, q_gs]
theorem M_great : evIdx (M cs s gs rest) (.loc 0) (.str "great") = some (.loc 1) := by simp [M, evIdx, dcOf, keyOf, getK, q_cg, q_sg]
theorem M_cells : evIdx (M cs s gs rest) (.loc 0) (.str "cells") = some (.lv (cs.map .int)) := by simp [M, evIdx, dcOf, keyOf, getK]
theorem M_set (t : Nat) : asgIx (M cs s gs rest) (.loc 0) (.str "spot") (.int t) = some (M cs t gs rest) := by simp [M, asgIx, keyOf, setK, q_cs, q_gs, most]
theorem M_len : evBi (M cs s gs rest) .len [.loc 1] = some (.int gs.length) := by simp [M, evBi, dcOf, sqOf]
theorem M_at {k : Nat} (h : k < gs.length) : evIdx (M cs s gs rest) (.loc 1) (.int k) = some (.int gs[k]) := by
  have : k < (gs.map MV.int).length := by simpa using h
  simp [M, evIdx, dcOf, sqOf, atI_nat this]
theorem M_asg {k : Nat} (h : k < gs.length) (v : Int) : asgIx (M cs s gs rest) (.loc 1) (.int k) (.int v) = some (M cs s (gs.set k v) rest) := by
  have h' : (k : Int) < gs.length := by omega
  simp [M, asgIx, L2.ixN, h', List.map_set]
theorem rds_ints (lk : Nat → Option MV) : ∀ gs : List Int, MV.rds lk (gs.map .int) = some (gs.map .int)
  | [] => rfl
  | g :: gs => by simp [MV.rds, MV.rd, rds_ints lk gs]
theorem toDs_ints : ∀ gs : List Int, MV.toDs (gs.map .int) = some (gs.map .int)
  | [] => rfl
  | g :: gs => by simp [MV.toDs, MV.toD, toDs_ints gs]
theorem canLay_ints : ∀ gs : List Int, PyData.canLayAll0 (gs.map .int) = true
  | [] => rfl
  | g :: gs => by simp [PyData.canLayAll0, PyData.canLay0, canLay_ints gs]
theorem depth_ints : ∀ gs : List Int, PyData.depthAll (gs.map .int) ≤ 1
  | [] => by simp [PyData.depthAll]
  | g :: gs => by have := depth_ints gs; simp [PyData.depthAll, PyData.depth]; omega
theorem M_dat : dat (M cs s gs rest) (.loc 1) = some (.list (gs.map .int)) := by
  have h := canLay_ints gs
  have h2 := depth_ints gs
  have h3 : PyData.depth (.list (gs.map .int)) ≤ 64 := by simp only [PyData.depth]; omega
  simp [dat, frz, MV.rd, look, M, rds_ints, MV.toD, toDs_ints, SeqAt.shaped, PyData.canLay0, h, h3]
theorem lts_ints (n : Nat) : ∀ gs : List Int, MV.lts n (gs.map .int) = true
  | [] => rfl
  | g :: gs => by simp [MV.lts, MV.lt, lts_ints n gs]
theorem gc_M (v : MV) (hv : v.noL = true) (s' : Nat) (gs' : List Int) : gc (List.length (M cs s gs rest)) (M cs s gs rest) (some (.ok v, M cs s' gs' rest)) = some (.ok v, M cs s' gs' rest) := by
  have h : gcOk (M cs s gs rest).length (M cs s gs rest) (M cs s' gs' rest) = true := by
    simp [M, gcOk, gcOk_self, MO.lt, MV.lts, MV.lt, lts_ints]
  have e : (M cs s' gs' rest).take (M cs s gs rest).length = M cs s' gs' rest := List.take_of_length_le (by simp [M])
  simp [gc, e, h, frz, rd_noL hv]
end
theorem dat_nil (μ : Mem) : dat μ (.lv []) = some (.list []) := by simp [dat, frz, MV.rd, MV.rds, MV.toD, MV.toDs, SeqAt.shaped, PyData.canLay0, PyData.canLayAll0, PyData.depth, PyData.depthAll]
theorem eqv_nil (gs : List Int) : PyData.eqv (.list (gs.map .int)) (.list []) = decide (gs = []) := by
  cases gs with
  | nil => simp [PyData.eqv, PyData.eqvAll]
  | cons g gs => simp [PyData.eqv, PyData.eqvAll]
theorem eqv_ll : PyData.eqv (.list []) (.list []) = true := by simp [PyData.eqv, PyData.eqvAll]
theorem M_1 (cs : List Int) (s : Nat) (gs : List Int) (rest : Mem) : (M cs s gs rest)[1]? = some (.lst (gs.map .int)) := rfl
theorem keyS (s : Str) : keyOf (.str s) = some (.inr s) := rfl
theorem r_draw (d : Nat) {l : Int} (hl : 0 < l) (hl2 : l.natAbs < 2 ^ 9000) {cs : List Int} {s : Nat} (hc : cs.length = 64) (hs : s < 2 ^ 40) (gs : List Int) (rest : Mem) :
    ∃ v gs', 0 ≤ v ∧ v < l ∧ den subT fldT none prT (d + 2) none 21 [.loc 0, .int l] (M cs s gs rest) = some (.ok (.int v), M cs (s + 1) gs' rest) := by
  rw [den_at (F := ⟨2, 6, b__law_draw⟩) rfl rfl (by decide)]
  have hm : ∀ x : Int, 0 ≤ x.fmod l ∧ x.fmod l < l := fun x => ⟨Int.fmod_nonneg_of_pos _ hl, Int.fmod_lt_of_pos _ hl⟩
  have l0 : l ≠ 0 := by omega
  have hd : ∀ x, Builtin.divisionGoesByPylong x l = false := fun x => div_small hl2
  have hd64 : ∀ x, Builtin.divisionGoesByPylong x 64 = false := fun x => div_small (by decide)
  have k31 : ∀ x, mulOk 31 x = true := fun x => by simp [mulOk]
  have es : ∀ gs, asgIx (M cs s gs rest) (.loc 0) (.str "spot") (.int ((s : Int) + 1)) = some (M cs (s + 1) gs rest) := fun gs => M_set cs s gs rest (s + 1)
  have e64 : ((s : Int).fmod 64) = ((s % 64 : Nat) : Int) := by
    rw [Int.fmod_eq_emod_of_nonneg _ (by omega)]; omega
  have e64' : ((s : Int).fmod 64) = (s : Int) % 64 := by rw [e64]; simp
  have ic : ∀ μ, evIdx μ (.lv (cs.map .int)) (.int ((s % 64 : Nat) : Int)) = some (.int (cs[s % 64]'(by omega))) := fun μ => by
    rw [ixl_nat μ (show s % 64 < (cs.map MV.int).length by simp; omega)]
    simp
  rw [← e64, e64'] at ic
  obtain ⟨v1, f1⟩ := r_mixed d (cs[s % 64]'(by omega) + 31 * (s : Int).fdiv 64) s (M cs (s + 1) gs rest) (by omega) (by omega)
  obtain ⟨v2, f2⟩ := r_mixed d v1 (s + 7) (M cs (s + 1) gs rest) (by omega) (by omega)
  by_cases hg : gs = []
  · refine ⟨v2.fmod l, gs, (hm _).1, (hm _).2, ?_⟩
    subst hg
    simp (implicitDefEqProofs := false) [execs, exec, ev, evs, evIt, asg, asgs, asgK, evCmp, ltD, outc, most, evBi, evBin, bopI, dcOf, sqOf, isCls, isCl, blO, intO, dat_int, eqv_int, gc_int, gc_bl, gc_fr, fx0, fx1, b__law_draw, M_spot, es, M_great, M_cells, M_dat, dat_nil, eqv_ll, e64', ic, k31, hd64, l0, f1, f2]
  · have hn : gs.length ≠ 0 := by simpa using hg
    have hl : s % gs.length < gs.length := Nat.mod_lt _ (by omega)
    have eh : ((s : Int).fmod gs.length) = ((s % gs.length : Nat) : Int) := by
      rw [Int.fmod_eq_emod_of_nonneg _ (by omega)]; omega
    have ia := M_at cs (s + 1) gs rest hl
    have eh' : ((s : Int).fmod gs.length) = (s : Int) % gs.length := by rw [eh]; simp
    rw [← eh, eh'] at ia
    by_cases h0 : 0 < gs[s % gs.length]
    · have isa := M_asg cs (s + 1) gs rest hl (gs[s % gs.length].fdiv l)
      rw [← eh, eh'] at isa
      refine ⟨gs[s % gs.length].fmod l, gs.set (s % gs.length) (gs[s % gs.length].fdiv l), (hm _).1, (hm _).2, ?_⟩
      simp (implicitDefEqProofs := false) [execs, exec, ev, evs, evIt, asg, asgs, asgK, evCmp, ltD, outc, most, evBi, evBin, bopI, dcOf, sqOf, isCls, isCl, blO, intO, dat_int, eqv_int, gc_int, gc_bl, gc_fr, fx0, fx1, b__law_draw, M_spot, es, M_great, M_cells, M_dat, dat_nil, eqv_nil, hg, M_1, hn, eh', ia, h0, isa, l0, hd]
    · refine ⟨v2.fmod l, gs, (hm _).1, (hm _).2, ?_⟩
      simp (implicitDefEqProofs := false) [execs, exec, ev, evs, evIt, asg, asgs, asgK, evCmp, ltD, outc, most, evBi, evBin, bopI, dcOf, sqOf, isCls, isCl, blO, intO, dat_int, eqv_int, gc_int, gc_bl, gc_fr, fx0, fx1, b__law_draw, M_spot, es, M_great, M_cells, M_dat, dat_nil, eqv_nil, hg, M_1, hn, eh', ia, h0, e64', ic, k31, hd64, l0, f1, f2]
theorem g_draw (d : Nat) (l : Int) (hl : 0 < l) (hl2 : l.natAbs < 2 ^ 9000) {cs : List Int} {s : Nat} (hc : cs.length = 64) (hs : s < 2 ^ 40) (gs : List Int) (rest : Mem) :
    ∃ v gs', 0 ≤ v ∧ v < l ∧ gc (List.length (M cs s gs rest)) (M cs s gs rest) (den subT fldT none prT (d + 2) none 21 [.loc 0, .int l] (M cs s gs rest)) = some (.ok (.int v), M cs (s + 1) gs' rest) := by
  obtain ⟨v, gs', h1, h2, e⟩ := r_draw d hl hl2 hc hs gs rest
  refine ⟨v, gs', h1, h2, ?_⟩
  rw [e]
  exact gc_M cs s gs rest (.int v) rfl (s + 1) gs'
theorem pos_dvi {u v : Int} (hu : 0 < u) (hv : 0 < v) : 0 < Rat.divInt u v := by
  have h : (0 : Rat) < (u : Rat) / (v : Rat) := by
    rw [Rat.div_def]
    exact Rat.mul_pos (by exact_mod_cast hu) (Rat.inv_pos.mpr (by exact_mod_cast hv))
  have e : Rat.divInt u v = (u : Rat) / (v : Rat) := by rw [Rat.divInt_eq_div]
  rw [e]; exact h
theorem dvi_draw {u v l : Int} {a : Nat} (hu : 0 ≤ u) (hv : 0 ≤ v) (h1 : u < l) (h2 : v < l) (ha : l ≤ (2 ^ a : Nat)) : 0 < Rat.divInt (1 + u) (1 + v) ∧ Bd a a (Rat.divInt (1 + u) (1 + v)) :=
  ⟨pos_dvi (by omega) (by omega), dvi_le (by omega) (by omega) (by omega)⟩
section
variable (d : Nat) {cs : List Int} {s : Nat} (hc : cs.length = 64) (hs : s < 2 ^ 39) (gs : List Int) (rest : Mem)
include hc hs
theorem r_strength : ∃ q s' gs', 0 < q ∧ Bd 20 20 q ∧ s' ≤ s + 3 ∧ den subT fldT none prT (d + 3) none 29 [.loc 0] (M cs s gs rest) = some (.ok (fr q), M cs s' gs' rest) := by
  rw [den_at (F := ⟨1, 2, b__law_strength⟩) rfl rfl (by decide)]
  obtain ⟨v1, g1, p1, q1, e1⟩ := g_draw d 8 (by decide) (by decide) hc (show s < 2 ^ 40 by omega) gs rest
  by_cases h3 : v1 < 3
  · refine ⟨1, s + 1, g1, by decide, ⟨by decide, by decide⟩, by omega, ?_⟩
    simp (implicitDefEqProofs := false) [execs, exec, ev, evs, evIt, asg, asgs, asgK, evCmp, ltD, outc, most, evBi, evBin, bopI, dcOf, sqOf, isCls, isCl, blO, intO, dat_int, eqv_int, gc_int, gc_bl, gc_fr, fx0, fx1, b__law_strength, e1, h3, fr1]
  by_cases h7 : v1 < 7
  · obtain ⟨v2, g2, p2, q2, e2⟩ := g_draw d 6 (by decide) (by decide) hc (show s + 1 < 2 ^ 40 by omega) g1 rest
    obtain ⟨v3, g3, p3, q3, e3⟩ := g_draw d 5 (by decide) (by decide) hc (show s + 1 + 1 < 2 ^ 40 by omega) g2 rest
    obtain ⟨z1, z2⟩ := dvi_draw (a := 20) p2 p3 q2 (show v3 < 6 by omega) (by decide)
    refine ⟨_, _, g3, z1, z2, (show s + 1 + 1 + 1 ≤ s + 3 by omega), ?_⟩
    have f := e_lratio d (Rat.divInt (1 + v2) (1 + v3)) (M cs (s + 1 + 1 + 1) g3 rest) rfl (by omega) (n := 20) (by omega) (by decide)
    simp (implicitDefEqProofs := false) [execs, exec, ev, evs, evIt, asg, asgs, asgK, evCmp, ltD, outc, most, evBi, evBin, bopI, dcOf, sqOf, isCls, isCl, blO, intO, dat_int, eqv_int, gc_int, gc_bl, gc_fr, fx0, fx1, b__law_strength, e1, h3, h7, e2, e3, f]
  · obtain ⟨v2, g2, p2, q2, e2⟩ := g_draw d 1000000 (by decide) (by decide) hc (show s + 1 < 2 ^ 40 by omega) g1 rest
    obtain ⟨v3, g3, p3, q3, e3⟩ := g_draw d 1000000 (by decide) (by decide) hc (show s + 1 + 1 < 2 ^ 40 by omega) g2 rest
    obtain ⟨z1, z2⟩ := dvi_draw (a := 20) p2 p3 q2 q3 (by decide)
    refine ⟨_, _, g3, z1, z2, (show s + 1 + 1 + 1 ≤ s + 3 by omega), ?_⟩
    have f := e_lratio d (Rat.divInt (1 + v2) (1 + v3)) (M cs (s + 1 + 1 + 1) g3 rest) rfl (by omega) (n := 20) (by omega) (by decide)
    simp (implicitDefEqProofs := false) [execs, exec, ev, evs, evIt, asg, asgs, asgK, evCmp, ltD, outc, most, evBi, evBin, bopI, dcOf, sqOf, isCls, isCl, blO, intO, dat_int, eqv_int, gc_int, gc_bl, gc_fr, fx0, fx1, b__law_strength, e1, h3, h7, e2, e3, f]
end
end MI
end
section
set_option Elab.async false
set_option linter.all false
set_option maxRecDepth 100000
set_option maxHeartbeats 4000000
set_option exponentiation.threshold 20000
namespace MI
open PySem PySem.Spec PyProof.Rows L2
theorem ltD_int (μ : Mem) (i j : Int) : ltD μ (.int i) (.int j) = some (decide (i < j)) := rfl
/-- a wire -/
def wr (a b : Int) (q : Rat) : MV := .tup [.int a, .int b, fr q]
theorem r_whole2 (d : Nat) (i l m : Int) (μ : Mem) : den subT fldT none prT (d + 1) none 0 [.int i, .int l, .int m] μ = some (.ok (.bl (decide (l ≤ i) && decide (i ≤ m))), μ) := by
  rw [den_at (F := ⟨3, 3, b_is_whole⟩) rfl rfl (by decide)]
  by_cases h : l ≤ i
  · have h' : ¬ i < l := by omega
    simp (implicitDefEqProofs := false) [execs, exec, ev, evs, evIt, asg, asgs, asgK, evCmp, ltD, outc, most, evBi, evBin, bopI, dcOf, sqOf, isCls, isCl, blO, intO, dat_int, eqv_int, gc_int, gc_bl, gc_fr, fx0, fx1, b_is_whole, h, h']
    by_cases h2 : i ≤ m
    · have : ¬ m < i := by omega
      simp [h2, this]
    · have : m < i := by omega
      simp [h2, this]
  · have h' : i < l := by omega
    simp (implicitDefEqProofs := false) [execs, exec, ev, evs, evIt, asg, asgs, asgK, evCmp, ltD, outc, most, evBi, evBin, bopI, dcOf, sqOf, isCls, isCl, blO, intO, dat_int, eqv_int, gc_int, gc_bl, gc_fr, fx0, fx1, b_is_whole, h, h']
theorem wx0 (μ : Mem) (a b : Int) (q : Rat) : evIdx μ (wr a b q) (.int 0) = some (.int a) := ix30 _ _ _ _
theorem wx1 (μ : Mem) (a b : Int) (q : Rat) : evIdx μ (wr a b q) (.int 1) = some (.int b) := ix31 _ _ _ _
theorem wx2 (μ : Mem) (a b : Int) (q : Rat) : evIdx μ (wr a b q) (.int 2) = some (fr q) := ix32 _ _ _ _
theorem noL_wr (a b : Int) (q : Rat) : (wr a b q).noL = true := by simp [wr, MV.noL, MV.noLs, noL_fr]
theorem row_wr (d : Nat) (a b : Int) (q : Rat) (μ : Mem) : den subT fldT none prT (d + 1) none 1 [wr a b q, .int 3] μ = some (.ok (.bl true), μ) := r_row d _ 3 μ
theorem r_wire (d : Nat) (n a b : Int) (q : Rat) (μ : Mem) (h0 : 0 ≤ a) (h1 : a < b) (h2 : b ≤ n - 1) (hq : 0 < q) : den subT fldT none prT (d + 3) none 7 [.int n, wr a b q] μ = some (.ok (.bl true), μ) := by
  rw [den_at (F := ⟨2, 2, b_is_wire⟩) rfl rfl (by decide)]
  have hq := num_pos' hq
  have e1 : a ≤ n - 1 := by omega
  have e2 : 0 ≤ b := by omega
  simp (implicitDefEqProofs := false) [execs, exec, ev, evs, evIt, asg, asgs, asgK, evCmp, ltD, outc, most, evBi, evBin, bopI, dcOf, sqOf, isCls, isCl, blO, intO, dat_int, eqv_int, gc_int, gc_bl, gc_fr, fx0, fx1, b_is_wire, row_wr, r_whole2, wx0, wx1, wx2, r_isfr, h0, h1, h2, hq, e1, e2]
theorem dat_wr (μ : Mem) (a b : Int) (q : Rat) : dat μ (wr a b q) = some (.tuple [.int a, .int b, .tuple [.int q.num, .int q.den]]) := by
  simp [wr, fr, dat, frz, MV.rd, MV.rds, MV.toD, MV.toDs, SeqAt.shaped, PyData.canLay0, PyData.canLayAll0, PyData.depth, PyData.depthAll]
theorem lexI (x y : Int) (r t : List (Int ⊕ List Nat)) : PyProof.Rows.lexLt itemOrd (.inl x :: r) (.inl y :: t) = (decide (x < y) || (!decide (y < x) && PyProof.Rows.lexLt itemOrd r t)) := rfl
theorem lt_wr (μ : Mem) {a b a' b' : Int} {q q' : Rat} (h : a < a' ∨ (a = a' ∧ b < b')) : ltD μ (wr a' b' q') (wr a b q) = some false := by
  have e : ltD μ (wr a' b' q') (wr a b q) = (dat μ (wr a' b' q')).bind fun d => (dat μ (wr a b q)).bind fun e => if W.alike d e = true ∧ d.depth ≤ 60 ∧ noNone d = true then some (W.dataLt d e) else none := by
    unfold wr; rfl
  rw [e, dat_wr, dat_wr]
  have k : W.dataLt (.tuple [.int a', .int b', .tuple [.int q'.num, .int q'.den]]) (.tuple [.int a, .int b, .tuple [.int q.num, .int q.den]]) = false := by
    rcases h with h | ⟨rfl, h⟩
    · have h' : ¬ a' < a := by omega
      simp only [W.dataLt, W.keyToks, W.keyToksAll, List.cons_append, List.nil_append]
      erw [lexI, lexI, lexI, lexI]
      simp [h, h']
    · have h' : ¬ b' < b := by omega
      simp only [W.dataLt, W.keyToks, W.keyToksAll, List.cons_append, List.nil_append]
      erw [lexI, lexI, lexI, lexI]
      simp [h, h']
  simp [W.alike, W.alikeAll, PyData.depth, PyData.depthAll, noNone, k]
theorem dat_tn (μ : Mem) : dat μ (.tup []) = some (.tuple []) := by simp [dat, frz, MV.rd, MV.rds, MV.toD, MV.toDs, SeqAt.shaped, PyData.canLay0, PyData.canLayAll0, PyData.depth, PyData.depthAll]
theorem eqv_tn : PyData.eqv (.tuple []) (.tuple []) = true := by simp [PyData.eqv, PyData.eqvAll]
theorem r_row0 (d : Nat) (xs : List MV) (μ : Mem) : den subT fldT none prT (d + 1) none 1 [.tup xs, .non] μ = some (.ok (.bl true), μ) := by
  rw [den_at (F := ⟨2, 2, b_is_row⟩) rfl rfl (by decide)]
  simp (implicitDefEqProofs := false) [execs, exec, ev, evs, evIt, asg, asgs, asgK, evCmp, ltD, outc, most, evBi, evBin, bopI, dcOf, sqOf, isCls, isCl, blO, intO, dat_int, eqv_int, gc_int, gc_bl, gc_fr, fx0, fx1, b_is_row]
end MI
end
section
set_option Elab.async false
set_option linter.all false
set_option maxRecDepth 100000
set_option maxHeartbeats 4000000
set_option exponentiation.threshold 20000
namespace MI
open PySem PySem.Spec PyProof.Rows L2
theorem look_lst {n k d : Nat} {μ : Mem} {xs ys : List MV} (h : ¬ k < n) (e : μ[k]? = some (.lst xs)) (r : MV.rds (look n μ d) xs = some ys) : look n μ (d + 1) k = some (.lv ys) := by
  rw [look, if_neg h, e]
  show (MV.rds (look n μ d) xs).map MV.lv = _
  rw [r]
  rfl
theorem forL_inv {step : MV → Env → Mem → RS} {P : Env → Mem → Prop} : ∀ {xs : List MV}, (∀ x ∈ xs, ∀ ρ μ, P ρ μ → ∃ ρ' μ', step x ρ μ = some (.nxt ρ', μ') ∧ P ρ' μ') → ∀ {ρ μ}, P ρ μ → ∃ ρ' μ', forL [] step xs ρ μ = some (.nxt ρ', μ') ∧ P ρ' μ'
  | [], _, ρ, μ, h => ⟨ρ, μ, forL_nil rfl, h⟩
  | x :: xs, hs, ρ, μ, h => by
    obtain ⟨ρ1, μ1, e, h1⟩ := hs x List.mem_cons_self ρ μ h
    obtain ⟨ρ2, μ2, e2, h2⟩ := forL_inv (fun y hy => hs y (List.mem_cons_of_mem _ hy)) h1
    exact ⟨ρ2, μ2, (forL_nxt rfl e).trans e2, h2⟩
theorem mem_enumF : ∀ {ns : List Int} {n : Nat} {v : MV}, v ∈ enumF n (ns.map .int) → ∃ (k : Nat) (c : Int), v = .tup [.int k, .int c]
  | [], n, v, h => by simp [enumF] at h
  | c :: ns, n, v, h => by
    simp only [List.map_cons, enumF, List.mem_cons] at h
    rcases h with rfl | h
    · exact ⟨n, c, rfl⟩
    · exact mem_enumF h
theorem lcmL_map {step : MV → Mem → R (Option MV)} {μ : Mem} (f : Int → Int) (h : ∀ n : Int, step (.int n) μ = some (.ok (some (.int (f n))), μ)) : ∀ (ns : List Int) (acc : List MV), acc.length + ns.length < most → lcmL [] step (ns.map .int) acc μ = some (.ok (acc ++ ns.map fun n => .int (f n)), μ)
  | [], acc, _ => by simp [lcmL, gdOk]
  | n :: ns, acc, hl => by
    simp only [List.length_cons] at hl
    have e : gdOk μ [] = true ∧ acc.length < most := ⟨rfl, by omega⟩
    rw [List.map_cons, lcmL, if_pos e, h]
    show lcmL [] step (ns.map .int) (acc ++ [.int (f n)]) μ = _
    rw [lcmL_map f h ns _ (by simp; omega)]
    simp
theorem L_at (cs : List Int) {k : Nat} (h : k < cs.length) : evIdx [.lst (cs.map .int)] (.loc 0) (.int k) = some (.int cs[k]) := by
  have : k < (cs.map MV.int).length := by simpa using h
  simp [evIdx, dcOf, sqOf, atI_nat this]
theorem L_set (cs : List Int) {k : Nat} (h : k < cs.length) (v : Int) : asgIx [.lst (cs.map .int)] (.loc 0) (.int k) (.int v) = some [.lst ((cs.set k v).map .int)] := by
  have h' : (k : Int) < cs.length := by omega
  simp [asgIx, L2.ixN, h', List.map_set]
abbrev fo1 : SS := .cons (.asg (.ix (.var 1) (.bin .mod (.blt .int1 (.cons (.var 2) .nil)) (.con (.int 64)))) (.bin .mod (.blt .int1 (.cons (.bin .add (.bin .mul (.idx (.var 1) (.bin .mod (.blt .int1 (.cons (.var 2) .nil)) (.con (.int 64)))) (.con (.int 48271))) (.var 3)) .nil)) (.con (.int 2147483647)))) .nil
abbrev fo2 : SS := .cons (.asg (.ix (.var 1) (.var 2)) (.bin .mod (.blt .int1 (.cons (.bin .add (.idx (.var 1) (.var 2)) (.bin .mul (.idx (.var 1) (.bin .sub (.var 2) (.con (.int 1)))) (.con (.int 16807)))) .nil)) (.con (.int 2147483647)))) .nil
def FoP (x : MV) (ρ : Env) (μ : Mem) : Prop := ∃ cs o2 o3, cs.length = 64 ∧ ρ = [some x, some (.loc 0), o2, o3] ∧ μ = [.lst ((cs : List Int).map .int)]
theorem fo1_step (W : Wd) (x : MV) (k : Nat) (c : Int) {ρ : Env} {μ : Mem} (h : FoP x ρ μ) : ∃ ρ' μ', stp W pr23 fo1 (.tup [.int k, .int c]) ρ μ = some (.nxt ρ', μ') ∧ FoP x ρ' μ' := by
  obtain ⟨cs, o2, o3, hc, rfl, rfl⟩ := h
  have hk : k % 64 < cs.length := by omega
  have e64 : ((k : Int).fmod 64) = ((k % 64 : Nat) : Int) := by
    rw [Int.fmod_eq_emod_of_nonneg _ (by omega)]; omega
  have e64' : ((k : Int).fmod 64) = (k : Int) % 64 := by rw [e64]; simp
  have ia := L_at cs hk
  have is := fun v => L_set cs hk v
  rw [← e64, e64'] at ia
  rw [← e64, e64'] at is
  have k1 : ∀ i, mulOk i 48271 = true := fun i => by simp [mulOk]
  refine ⟨_, _, ?_, cs.set (k % 64) ((cs[k % 64] * 48271 + c).fmod 2147483647), some (.int k), some (.int c), by simpa using hc, rfl, rfl⟩
  simp only [stp]
  simp (implicitDefEqProofs := false) [execs, exec, ev, evs, evIt, asg, asgs, asgK, evCmp, ltD_int, outc, most, evBi, evBin, bopI, dcOf, sqOf, isCls, isCl, blO, intO, dat_int, eqv_int, gc_int, gc_bl, gc_fr, fx0, fx1, e64', ia, is, k1]
theorem fo2_step (W : Wd) (x : MV) (k : Nat) (hk : k < 63) {ρ : Env} {μ : Mem} (h : FoP x ρ μ) : ∃ ρ' μ', stp W (.nm 2) fo2 (.int (1 + k)) ρ μ = some (.nxt ρ', μ') ∧ FoP x ρ' μ' := by
  obtain ⟨cs, o2, o3, hc, rfl, rfl⟩ := h
  have hk : k < cs.length := by omega
  have hk' : 1 + k < cs.length := by omega
  have ia := L_at cs hk
  have ib := L_at cs hk'
  have is := fun v => L_set cs hk' v
  have en : ((1 + k : Nat) : Int) = 1 + (k : Int) := by omega
  have ek : 1 + (k : Int) - 1 = k := by omega
  rw [en] at ib
  rw [en] at is
  have k1 : ∀ i, mulOk i 16807 = true := fun i => by simp [mulOk]
  refine ⟨_, _, ?_, cs.set (1 + k) ((cs[1 + k] + cs[k] * 16807).fmod 2147483647), some (.int (1 + k)), o3, by simpa using hc, rfl, rfl⟩
  simp only [stp]
  simp (implicitDefEqProofs := false) [execs, exec, ev, evs, evIt, asg, asgs, asgK, evCmp, ltD_int, outc, most, evBi, evBin, bopI, dcOf, sqOf, isCls, isCl, blO, intO, dat_int, eqv_int, gc_int, gc_bl, gc_fr, fx0, fx1, ia, ib, is, ek, k1]
theorem fo_ini (d : Nat) (x : MV) : ∃ cs : List Int, cs.length = 64 ∧ exec (wdAt subT fldT none prT d none) (.asg (.nm 1) (.chg (.lcm [2] (.rng (.cons (.con (.int 64)) .nil)) (.nm 2) (.con (.bl true)) (.bin .add (.con (.int 17)) (.var 2))))) [some x, none, none, none] [] = some (.nxt [some x, some (.loc 0), none, none], [.lst (cs.map .int)]) := by
  refine ⟨((List.range 64).map fun (k : Nat) => (k : Int)).map fun n => 17 + n, by simp, ?_⟩
  have hr : rngOf [.int 64] = some (((List.range 64).map fun (k : Nat) => (k : Int)).map .int) := by simp [rngOf, small]
  have hl := fun (step : MV → Mem → R (Option MV)) (h : ∀ n : Int, step (.int n) [] = some (.ok (some (.int (17 + n))), [])) => lcmL_map (μ := []) (fun n => 17 + n) h ((List.range 64).map fun (k : Nat) => (k : Int)) [] (by simp [most])
  simp (implicitDefEqProofs := false) only [exec, ev, evs, evIt, bnd_ok, hr, ok_some, Option.map_some]
  rw [hl _ (fun n => by simp (implicitDefEqProofs := false) [execs, exec, ev, evs, evIt, asg, asgs, asgK, evCmp, ltD_int, outc, most, evBi, evBin, bopI, dcOf, sqOf, isCls, isCl, blO, intO, dat_int, eqv_int, gc_int, gc_bl, gc_fr, fx0, fx1, wipe])]
  simp (implicitDefEqProofs := false) [execs, exec, ev, evs, evIt, asg, asgs, asgK, evCmp, ltD_int, outc, most, evBi, evBin, bopI, dcOf, sqOf, isCls, isCl, blO, intO, dat_int, eqv_int, gc_int, gc_bl, gc_fr, fx0, fx1, ]
theorem r_folded (d : Nat) (x : MV) (ns : List Int) (hx : sqOf [] x = some (ns.map .int)) (hx' : ∀ μ, sqOf μ x = some (ns.map .int)) (hg : ∀ xs, gdOf x xs = []) : ∃ cs : List Int, cs.length = 64 ∧ gc 0 [] (den subT fldT none prT (d + 1) none 20 [x] []) = some (.ok (.lv (cs.map .int)), []) := by
  rw [den_at (F := ⟨1, 4, b__law_folded⟩) rfl rfl (by decide)]
  obtain ⟨cs, hc, e0⟩ := fo_ini d x
  obtain ⟨ρ1, μ1, e1, h1⟩ := forL_inv (step := stp (wdAt subT fldT none prT d none) pr23 fo1) (P := FoP x) (xs := enumF 0 (ns.map .int)) (fun v hv ρ μ h => by
    obtain ⟨k, c, rfl⟩ := mem_enumF hv
    exact fo1_step _ x k c h) (ρ := [some x, some (.loc 0), none, none]) (μ := [.lst (cs.map .int)]) ⟨cs, none, none, hc, rfl, rfl⟩
  obtain ⟨ρ2, μ2, e2, h2⟩ := forL_inv (step := stp (wdAt subT fldT none prT d none) (.nm 2) fo2) (P := FoP x) (xs := (List.range 63).map fun (k : Nat) => MV.int (1 + k)) (fun v hv ρ μ h => by
    obtain ⟨k, hk, rfl⟩ := List.mem_map.mp hv
    exact fo2_step _ x k (List.mem_range.mp hk) h) h1
  obtain ⟨cs2, o2, o3, hc2, rfl, rfl⟩ := h2
  refine ⟨cs2, hc2, ?_⟩
  have f1 : exec (wdAt subT fldT none prT d none) (.fr pr23 (.enu (.var 0)) fo1) [some x, some (.loc 0), none, none] [.lst (cs.map .int)] = some (.nxt ρ1, μ1) := (show _ = forL [] (stp (wdAt subT fldT none prT d none) pr23 fo1) (enumF 0 (ns.map .int)) [some x, some (.loc 0), none, none] [.lst (cs.map .int)] by
    simp (implicitDefEqProofs := false) [exec, evIt, ev, hx', hg] <;> rfl).trans e1
  obtain ⟨cs1, p2, p3, hc1, rfl, rfl⟩ := h1
  have f2 : exec (wdAt subT fldT none prT d none) (.fr (.nm 2) (.rng (.cons (.con (.int 1)) (.cons (.con (.int 64)) .nil))) fo2) [some x, some (.loc 0), p2, p3] [.lst (cs1.map .int)] = _ := (show _ = forL [] (stp (wdAt subT fldT none prT d none) (.nm 2) fo2) ((List.range 63).map fun (k : Nat) => MV.int (1 + k)) [some x, some (.loc 0), p2, p3] [.lst (cs1.map .int)] by
    simp (implicitDefEqProofs := false) [exec, evIt, ev, evs, rngOf, small] <;> rfl).trans e2
  show gc 0 [] (outc (execs (wdAt subT fldT none prT d none) b__law_folded [some x, none, none, none] [])) = _
  simp only [b__law_folded, execs]
  rw [e0, seqK_nxt, f1, seqK_nxt, f2, seqK_nxt]
  have r : MV.rds (look 0 [.lst (cs2.map .int)] 5) (cs2.map .int) = some (cs2.map .int) := rds_ints _ cs2
  have g : frz 0 [.lst (cs2.map .int)] (.loc 0) = some (.lv (cs2.map .int)) := by
    unfold frz
    rw [MV.rd]
    exact look_lst (by omega) rfl r
  simp (implicitDefEqProofs := false) [exec, ev, outc, gc, gcOk, g]
theorem nd_keys : ([.inr "cells", .inr "great", .inr "spot"] : List L2.Key).Nodup := by
  simp [q_cs, q_cg, q_gs]
theorem r_begun (d : Nat) (x : MV) (ns : List Int) (hx' : ∀ μ, sqOf μ x = some (ns.map .int)) (hg : ∀ xs, gdOf x xs = []) (hl : ns.length ≤ 63) : ∃ cs gs : List Int, cs.length = 64 ∧ den subT fldT none prT (d + 2) none 22 [x] [] = some (.ok (.loc 0), M cs 0 gs []) := by
  rw [den_at (F := ⟨1, 3, b__law_begun⟩) rfl rfl (by decide)]
  obtain ⟨cs, hc, e⟩ := r_folded d x ns (hx' []) hx' hg
  refine ⟨cs, ns.map (fun n => if 1000000000000000000 ≤ n then n else 0), hc, ?_⟩
  have e1 : exec (wdAt subT fldT none prT (d + 1) none) (.asg (.nm 1) (.dsp [.inr "cells", .inr "great", .inr "spot"] (.cons (.app false 20 (.cons (.var 0) .nil) []) (.cons (.lst .nil) (.cons (.con (.int 0)) .nil))))) [some x, none, none] [] = some (.nxt [some x, some (.loc 0), none], [.dic [(.inr "cells", .lv (cs.map .int)), (.inr "great", .lv []), (.inr "spot", .int 0)]]) := by
    simp (implicitDefEqProofs := false) [execs, exec, ev, evs, evIt, asg, asgs, asgK, evCmp, ltD_int, outc, most, evBi, evBin, bopI, dcOf, sqOf, isCls, isCl, blO, intO, dat_int, eqv_int, gc_int, gc_bl, gc_fr, fx0, fx1, e, q_cs, q_cg, q_gs]
  have hl2 := fun (μ : Mem) (step : MV → Mem → R (Option MV)) (h : ∀ n : Int, step (.int n) μ = some (.ok (some (.int (if 1000000000000000000 ≤ n then n else 0))), μ)) => lcmL_map (μ := μ) (fun n => if 1000000000000000000 ≤ n then n else 0) h ns [] (by simp [most]; omega)
  have e2 : exec (wdAt subT fldT none prT (d + 1) none) (.asg (.ix (.var 1) (.con (.str "great"))) (.chg (.lcm [2] (.seq (.var 0)) (.nm 2) (.con (.bl true)) (.ife (.cmp .ge (.var 2) (.bin .pow (.con (.int 10)) (.con (.int 18)))) (.var 2) (.con (.int 0)))))) [some x, some (.loc 0), none] [.dic [(.inr "cells", .lv (cs.map .int)), (.inr "great", .lv []), (.inr "spot", .int 0)]] = some (.nxt [some x, some (.loc 0), none], M cs 0 (ns.map (fun n => if 1000000000000000000 ≤ n then n else 0)) []) := by
    simp (implicitDefEqProofs := false) [exec, ev, evIt, hx', hg]
    rw [hl2 _ _ (fun n => by
      by_cases h : 1000000000000000000 ≤ n
      · have h' : ¬ n < 1000000000000000000 := by omega
        simp (implicitDefEqProofs := false) [execs, exec, ev, evs, evIt, asg, asgs, asgK, evCmp, ltD_int, outc, most, evBi, evBin, bopI, dcOf, sqOf, isCls, isCl, blO, intO, dat_int, eqv_int, gc_int, gc_bl, gc_fr, fx0, fx1, wipe, h, h']
      · have h' : n < 1000000000000000000 := by omega
        simp (implicitDefEqProofs := false) [execs, exec, ev, evs, evIt, asg, asgs, asgK, evCmp, ltD_int, outc, most, evBi, evBin, bopI, dcOf, sqOf, isCls, isCl, blO, intO, dat_int, eqv_int, gc_int, gc_bl, gc_fr, fx0, fx1, wipe, h, h'])]
    simp (implicitDefEqProofs := false) [execs, exec, ev, evs, evIt, asg, asgs, asgK, evCmp, ltD_int, outc, most, evBi, evBin, bopI, dcOf, sqOf, isCls, isCl, blO, intO, dat_int, eqv_int, gc_int, gc_bl, gc_fr, fx0, fx1, asgIx, keyS, setK, q_cg, q_sg, M]
  show outc (execs (wdAt subT fldT none prT (d + 1) none) b__law_begun [some x, none, none] []) = _
  simp only [b__law_begun, execs]
  rw [e1, seqK_nxt, e2, seqK_nxt]
  simp (implicitDefEqProofs := false) [exec, ev, outc]
end MI
end
section
set_option Elab.async false
set_option linter.all false
set_option maxRecDepth 100000
set_option maxHeartbeats 4000000
set_option exponentiation.threshold 20000
namespace MI
open PySem PySem.Spec PyProof.Rows L2
/-- a comprehension that changes nothing -/
theorem lcmL_gen {α : Type} {f : α → MV} {g : α → Option MV} {step : MV → Mem → R (Option MV)} {μ : Mem} {gd : List (Nat × List MV)} (hg : gdOk μ gd = true) : ∀ (as : List α) (acc : List MV), (∀ a ∈ as, step (f a) μ = some (.ok (g a), μ)) → acc.length + as.length < most → lcmL gd step (as.map f) acc μ = some (.ok (acc ++ as.filterMap g), μ)
  | [], acc, _, _ => by simp [lcmL, hg]
  | a :: as, acc, h, hl => by
    simp only [List.length_cons] at hl
    have e := h a List.mem_cons_self
    rw [List.map_cons, lcmL, if_pos ⟨hg, by omega⟩, e]
    cases hga : g a with
    | none =>
      show lcmL gd step (as.map f) acc μ = _
      rw [lcmL_gen hg as acc (fun b hb => h b (List.mem_cons_of_mem _ hb)) (by omega), List.filterMap_cons_none hga]
    | some y =>
      show lcmL gd step (as.map f) (acc ++ [y]) μ = _
      rw [lcmL_gen hg as _ (fun b hb => h b (List.mem_cons_of_mem _ hb)) (by simp; omega), List.filterMap_cons_some hga]
      simp
/-- a walk over things, told by what was walked -/
theorem forL_pre {α : Type} {f : α → MV} {step : MV → Env → Mem → RS} {gd : List (Nat × List MV)} {P : List α → Env → Mem → Prop} (hgd : ∀ pre ρ μ, P pre ρ μ → gdOk μ gd = true) : ∀ (as pre : List α) {ρ : Env} {μ : Mem}, (∀ pre' a post, pre ++ as = pre' ++ a :: post → ∀ ρ μ, P pre' ρ μ → ∃ ρ' μ', step (f a) ρ μ = some (.nxt ρ', μ') ∧ P (pre' ++ [a]) ρ' μ') → P pre ρ μ → ∃ ρ' μ', forL gd step (as.map f) ρ μ = some (.nxt ρ', μ') ∧ P (pre ++ as) ρ' μ'
  | [], pre, ρ, μ, _, h => ⟨ρ, μ, forL_nil (hgd _ _ _ h), by simpa using h⟩
  | a :: as, pre, ρ, μ, hs, h => by
    obtain ⟨ρ1, μ1, e, h1⟩ := hs pre a as rfl ρ μ h
    obtain ⟨ρ2, μ2, e2, h2⟩ := forL_pre hgd as (pre ++ [a]) (fun pre' b post q => hs pre' b post (by simpa using q)) h1
    exact ⟨ρ2, μ2, (forL_nxt (hgd _ _ _ h) e).trans e2, by simpa using h2⟩
/-- a wire -/
structure Wr where
  a : Nat
  b : Nat
  q : Rat
def wv (w : Wr) : MV := wr w.a w.b w.q
def wD (w : Wr) : PyData := .tuple [.int w.a, .int w.b, .tuple [.int w.q.num, .int w.q.den]]
def nv (n p : Nat) (ws : List Wr) : MV := .tup [.int n, .int p, .tup (ws.map wv)]
theorem toD_wv (w : Wr) : MV.toD (wv w) = some (wD w) := by simp [wv, wr, fr, MV.toD, MV.toDs, wD]
theorem noL_wvs : ∀ ws : List Wr, MV.noLs (ws.map wv) = true
  | [] => rfl
  | w :: ws => by
    have := noL_wvs ws
    simp only [List.map_cons, MV.noLs, this, Bool.and_true]
    exact noL_wr _ _ _
theorem noL_nv (n p : Nat) (ws : List Wr) : (nv n p ws).noL = true := by simp [nv, MV.noL, MV.noLs, noL_wvs]
def wlt (u w : Wr) : Bool := W.dataLt (wD u) (wD w)
theorem ltD_wv (μ : Mem) (u w : Wr) : ltD μ (wv u) (wv w) = some (wlt u w) := by
  have e : ltD μ (wv u) (wv w) = (dat μ (wv u)).bind fun d => (dat μ (wv w)).bind fun e => if W.alike d e = true ∧ d.depth ≤ 60 ∧ noNone d = true then some (W.dataLt d e) else none := by
    unfold wv wr; rfl
  rw [e, wv, wv, dat_wr, dat_wr]
  simp [W.alike, W.alikeAll, PyData.depth, PyData.depthAll, noNone, wlt, wD]
/-- a net as it is drawn -/
structure Good (n p : Nat) (ws : List Wr) : Prop where
  hn : n ≤ 48
  hp : p ≤ n
  hp8 : p ≤ 8
  hw : ws.length ≤ 40
  ok : ∀ w ∈ ws, w.a < w.b ∧ w.b < n ∧ 0 < w.q ∧ Bd 20 20 w.q
  so : ws.Pairwise fun u w => wlt w u = false
theorem r_wv (d : Nat) (n : Nat) (w : Wr) (μ : Mem) (h : w.a < w.b ∧ w.b < n ∧ 0 < w.q) : den subT fldT none prT (d + 3) none 7 [.int n, wv w] μ = some (.ok (.bl true), μ) := r_wire d n w.a w.b w.q μ (by omega) (by omega) (by omega) h.2.2
abbrev nfB : SS := .cons (.ite (.orr (.nt (.app false 7 (.cons (.idx (.var 0) (.con (.int 0))) (.cons (.var 2) .nil)) [])) (.an (.cmp .gt (.var 1) (.con (.int 0))) (.cmp .lt (.var 2) (.idx (.idx (.var 0) (.con (.int 2))) (.bin .sub (.var 1) (.con (.int 1))))))) (.cons (.ret (.tup (.cons (.var 1) .nil))) .nil) .nil) .nil
abbrev pr12 : G := .tp (.cons (.nm 1) (.cons (.nm 2) .nil))
theorem enumF_map : ∀ (ws : List Wr) (k : Nat), enumF k (ws.map wv) = (ws.zipIdx k).map fun p => .tup [.int (p.2 : Nat), wv p.1]
  | [], _ => rfl
  | w :: ws, k => by simp [enumF, enumF_map ws (k + 1)]
theorem nf_for (d : Nat) {n p : Nat} {ws : List Wr} (g : Good n p ws) (μ : Mem) : ∃ o1 o2, forL [] (stp (wdAt subT fldT none prT (d + 3) none) pr12 nfB) (enumF 0 (ws.map wv)) [some (nv n p ws), none, none] μ = some (.nxt [some (nv n p ws), o1, o2], μ) := by
  rw [enumF_map]
  obtain ⟨ρ', μ', e, ⟨o1, o2, rfl⟩, rfl⟩ := forL_pre (f := fun p : Wr × Nat => MV.tup [.int (p.2 : Nat), wv p.1]) (gd := []) (step := stp (wdAt subT fldT none prT (d + 3) none) pr12 nfB) (P := fun _ ρ μ' => (∃ o1 o2, ρ = [some (nv n p ws), o1, o2]) ∧ μ' = μ) (fun _ _ _ _ => rfl) (ws.zipIdx 0) [] (ρ := [some (nv n p ws), none, none]) (μ := μ)
    (fun pre' q post hq ρ μ' ⟨⟨o1, o2, e1⟩, e2⟩ => by
      subst e1 e2
      obtain ⟨w, k⟩ := q
      have hm : (w, k) ∈ ws.zipIdx 0 := by
        have : (w, k) ∈ ([] ++ ws.zipIdx 0) := by rw [hq]; simp
        simpa using this
      have hkl : k < ws.length := (List.mem_zipIdx' hm).1
      have hwk : w = ws[k] := (List.mem_zipIdx' hm).2
      clear hm hq
      subst hwk
      have hw := g.ok ws[k] (List.getElem_mem hkl)
      refine ⟨_, _, ?_, ⟨some (.int k), some (wv ws[k]), rfl⟩, rfl⟩
      have e1 := r_wv d n ws[k] μ' ⟨hw.1, hw.2.1, hw.2.2.1⟩
      have i0 : evIdx μ' (nv n p ws) (.int 0) = some (.int n) := ix30 _ _ _ _
      have i2 : evIdx μ' (nv n p ws) (.int 2) = some (.tup (ws.map wv)) := ix32 _ _ _ _
      by_cases h0 : k = 0
      · subst h0
        simp (implicitDefEqProofs := false) [execs, exec, ev, evs, evIt, asg, asgs, asgK, evCmp, ltD_int, outc, most, evBi, evBin, bopI, dcOf, sqOf, isCls, isCl, blO, intO, dat_int, eqv_int, gc_int, gc_bl, gc_fr, fx0, fx1, stp, e1, i0]
      · have h0' : 0 < k := by omega
        have hk1 : k - 1 < (ws.map wv).length := by simp; omega
        have i3 := ixt_nat μ' hk1
        have ek : ((k - 1 : Nat) : Int) = (k : Int) - 1 := by omega
        rw [ek] at i3
        have hso : wlt ws[k] (ws[k - 1]'(by omega)) = false := List.pairwise_iff_getElem.mp g.so (k - 1) k (by omega) hkl (by omega)
        have i4 := ltD_wv μ' ws[k] (ws[k - 1]'(by omega))
        rw [hso] at i4
        simp only [List.getElem_map] at i3
        simp (implicitDefEqProofs := false) [execs, exec, ev, evs, evIt, asg, asgs, asgK, evCmp, ltD_int, outc, most, evBi, evBin, bopI, dcOf, sqOf, isCls, isCl, blO, intO, dat_int, eqv_int, gc_int, gc_bl, gc_fr, fx0, fx1, stp, e1, i0, h0', i2, i3, i4]) ⟨⟨none, none, rfl⟩, rfl⟩
  exact ⟨o1, o2, e⟩
theorem r_net_fault (d : Nat) {n p : Nat} {ws : List Wr} (g : Good n p ws) (μ : Mem) : den subT fldT none prT (d + 4) none 8 [nv n p ws] μ = some (.ok (.tup []), μ) := by
  rw [den_at (F := ⟨1, 3, b_net_fault⟩) rfl rfl (by decide)]
  obtain ⟨o1, o2, e⟩ := nf_for d g μ
  have f : exec (wdAt subT fldT none prT (d + 3) none) (.fr pr12 (.enu (.idx (.var 0) (.con (.int 2)))) nfB) [some (nv n p ws), none, none] μ = _ := (show _ = forL [] (stp (wdAt subT fldT none prT (d + 3) none) pr12 nfB) (enumF 0 (ws.map wv)) [some (nv n p ws), none, none] μ by
    simp (implicitDefEqProofs := false) [exec, evIt, ev, nv, ix32, sqOf, gdOf] <;> rfl).trans e
  have i0 : evIdx μ (nv n p ws) (.int 0) = some (.int n) := ix30 _ _ _ _
  have i1 : evIdx μ (nv n p ws) (.int 1) = some (.int p) := ix31 _ _ _ _
  have i2 : evIdx μ (nv n p ws) (.int 2) = some (.tup (ws.map wv)) := ix32 _ _ _ _
  have r0 := r_row (d + 2) [.int n, .int p, .tup (ws.map wv)] 3 μ
  have r1 := r_row0 (d + 2) (ws.map wv) μ
  change den subT fldT none prT (d + 3) none 1 [nv n p ws, .int 3] μ = _ at r0
  have h1 := g.hn
  have h2 := g.hp
  have h3 := g.hp8
  have h4 := g.hw
  have w1 : ((n : Int) ≤ 48) := by omega
  have w2 : ((p : Int) ≤ if 8 < (n : Int) then 8 else (n : Int)) := by split <;> omega
  have w3 : ¬ (40 : Int) < ((ws.length : Nat) : Int) := by omega
  have w2' : ((p : Int) ≤ if (8 : Int) < (n : Int) then 8 else (n : Int)) := w2
  show outc (execs (wdAt subT fldT none prT (d + 3) none) b_net_fault [some (nv n p ws), none, none] μ) = _
  unfold b_net_fault
  generalize hX : (S.fr pr12 (.enu (.idx (.var 0) (.con (.int 2)))) nfB) = X at f
  simp (implicitDefEqProofs := false) [execs, exec, ev, evs, evIt, asg, asgs, asgK, evCmp, ltD_int, outc, most, evBi, evBin, bopI, dcOf, sqOf, isCls, isCl, blO, intO, dat_int, eqv_int, gc_int, gc_bl, gc_fr, fx0, fx1, r0, r1, r_whole2, i0, i1, i2, w1, w2, w3, f]
theorem r_need_net (d : Nat) {n p : Nat} {ws : List Wr} (g : Good n p ws) (μ : Mem) : den subT fldT none prT (d + 5) none 9 [nv n p ws] μ = some (.ok (nv n p ws), μ) := by
  rw [den_at (F := ⟨1, 2, b_need_net⟩) rfl rfl (by decide)]
  have e := r_net_fault d g μ
  have g := gc_same (μ := μ) (v := .tup []) rfl
  simp (implicitDefEqProofs := false) [execs, exec, ev, evs, evIt, asg, asgs, asgK, evCmp, ltD_int, outc, most, evBi, evBin, bopI, dcOf, sqOf, isCls, isCl, blO, intO, dat_int, eqv_int, gc_int, gc_bl, gc_fr, fx0, fx1, b_need_net, e, g, dat_tn, eqv_tn]
end MI
end
section
set_option Elab.async false
set_option linter.all false
set_option maxRecDepth 100000
set_option maxHeartbeats 4000000
set_option exponentiation.threshold 20000
namespace MI
open PySem PySem.Spec PyProof.Rows L2
abbrev iv (l : List Nat) : List MV := l.map fun (k : Nat) => MV.int k
theorem all_bl (μ : Mem) (bs : List Bool) : evBi μ .all1 [.lv (bs.map .bl)] = some (.bl (bs.all id)) := by
  have e : ∀ bs : List Bool, (bs.map MV.bl).mapM blO = some bs := by
    intro bs
    induction bs with
    | nil => rfl
    | cons b bs ih => rw [List.map_cons, List.mapM_cons, ih]; rfl
  simp only [evBi, lsOf, Option.bind_some, e, Option.map_some]
theorem len_tv (μ : Mem) (xs : List MV) : evBi μ .len [.tup xs] = some (.int xs.length) := by simp [evBi, dcOf, sqOf]
theorem len_lv (μ : Mem) (xs : List MV) : evBi μ .len [.lv xs] = some (.int xs.length) := by simp [evBi, dcOf, sqOf]
theorem lcm_iv {gd : List (Nat × List MV)} {step : MV → Mem → R (Option MV)} {μ : Mem} (hg : gdOk μ gd = true) (l : List Nat) (g : Nat → MV) (hl : l.length ≤ 1000) (h : ∀ k ∈ l, step (.int (k : Nat)) μ = some (.ok (some (g k)), μ)) : lcmL gd step (iv l) [] μ = some (.ok (l.map g), μ) := by
  have e := lcmL_gen (f := fun k : Nat => MV.int k) (g := fun k => some (g k)) hg l [] h (by simp [most]; omega)
  rw [e, List.nil_append, List.filterMap_eq_map']
theorem r_wholes (d : Nat) (l : List Nat) (m : Int) (μ : Mem) (hl : l.length ≤ 1000) : den subT fldT none prT (d + 2) none 2 [.tup (iv l), .int 0, .int m] μ = some (.ok (.bl (l.all fun k => decide ((k : Int) ≤ m))), μ) := by
  rw [den_at (F := ⟨3, 4, b_are_wholes⟩) rfl rfl (by decide)]
  have r0 := r_row0 d (iv l) μ
  have e : ev (wdAt subT fldT none prT (d + 1) none) (.lcm [3] (.seq (.var 0)) (.nm 3) (.con (.bl true)) (.app false 0 (.cons (.var 3) (.cons (.var 1) (.cons (.var 2) .nil))) [])) [some (.tup (iv l)), some (.int 0), some (.int m), none] μ = some (.ok (.lv ((l.map fun (k : Nat) => decide ((k : Int) ≤ m)).map .bl)), μ) := by
    simp (implicitDefEqProofs := false) [ev, evIt, sqOf, gdOf]
    rw [lcm_iv rfl l (fun (k : Nat) => .bl (decide ((k : Int) ≤ m))) hl fun k hk => by simp (implicitDefEqProofs := false) [execs, exec, ev, evs, evIt, asg, asgs, asgK, evCmp, ltD_int, outc, most, evBin, bopI, isCls, isCl, blO, intO, dat_int, eqv_int, gc_int, gc_bl, gc_fr, fx0, fx1, wipe, r_whole2]]
    simp
  show outc (execs (wdAt subT fldT none prT (d + 1) none) b_are_wholes [some (.tup (iv l)), some (.int 0), some (.int m), none] μ) = _
  unfold b_are_wholes
  generalize (E.lcm [3] (.seq (.var 0)) (.nm 3) (.con (.bl true)) (.app false 0 (.cons (.var 3) (.cons (.var 1) (.cons (.var 2) .nil))) [])) = X at e ⊢
  have hr : (l.all fun k => decide ((k : Int) ≤ m)) = (l.map fun (k : Nat) => decide ((k : Int) ≤ m)).all id := by simp [List.all_map, Function.comp_def]
  rw [hr]
  generalize (l.map fun (k : Nat) => decide ((k : Int) ≤ m)) = bs at e
  simp (implicitDefEqProofs := false) [execs, exec, ev, evs, evIt, asg, asgs, asgK, evCmp, ltD_int, outc, most, evBin, bopI, isCls, isCl, blO, intO, dat_int, eqv_int, gc_int, gc_bl, gc_fr, fx0, fx1, r0, e, all_bl]
theorem slc_tl (μ : Mem) (xs : List MV) : evSlc μ (.tup xs) (some 1) none = some (.tup xs.tail) := by
  simp only [evSlc, cut, HT.sIx]
  cases xs with
  | nil => simp
  | cons x xs => simp
theorem r_asc (d : Nat) (l : List Nat) (m : Int) (μ : Mem) (hl : l.length ≤ 1000) (hs : l.Pairwise (· < ·)) (hb : ∀ k ∈ l, (k : Int) ≤ m) : den subT fldT none prT (d + 3) none 10 [.tup (iv l), .int 0, .int m] μ = some (.ok (.bl true), μ) := by
  rw [den_at (F := ⟨3, 5, b_is_ascending⟩) rfl rfl (by decide)]
  have r0 := r_wholes d l m μ hl
  rw [show (l.all fun k => decide ((k : Int) ≤ m)) = true by simpa using hb] at r0
  have e : ∀ bs, bs = ((l.zip l.tail).map fun p => decide (p.1 < p.2)) → ev (wdAt subT fldT none prT (d + 2) none) (.lcm [3, 4] (.zip (.var 0) (.slc (.var 0) true (.con (.int 1)) false (.con .non))) (.tp (.cons (.nm 3) (.cons (.nm 4) .nil))) (.con (.bl true)) (.cmp .lt (.var 3) (.var 4))) [some (.tup (iv l)), some (.int 0), some (.int m), none, none] μ = some (.ok (.lv (bs.map .bl)), μ) := by
    intro bs hbs
    simp (implicitDefEqProofs := false) [ev, evIt, partO, intO, slc_tl]
    have z : (List.map (fun p : MV × MV => MV.tup [p.1, p.2]) ((iv l).zip (iv l).tail)) = (l.zip l.tail).map fun p => MV.tup [.int (p.1 : Nat), .int (p.2 : Nat)] := by
      simp only [iv, ← List.map_tail, List.zip_map, List.map_map]
      rfl
    have q := fun (step : MV → Mem → R (Option MV)) (h : ∀ p ∈ l.zip l.tail, step (MV.tup [.int (p.1 : Nat), .int (p.2 : Nat)]) μ = some (.ok (some (.bl (decide (p.1 < p.2)))), μ)) => lcmL_gen (gd := []) (step := step) (μ := μ) (f := fun p : Nat × Nat => MV.tup [.int (p.1 : Nat), .int (p.2 : Nat)]) (g := fun p => some (.bl (decide (p.1 < p.2)))) rfl (l.zip l.tail) [] h (by simp [most]; omega)
    rw [z, q _ (fun p hp => by simp (implicitDefEqProofs := false) [execs, exec, ev, evs, evIt, asg, asgs, asgK, evCmp, ltD_int, outc, most, evBin, bopI, isCls, isCl, blO, intO, dat_int, eqv_int, gc_int, gc_bl, gc_fr, fx0, fx1, wipe])]
    simp [List.filterMap_eq_map', hbs]
  have ha : ((l.zip l.tail).map fun p => decide (p.1 < p.2)).all id = true := by
    simp only [List.all_eq_true, List.mem_map, id_eq]
    rintro b ⟨p, hp, rfl⟩
    obtain ⟨i, hi, e⟩ := List.mem_iff_getElem.mp hp
    have h1 : i < l.length ∧ i + 1 < l.length := by simp at hi; omega
    have := List.pairwise_iff_getElem.mp hs i (i + 1) h1.1 h1.2 (by omega)
    rw [← e]
    simp only [List.getElem_zip, List.getElem_tail, decide_eq_true_eq]
    exact this
  show outc (execs (wdAt subT fldT none prT (d + 2) none) b_is_ascending [some (.tup (iv l)), some (.int 0), some (.int m), none, none] μ) = _
  unfold b_is_ascending
  generalize (E.lcm [3, 4] (.zip (.var 0) (.slc (.var 0) true (.con (.int 1)) false (.con .non))) (.tp (.cons (.nm 3) (.cons (.nm 4) .nil))) (.con (.bl true)) (.cmp .lt (.var 3) (.var 4))) = X at e ⊢
  have e := e _ rfl
  generalize ((l.zip l.tail).map fun p => decide (p.1 < p.2)) = bs at e ha
  simp (implicitDefEqProofs := false) [execs, exec, ev, evs, evIt, asg, asgs, asgK, evCmp, ltD_int, outc, most, evBin, bopI, isCls, isCl, blO, intO, dat_int, eqv_int, gc_int, gc_bl, gc_fr, fx0, fx1, r0, e, all_bl, ha]
theorem r_need_wires (d : Nat) (n p : Nat) (ws : List Wr) (l : List Nat) (μ : Mem) (hl : l.length ≤ 1000) (hs : l.Pairwise (· < ·)) (hb : ∀ k ∈ l, k < ws.length) : den subT fldT none prT (d + 4) none 11 [nv n p ws, .tup (iv l)] μ = some (.ok (.tup (iv l)), μ) := by
  rw [den_at (F := ⟨2, 2, b_need_wires⟩) rfl rfl (by decide)]
  have r0 := r_asc d l ((ws.length : Int) - 1) μ hl hs fun k hk => by have := hb k hk; omega
  have i2 : evIdx μ (nv n p ws) (.int 2) = some (.tup (ws.map wv)) := ix32 _ _ _ _
  simp (implicitDefEqProofs := false) [execs, exec, ev, evs, evIt, asg, asgs, asgK, evCmp, ltD_int, outc, most, evBin, bopI, isCls, isCl, blO, intO, dat_int, eqv_int, gc_int, gc_bl, gc_fr, fx0, fx1, b_need_wires, r0, i2, len_tv]
end MI
end
section
set_option Elab.async false
set_option linter.all false
set_option maxRecDepth 100000
set_option maxHeartbeats 4000000
set_option exponentiation.threshold 20000
namespace MI
open PySem PySem.Spec PyProof.Rows L2
/-- two leaders made one -/
def joinL (l : List Nat) (x y : Nat) : List Nat := l.map fun p => if p = max x y then min x y else p
/-- leaders by pairs -/
def leads : List Nat → List (Nat × Nat) → Option (List Nat)
  | l, [] => some l
  | l, (a, b) :: ps => if l.getD a 0 = l.getD b 0 then none else leads (joinL l (l.getD a 0) (l.getD b 0)) ps
def oL : Option (List Nat) → MV
  | none => .non
  | some l => .lv (iv l)
def pv (p : Nat × Nat) : MV := .tup [.int p.1, .int p.2]
theorem mergeSort_two {α : Type} (le : α → α → Bool) (a b : α) : [a, b].mergeSort le = if le a b = true then [a, b] else [b, a] := by
  simp [List.mergeSort, List.MergeSort.Internal.splitInTwo, List.merge]
theorem srt_two (μ : Mem) (x y : Nat) : evBi μ .srt1 [.tup [.int x, .int y]] = some (.lv [.int (min x y : Nat), .int (max x y : Nat)]) := by
  have e : srtOk [.int x, .int y] = true := by
    simp [srtOk, most, MV.toDs, MV.toD, PyData.depth, noNone, W.alike, srtK]
  have q : srt [.int x, .int y] = [MV.int (min x y : Nat), MV.int (max x y : Nat)] := by
    unfold srt
    rw [mergeSort_two]
    simp only [ltM, MV.toD, Option.getD_some, W.dataLt_int]
    by_cases h : (y : Int) < x
    · have h1 : min x y = y := by omega
      have h2 : max x y = x := by omega
      simp [h, h1, h2]
    · have h1 : min x y = x := by omega
      have h2 : max x y = y := by omega
      simp [h, h1, h2]
  simp [evBi, dcOf, sqOf, e, q]
theorem min_two (μ : Mem) (x y : Nat) : evBi μ .min2 [.int x, .int y] = some (.int (min x y : Nat)) := by
  simp only [evBi]
  congr 2
  split <;> omega
theorem max_two (μ : Mem) (x y : Nat) : evBi μ .max2 [.int x, .int y] = some (.int (max x y : Nat)) := by
  simp only [evBi]
  congr 2
  split <;> omega
theorem ix_iv (μ : Mem) {l : List Nat} {k : Nat} (h : k < l.length) : evIdx μ (.lv (iv l)) (.int k) = some (.int (l.getD k 0 : Nat)) := by
  rw [ixl_nat μ (show k < (iv l).length by simpa using h)]
  simp [h]
abbrev jnE : E := .lcm [7] (.seq (.var 2)) (.nm 7) (.con (.bl true)) (.ife (.cmp .eq (.var 7) (.var 6)) (.var 5) (.var 7))
theorem jn_ev (W : Wd) (l : List Nat) (x y : Nat) (o0 o1 o3 o4 o7 : Option MV) (μ : Mem) (hl : l.length ≤ 1000) : ev W jnE [o0, o1, some (.lv (iv l)), o3, o4, some (.int (min x y : Nat)), some (.int (max x y : Nat)), o7] μ = some (.ok (.lv (iv (joinL l x y))), μ) := by
  simp (implicitDefEqProofs := false) [ev, evIt, sqOf, gdOf]
  rw [lcm_iv rfl l (fun k => .int ((if k = max x y then min x y else k : Nat) : Nat)) hl fun k hk => by
    by_cases h : k = max x y
    · have hb : ((k : Int) == ((max x y : Nat) : Int)) = true := by simp only [h]; simp
      simp only [h] at hb ⊢
      simp (implicitDefEqProofs := false) [execs, exec, ev, evs, evIt, asg, asgs, asgK, evCmp, ltD_int, outc, most, evBin, bopI, isCls, isCl, blO, intO, dat_int, eqv_int, gc_int, gc_bl, gc_fr, fx0, fx1, wipe]
    · have hb : ((k : Int) == ((max x y : Nat) : Int)) = false := by simpa using fun e => h (by omega)
      generalize hm : max x y = mx at *
      generalize min x y = mi
      simp (implicitDefEqProofs := false) [execs, exec, ev, evs, evIt, asg, asgs, asgK, evCmp, ltD_int, outc, most, evBin, bopI, isCls, isCl, blO, intO, dat_int, eqv_int, gc_int, gc_bl, gc_fr, fx0, fx1, wipe, hb, h]]
  simp [joinL]
abbrev pr34 : G := .tp (.cons (.nm 3) (.cons (.nm 4) .nil))
abbrev pr56 : G := .tp (.cons (.nm 5) (.cons (.nm 6) .nil))
abbrev ldT : SS := .cons (.ite (.cmp .eq (.var 5) (.var 6)) (.cons (.ret (.con .non)) .nil) .nil) (.cons (.asg (.nm 2) jnE) .nil)
abbrev ldP : SS := .cons (.asg pr56 (.blt .srt1 (.cons (.tup (.cons (.idx (.var 2) (.var 3)) (.cons (.idx (.var 2) (.var 4)) .nil))) .nil))) ldT
abbrev ldW : SS := .cons (.asg pr56 (.tup (.cons (.blt .min2 (.cons (.idx (.var 2) (.var 3)) (.cons (.idx (.var 2) (.var 4)) .nil))) (.cons (.blt .max2 (.cons (.idx (.var 2) (.var 3)) (.cons (.idx (.var 2) (.var 4)) .nil))) .nil)))) ldT
/-- both ways to lead -/
def LdB (b : SS) : Prop := ∀ (W : Wd) (l : List Nat) (a c : Nat) (o0 o1 o3 o4 o5 o6 o7 : Option MV) (μ : Mem), a < l.length → c < l.length → l.length ≤ 1000 →
  stp W pr34 b (pv (a, c)) [o0, o1, some (.lv (iv l)), o3, o4, o5, o6, o7] μ = if l.getD a 0 = l.getD c 0 then some (.ret .non, μ) else some (.nxt [o0, o1, some (.lv (iv (joinL l (l.getD a 0) (l.getD c 0)))), some (.int a), some (.int c), some (.int (min (l.getD a 0) (l.getD c 0) : Nat)), some (.int (max (l.getD a 0) (l.getD c 0) : Nat)), o7], μ)
theorem ldT_ok (W : Wd) (l : List Nat) (x y : Nat) (o0 o1 o3 o4 o7 : Option MV) (μ : Mem) (hl : l.length ≤ 1000) : execs W ldT [o0, o1, some (.lv (iv l)), o3, o4, some (.int (min x y : Nat)), some (.int (max x y : Nat)), o7] μ = if x = y then some (.ret .non, μ) else some (.nxt [o0, o1, some (.lv (iv (joinL l x y))), o3, o4, some (.int (min x y : Nat)), some (.int (max x y : Nat)), o7], μ) := by
  have e := jn_ev W l x y o0 o1 o3 o4 o7 μ hl
  unfold ldT
  generalize jnE = X at e ⊢
  by_cases h : x = y
  · have hb : ((min x y : Nat) : Int) == ((max x y : Nat) : Int) := by simp only [h]; simp
    generalize min x y = mi at *
    generalize max x y = mx at *
    simp (implicitDefEqProofs := false) [execs, exec, ev, evs, evIt, asg, asgs, asgK, evCmp, ltD_int, outc, most, evBin, bopI, isCls, isCl, blO, intO, dat_int, eqv_int, gc_int, gc_bl, gc_fr, fx0, fx1, hb, h]
  · have hb : (((min x y : Nat) : Int) == ((max x y : Nat) : Int)) = false := by
      simp only [beq_eq_false_iff_ne, ne_eq]
      omega
    generalize min x y = mi at *
    generalize max x y = mx at *
    simp (implicitDefEqProofs := false) [execs, exec, ev, evs, evIt, asg, asgs, asgK, evCmp, ltD_int, outc, most, evBin, bopI, isCls, isCl, blO, intO, dat_int, eqv_int, gc_int, gc_bl, gc_fr, fx0, fx1, hb, h, e]
theorem ldP_ok : LdB ldP := by
  intro W l a c o0 o1 o3 o4 o5 o6 o7 μ ha hc hl
  have e := ldT_ok W l (l.getD a 0) (l.getD c 0) o0 o1 (some (.int a)) (some (.int c)) o7 μ hl
  have i1 := ix_iv μ ha
  have i2 := ix_iv μ hc
  have i3 := srt_two μ (l.getD a 0) (l.getD c 0)
  unfold ldP
  rw [← e]
  generalize ldT = X
  generalize l.getD a 0 = x at *
  generalize l.getD c 0 = y at *
  generalize min x y = mi at *
  generalize max x y = mx at *
  simp only [stp, pv]
  simp (implicitDefEqProofs := false) [execs, exec, ev, evs, evIt, asg, asgs, asgK, evCmp, ltD_int, outc, most, evBin, bopI, isCls, isCl, blO, intO, dat_int, eqv_int, gc_int, gc_bl, gc_fr, fx0, fx1, i1, i2, i3, lsOf]
theorem ldW_ok : LdB ldW := by
  intro W l a c o0 o1 o3 o4 o5 o6 o7 μ ha hc hl
  have e := ldT_ok W l (l.getD a 0) (l.getD c 0) o0 o1 (some (.int a)) (some (.int c)) o7 μ hl
  have i1 := ix_iv μ ha
  have i2 := ix_iv μ hc
  have i3 := min_two μ (l.getD a 0) (l.getD c 0)
  have i4 := max_two μ (l.getD a 0) (l.getD c 0)
  unfold ldW
  rw [← e]
  generalize ldT = X
  generalize l.getD a 0 = x at *
  generalize l.getD c 0 = y at *
  generalize min x y = mi at *
  generalize max x y = mx at *
  simp only [stp, pv]
  simp (implicitDefEqProofs := false) [execs, exec, ev, evs, evIt, asg, asgs, asgK, evCmp, ltD_int, outc, most, evBin, bopI, isCls, isCl, blO, intO, dat_int, eqv_int, gc_int, gc_bl, gc_fr, fx0, fx1, i1, i2, i3, i4]
theorem ld_for {b : SS} (hb : LdB b) (W : Wd) (μ : Mem) (o0 o1 : Option MV) : ∀ (ps : List (Nat × Nat)) (l : List Nat) (o3 o4 o5 o6 o7 : Option MV), (∀ p ∈ ps, p.1 < l.length ∧ p.2 < l.length) → l.length ≤ 1000 →
    (leads l ps = none → forL [] (stp W pr34 b) (ps.map pv) [o0, o1, some (.lv (iv l)), o3, o4, o5, o6, o7] μ = some (.ret .non, μ)) ∧
    ∀ l', leads l ps = some l' → ∃ o3' o4' o5' o6', forL [] (stp W pr34 b) (ps.map pv) [o0, o1, some (.lv (iv l)), o3, o4, o5, o6, o7] μ = some (.nxt [o0, o1, some (.lv (iv l')), o3', o4', o5', o6', o7], μ)
  | [], l, o3, o4, o5, o6, o7, _, _ => ⟨fun z => (by simp [leads] at z), fun l' z => by
      simp only [leads, Option.some.injEq] at z
      subst z
      exact ⟨o3, o4, o5, o6, forL_nil rfl⟩⟩
  | (a, c) :: ps, l, o3, o4, o5, o6, o7, hp, hl => by
    have h1 := hp (a, c) List.mem_cons_self
    have e := hb W l a c o0 o1 o3 o4 o5 o6 o7 μ h1.1 h1.2 hl
    by_cases h : l.getD a 0 = l.getD c 0
    · rw [if_pos h] at e
      refine ⟨fun _ => ?_, fun l' z => ?_⟩
      · rw [List.map_cons, forL, if_pos (show gdOk μ [] = true from rfl), e]
      · simp only [leads, h, if_true] at z
        cases z
    · rw [if_neg h] at e
      have hj : (joinL l (l.getD a 0) (l.getD c 0)).length = l.length := by simp [joinL]
      obtain ⟨k1, k2⟩ := ld_for hb W μ o0 o1 ps (joinL l (l.getD a 0) (l.getD c 0)) (some (.int a)) (some (.int c)) (some (.int (min (l.getD a 0) (l.getD c 0) : Nat))) (some (.int (max (l.getD a 0) (l.getD c 0) : Nat))) o7 (fun p hp' => by rw [hj]; exact hp p (List.mem_cons_of_mem _ hp')) (by rw [hj]; exact hl)
      refine ⟨fun z => ?_, fun l' z => ?_⟩
      · simp only [leads, h, if_false] at z
        exact (forL_nxt rfl e).trans (k1 z)
      · simp only [leads, h, if_false] at z
        obtain ⟨a3, a4, a5, a6, e2⟩ := k2 l' z
        exact ⟨a3, a4, a5, a6, (forL_nxt rfl e).trans e2⟩
theorem leads_len : ∀ {ps : List (Nat × Nat)} {l l' : List Nat}, leads l ps = some l' → l'.length = l.length
  | [], l, l', h => by simp only [leads, Option.some.injEq] at h; rw [h]
  | (a, c) :: ps, l, l', h => by
    simp only [leads] at h
    split at h
    · cases h
    · rw [leads_len h]; simp [joinL]
theorem rng_iv {n : Nat} (h : n ≤ 1000) : rngOf [.int n] = some (iv (List.range n)) := by
  have : small (n : Int) = true := by unfold small; simp only [Bool.and_eq_true, decide_eq_true_eq]; omega
  simp [rngOf, this]
theorem led_gen {b : SS} (hb : LdB b) (W : Wd) (n : Nat) (ps : List (Nat × Nat)) (μ : Mem) (hn : n ≤ 1000) (hp : ∀ p ∈ ps, p.1 < n ∧ p.2 < n) : outc (execs W (.cons (.asg (.nm 2) (.lrg false (.cons (.var 0) .nil))) (.cons (.fr pr34 (.seq (.var 1)) b) (.cons (.ret (.var 2)) .nil))) [some (.int n), some (.lv (ps.map pv)), none, none, none, none, none, none] μ) = some (.ok (oL (leads (List.range n) ps)), μ) := by
  have e0 : exec W (.asg (.nm 2) (.lrg false (.cons (.var 0) .nil))) [some (.int n), some (.lv (ps.map pv)), none, none, none, none, none, none] μ = some (.nxt [some (.int n), some (.lv (ps.map pv)), some (.lv (iv (List.range n))), none, none, none, none, none], μ) := by
    have hm : n ≤ 16000000 := by omega
    simp (implicitDefEqProofs := false) [execs, exec, ev, evs, evIt, asg, asgs, asgK, evCmp, ltD_int, outc, most, evBin, bopI, isCls, isCl, blO, intO, dat_int, eqv_int, gc_int, gc_bl, gc_fr, fx0, fx1, rng_iv hn, hm]
  obtain ⟨k1, k2⟩ := ld_for hb W μ (some (.int n)) (some (.lv (ps.map pv))) ps (List.range n) none none none none none (by simpa using hp) (by simpa using hn)
  have f : exec W (.fr pr34 (.seq (.var 1)) b) [some (.int n), some (.lv (ps.map pv)), some (.lv (iv (List.range n))), none, none, none, none, none] μ = forL [] (stp W pr34 b) (ps.map pv) [some (.int n), some (.lv (ps.map pv)), some (.lv (iv (List.range n))), none, none, none, none, none] μ := by
    simp (implicitDefEqProofs := false) [exec, evIt, ev, sqOf, gdOf] <;> rfl
  rw [execs, e0, seqK_nxt, execs, f]
  cases h : leads (List.range n) ps with
  | none => rw [k1 h]; simp [outc, oL]
  | some l' =>
    obtain ⟨a3, a4, a5, a6, e⟩ := k2 l' h
    rw [e, seqK_nxt]
    simp (implicitDefEqProofs := false) [execs, exec, ev, outc, oL]
theorem r_led (d : Nat) (n : Nat) (ps : List (Nat × Nat)) (μ : Mem) (hn : n ≤ 1000) (hp : ∀ p ∈ ps, p.1 < n ∧ p.2 < n) : den subT fldT none prT (d + 1) none 12 [.int n, .lv (ps.map pv)] μ = some (.ok (oL (leads (List.range n) ps)), μ) := by
  rw [den_at (F := ⟨2, 8, b_led_together⟩) rfl rfl (by decide)]
  exact led_gen ldP_ok (wdAt subT fldT none prT d none) n ps μ hn hp
theorem r_lleads (d : Nat) (n : Nat) (ps : List (Nat × Nat)) (μ : Mem) (hn : n ≤ 1000) (hp : ∀ p ∈ ps, p.1 < n ∧ p.2 < n) : den subT fldT none prT (d + 1) none 32 [.int n, .lv (ps.map pv)] μ = some (.ok (oL (leads (List.range n) ps)), μ) := by
  rw [den_at (F := ⟨2, 8, b__law_leads⟩) rfl rfl (by decide)]
  exact led_gen ldW_ok (wdAt subT fldT none prT d none) n ps μ hn hp
theorem noL_ivs : ∀ l : List Nat, MV.noLs (iv l) = true
  | [] => rfl
  | k :: l => by
    have := noL_ivs l
    simp only [iv, List.map_cons, MV.noLs, MV.noL, Bool.true_and]
    exact this
theorem noL_oL (o : Option (List Nat)) : (oL o).noL = true := by
  cases o with
  | none => rfl
  | some l => simp only [oL, MV.noL, noL_ivs]
/-- the wires of a row -/
def rowP (ws : List Wr) (row : List Nat) : List (Nat × Nat) := row.map fun k => ((ws[k]?.map fun w => (w.a, w.b)).getD (0, 0))
/-- a forest's leaders -/
def flead (n p : Nat) (ws : List Wr) (row : List Nat) : Option (List Nat) := (leads (List.range n) (rowP ws row)).bind fun l => if (l.all fun k => decide (k < p)) = true then some l else none
theorem slc_wv (μ : Mem) (w : Wr) : evSlc μ (wv w) none (some 2) = some (pv (w.a, w.b)) := by simp [wv, wr, evSlc, cut, HT.sIx, pv]
theorem rowP_lt {n p : Nat} {ws : List Wr} (g : Good n p ws) {row : List Nat} (hr : ∀ k ∈ row, k < ws.length) : ∀ q ∈ rowP ws row, q.1 < n ∧ q.2 < n := by
  intro q hq
  obtain ⟨k, hk, rfl⟩ := List.mem_map.mp hq
  have hl := hr k hk
  have ho := g.ok ws[k] (List.getElem_mem hl)
  simp only [hl, List.getElem?_eq_getElem, Option.map_some, Option.getD_some]
  omega
abbrev rwE : E := .lcm [3] (.seq (.var 1)) (.nm 3) (.con (.bl true)) (.slc (.idx (.idx (.var 0) (.con (.int 2))) (.var 3)) false (.con .non) true (.con (.int 2)))
theorem rw_ev (W : Wd) {n p : Nat} {ws : List Wr} {row : List Nat} (hr : ∀ k ∈ row, k < ws.length) (hl : row.length ≤ 1000) (o2 o3 o4 : Option MV) (μ : Mem) : ev W rwE [some (nv n p ws), some (.tup (iv row)), o2, o3, o4] μ = some (.ok (.lv ((rowP ws row).map pv)), μ) := by
  have i2 : evIdx μ (nv n p ws) (.int 2) = some (.tup (ws.map wv)) := ix32 _ _ _ _
  simp (implicitDefEqProofs := false) [ev, evIt, sqOf, gdOf]
  rw [lcm_iv rfl row (fun k => pv ((ws[k]?.map fun w => (w.a, w.b)).getD (0, 0))) hl fun k hk => by
    have hk' := hr k hk
    have i3 := ixt_nat μ (show k < (ws.map wv).length by simpa using hk')
    have i4 := slc_wv μ ws[k]
    simp only [List.getElem_map] at i3
    simp (implicitDefEqProofs := false) [execs, exec, ev, evs, evIt, asg, asgs, asgK, evCmp, ltD_int, outc, most, evBin, bopI, isCls, isCl, blO, intO, dat_int, eqv_int, gc_int, gc_bl, gc_fr, fx0, fx1, wipe, i2, i3, i4, partO, hk']]
  simp [rowP]
theorem r_flead (d : Nat) {n p : Nat} {ws : List Wr} (g : Good n p ws) {row : List Nat} (hr : ∀ k ∈ row, k < ws.length) (hl : row.length ≤ 1000) (μ : Mem) : den subT fldT none prT (d + 2) none 14 [nv n p ws, .tup (iv row)] μ = some (.ok (oL (flead n p ws row)), μ) := by
  rw [den_at (F := ⟨2, 5, b_forest_lead⟩) rfl rfl (by decide)]
  have e1 := rw_ev (wdAt subT fldT none prT (d + 1) none) (n := n) (p := p) hr hl none none none μ
  have e2 := r_led d n (rowP ws row) μ (by have := g.hn; omega) (rowP_lt g hr)
  have e3 := gc_same (μ := μ) (noL_oL (leads (List.range n) (rowP ws row)))
  have i0 : evIdx μ (nv n p ws) (.int 0) = some (.int n) := ix30 _ _ _ _
  have i1 : evIdx μ (nv n p ws) (.int 1) = some (.int p) := ix31 _ _ _ _
  show outc (execs (wdAt subT fldT none prT (d + 1) none) b_forest_lead [some (nv n p ws), some (.tup (iv row)), none, none, none] μ) = _
  unfold b_forest_lead
  unfold rwE at e1
  generalize (E.lcm [3] (.seq (.var 1)) (.nm 3) (.con (.bl true)) (.slc (.idx (.idx (.var 0) (.con (.int 2))) (.var 3)) false (.con .non) true (.con (.int 2)))) = X at e1 ⊢
  unfold flead
  cases hL : leads (List.range n) (rowP ws row) with
  | none =>
    rw [hL] at e2 e3
    simp only [oL] at e2 e3
    simp (implicitDefEqProofs := false) [execs, exec, ev, evs, evIt, asg, asgs, asgK, evCmp, ltD_int, outc, most, evBin, bopI, isCls, isCl, blO, intO, dat_int, eqv_int, gc_int, gc_bl, gc_fr, fx0, fx1, e1, e2, e3, i0, oL]
  | some l =>
    rw [hL] at e2 e3
    simp only [oL] at e2 e3
    have hll : l.length ≤ 1000 := by
      rw [leads_len hL]
      have := g.hn
      simp
      omega
    have e4 : ∀ bs, bs = (l.map fun k => decide (k < p)) → ev (wdAt subT fldT none prT (d + 1) none) (.lcm [4] (.seq (.var 2)) (.nm 4) (.con (.bl true)) (.cmp .lt (.var 4) (.idx (.var 0) (.con (.int 1))))) [some (nv n p ws), some (.tup (iv row)), some (.lv (iv l)), none, none] μ = some (.ok (.lv (bs.map .bl)), μ) := by
      intro bs hbs
      simp (implicitDefEqProofs := false) [ev, evIt, sqOf, gdOf]
      rw [lcm_iv rfl l (fun k => .bl (decide (k < p))) hll fun k hk => by simp (implicitDefEqProofs := false) [execs, exec, ev, evs, evIt, asg, asgs, asgK, evCmp, ltD_int, outc, most, evBin, bopI, isCls, isCl, blO, intO, dat_int, eqv_int, gc_int, gc_bl, gc_fr, fx0, fx1, wipe, i1]]
      simp [hbs]
    have e4 := e4 _ rfl
    generalize (E.lcm [4] (.seq (.var 2)) (.nm 4) (.con (.bl true)) (.cmp .lt (.var 4) (.idx (.var 0) (.con (.int 1))))) = Y at e4 ⊢
    have hr2 : (l.all fun k => decide (k < p)) = (l.map fun k => decide (k < p)).all id := by simp [List.all_map, Function.comp_def]
    have a1 := all_bl μ (l.map fun k => decide (k < p))
    rw [← hr2] at a1
    generalize (l.map fun k => decide (k < p)) = bs at e4 a1
    cases hb : (l.all fun k => decide (k < p)) with
    | true =>
      rw [hb] at a1
      simp only [Option.bind_some, hb, if_true]
      simp (implicitDefEqProofs := false) [execs, exec, ev, evs, evIt, asg, asgs, asgK, evCmp, ltD_int, outc, most, evBin, bopI, isCls, isCl, blO, intO, dat_int, eqv_int, gc_int, gc_bl, gc_fr, fx0, fx1, e1, e2, e3, e4, a1, i0, oL]
    | false =>
      rw [hb] at a1
      simp only [Option.bind_some, hb, Bool.false_eq_true, if_false]
      simp (implicitDefEqProofs := false) [execs, exec, ev, evs, evIt, asg, asgs, asgK, evCmp, ltD_int, outc, most, evBin, bopI, isCls, isCl, blO, intO, dat_int, eqv_int, gc_int, gc_bl, gc_fr, fx0, fx1, e1, e2, e3, e4, a1, i0, oL]
theorem r_lflead (d : Nat) {n p : Nat} {ws : List Wr} (g : Good n p ws) {row : List Nat} (hr : ∀ k ∈ row, k < ws.length) (hl : row.length ≤ 1000) (μ : Mem) : den subT fldT none prT (d + 2) none 33 [nv n p ws, .tup (iv row)] μ = some (.ok (oL (flead n p ws row)), μ) := by
  rw [den_at (F := ⟨2, 5, b__law_forest_lead⟩) rfl rfl (by decide)]
  have e1 := rw_ev (wdAt subT fldT none prT (d + 1) none) (n := n) (p := p) hr hl none none none μ
  have e2 := r_lleads d n (rowP ws row) μ (by have := g.hn; omega) (rowP_lt g hr)
  have e3 := gc_same (μ := μ) (noL_oL (leads (List.range n) (rowP ws row)))
  have i0 : evIdx μ (nv n p ws) (.int 0) = some (.int n) := ix30 _ _ _ _
  have i1 : evIdx μ (nv n p ws) (.int 1) = some (.int p) := ix31 _ _ _ _
  show outc (execs (wdAt subT fldT none prT (d + 1) none) b__law_forest_lead [some (nv n p ws), some (.tup (iv row)), none, none, none] μ) = _
  unfold b__law_forest_lead
  unfold rwE at e1
  generalize (E.lcm [3] (.seq (.var 1)) (.nm 3) (.con (.bl true)) (.slc (.idx (.idx (.var 0) (.con (.int 2))) (.var 3)) false (.con .non) true (.con (.int 2)))) = X at e1 ⊢
  unfold flead
  cases hL : leads (List.range n) (rowP ws row) with
  | none =>
    rw [hL] at e2 e3
    simp only [oL] at e2 e3
    simp (implicitDefEqProofs := false) [execs, exec, ev, evs, evIt, asg, asgs, asgK, evCmp, ltD_int, outc, most, evBin, bopI, isCls, isCl, blO, intO, dat_int, eqv_int, gc_int, gc_bl, gc_fr, fx0, fx1, e1, e2, e3, i0, oL]
  | some l =>
    rw [hL] at e2 e3
    simp only [oL] at e2 e3
    have hll : l.length ≤ 1000 := by
      rw [leads_len hL]
      have := g.hn
      simp
      omega
    have e4 : ev (wdAt subT fldT none prT (d + 1) none) (.lcm [4] (.seq (.var 2)) (.nm 4) (.cmp .ge (.var 4) (.idx (.var 0) (.con (.int 1)))) (.con (.int 1))) [some (nv n p ws), some (.tup (iv row)), some (.lv (iv l)), none, none] μ = some (.ok (.lv (l.filterMap fun k => if k < p then none else some (.int 1))), μ) := by
      simp (implicitDefEqProofs := false) [ev, evIt, sqOf, gdOf]
      have q := fun (step : MV → Mem → R (Option MV)) (h : ∀ k ∈ l, step (.int (k : Nat)) μ = some (.ok (if k < p then none else some (.int 1)), μ)) => lcmL_gen (gd := []) (step := step) (μ := μ) (f := fun k : Nat => MV.int k) (g := fun k => if k < p then none else some (.int 1)) rfl l [] h (by simp [most]; omega)
      rw [q _ fun k hk => by
        by_cases h : k < p
        · have hb : ((k : Int) < p) := by omega
          simp (implicitDefEqProofs := false) [execs, exec, ev, evs, evIt, asg, asgs, asgK, evCmp, ltD_int, outc, most, evBin, bopI, isCls, isCl, blO, intO, dat_int, eqv_int, gc_int, gc_bl, gc_fr, fx0, fx1, wipe, i1, hb, h]
        · have hb : ¬ ((k : Int) < p) := by omega
          simp (implicitDefEqProofs := false) [execs, exec, ev, evs, evIt, asg, asgs, asgK, evCmp, ltD_int, outc, most, evBin, bopI, isCls, isCl, blO, intO, dat_int, eqv_int, gc_int, gc_bl, gc_fr, fx0, fx1, wipe, i1, hb, h]]
      simp
    generalize (E.lcm [4] (.seq (.var 2)) (.nm 4) (.cmp .ge (.var 4) (.idx (.var 0) (.con (.int 1)))) (.con (.int 1))) = Y at e4 ⊢
    cases hb : (l.all fun k => decide (k < p)) with
    | true =>
      simp only [Option.bind_some, hb, if_true]
      have hz : (l.filterMap fun k => if k < p then none else some (MV.int 1)) = [] := by
        simp only [List.all_eq_true, decide_eq_true_eq] at hb
        simp only [List.filterMap_eq_nil_iff]
        intro k hk
        rw [if_pos (hb k hk)]
      rw [hz] at e4
      simp (implicitDefEqProofs := false) [execs, exec, ev, evs, evIt, asg, asgs, asgK, evCmp, ltD_int, outc, most, evBin, bopI, isCls, isCl, blO, intO, dat_int, eqv_int, gc_int, gc_bl, gc_fr, fx0, fx1, e1, e2, e3, e4, i0, oL, dat_nil, eqv_ll]
    | false =>
      simp only [Option.bind_some, hb, Bool.false_eq_true, if_false]
      obtain ⟨m, hm⟩ : ∃ m : Nat, (l.filterMap fun k => if k < p then none else some (MV.int 1)) = (List.replicate (m + 1) (1 : Int)).map .int := by
        have hne : ∃ k ∈ l, ¬ k < p := by
          simpa using hb
        have ha : ∀ v ∈ (l.filterMap fun k => if k < p then none else some (MV.int 1)), v = MV.int 1 := by
          intro v hv
          obtain ⟨k, _, e⟩ := List.mem_filterMap.mp hv
          split at e
          · cases e
          · cases e; rfl
        have hl0 : (l.filterMap fun k => if k < p then none else some (MV.int 1)) ≠ [] := by
          obtain ⟨k, hk, hkp⟩ := hne
          intro z
          have : MV.int 1 ∈ (l.filterMap fun k => if k < p then none else some (MV.int 1)) := List.mem_filterMap.mpr ⟨k, hk, by rw [if_neg hkp]⟩
          rw [z] at this
          exact absurd this List.not_mem_nil
        refine ⟨(l.filterMap fun k => if k < p then none else some (MV.int 1)).length - 1, ?_⟩
        have hpos : 0 < (l.filterMap fun k => if k < p then none else some (MV.int 1)).length := List.length_pos_iff.mpr hl0
        rw [show (l.filterMap fun k => if k < p then none else some (MV.int 1)).length - 1 + 1 = (l.filterMap fun k => if k < p then none else some (MV.int 1)).length by omega, List.map_replicate]
        exact List.eq_replicate_of_mem ha
      rw [hm] at e4
      have d1 : dat μ (.lv ((List.replicate (m + 1) (1 : Int)).map .int)) = some (.list ((List.replicate (m + 1) (1 : Int)).map .int)) := by
        have h := canLay_ints (List.replicate (m + 1) (1 : Int))
        have h2 := depth_ints (List.replicate (m + 1) (1 : Int))
        have h3 : PyData.depth (.list ((List.replicate (m + 1) (1 : Int)).map .int)) ≤ 64 := by simp only [PyData.depth]; omega
        simp only [dat, frz, MV.rd, rds_ints, Option.map_some, Option.bind_some, MV.toD, toDs_ints, SeqAt.shaped, PyData.canLay0, h, h3, decide_true, Bool.and_self, if_true]
      have d2 := eqv_nil (List.replicate (m + 1) (1 : Int))
      have d3 : decide ((List.replicate (m + 1) (1 : Int)) = []) = false := by simp [List.replicate]
      rw [d3] at d2
      generalize (List.replicate (m + 1) (1 : Int)) = z at e4 d1 d2
      generalize hzz : z.map MV.int = zz at e4 d1
      generalize z.map PyData.int = zd at d1 d2
      simp (implicitDefEqProofs := false) [execs, exec, ev, evs, evIt, asg, asgs, asgK, evCmp, ltD_int, outc, most, evBin, bopI, isCls, isCl, blO, intO, dat_int, eqv_int, gc_int, gc_bl, gc_fr, fx0, fx1, e1, e2, e3, e4, i0, oL, d1, d2, dat_nil]
end MI
end
section
set_option Elab.async false
set_option linter.all false
set_option maxRecDepth 100000
set_option maxHeartbeats 4000000
set_option exponentiation.threshold 20000
namespace MI
open PySem PySem.Spec PyProof.Rows L2
section
variable {n p : Nat} {ws : List Wr} (g : Good n p ws) {row : List Nat} (hr : ∀ k ∈ row, k < ws.length) (hl : row.length ≤ 1000) (hs : row.Pairwise (· < ·)) (d : Nat) (μ : Mem)
include g hr hl hs
theorem r_need_forest_ok {l : List Nat} (h : flead n p ws row = some l) : den subT fldT none prT (d + 6) none 15 [nv n p ws, .tup (iv row)] μ = some (.ok (.lv (iv l)), μ) := by
  rw [den_at (F := ⟨2, 3, b_need_forest⟩) rfl rfl (by decide)]
  have e1 := r_need_net d g μ
  have g1 := gc_same (μ := μ) (noL_nv n p ws)
  have e2 := r_need_wires (d + 1) n p ws row μ hl hs hr
  have g2 := gc_same (μ := μ) (v := .tup (iv row)) (by simp only [MV.noL, noL_ivs])
  have e3 := r_flead (d + 3) g hr hl μ
  have g3 := gc_same (μ := μ) (noL_oL (flead n p ws row))
  rw [h] at e3 g3
  simp only [oL] at e3 g3
  simp (implicitDefEqProofs := false) [execs, exec, ev, evs, evIt, asg, asgs, asgK, evCmp, ltD_int, outc, most, evBin, bopI, isCls, isCl, blO, intO, dat_int, eqv_int, gc_int, gc_bl, gc_fr, fx0, fx1, b_need_forest, e1, g1, e2, g2, e3, g3]
theorem r_need_forest_no (h : flead n p ws row = none) : den subT fldT none prT (d + 6) none 15 [nv n p ws, .tup (iv row)] μ = some (.error (4, .str "forest"), μ) := by
  rw [den_at (F := ⟨2, 3, b_need_forest⟩) rfl rfl (by decide)]
  have e1 := r_need_net d g μ
  have g1 := gc_same (μ := μ) (noL_nv n p ws)
  have e2 := r_need_wires (d + 1) n p ws row μ hl hs hr
  have g2 := gc_same (μ := μ) (v := .tup (iv row)) (by simp only [MV.noL, noL_ivs])
  have e3 := r_flead (d + 3) g hr hl μ
  have g3 := gc_same (μ := μ) (noL_oL (flead n p ws row))
  rw [h] at e3 g3
  simp only [oL] at e3 g3
  simp (implicitDefEqProofs := false) [execs, exec, ev, evs, evIt, asg, asgs, asgK, evCmp, ltD_int, outc, most, evBin, bopI, isCls, isCl, blO, intO, dat_int, eqv_int, gc_int, gc_bl, gc_fr, fx0, fx1, b_need_forest, e1, g1, e2, g2, e3, g3]
theorem r_isf : den subT fldT none prT (d + 6) none 16 [nv n p ws, .tup (iv row)] μ = some (.ok (.bl (flead n p ws row).isSome), μ) := by
  rw [den_at (F := ⟨2, 2, b_is_forest⟩) rfl rfl (by decide)]
  have e1 := r_need_net d g μ
  have g1 := gc_same (μ := μ) (noL_nv n p ws)
  have e2 := r_need_wires (d + 1) n p ws row μ hl hs hr
  have g2 := gc_same (μ := μ) (v := .tup (iv row)) (by simp only [MV.noL, noL_ivs])
  have e3 := r_flead (d + 3) g hr hl μ
  have g3 := gc_same (μ := μ) (noL_oL (flead n p ws row))
  cases h : flead n p ws row with
  | none =>
    rw [h] at e3 g3
    simp only [oL] at e3 g3
    simp (implicitDefEqProofs := false) [execs, exec, ev, evs, evIt, asg, asgs, asgK, evCmp, ltD_int, outc, most, evBin, bopI, isCls, isCl, blO, intO, dat_int, eqv_int, gc_int, gc_bl, gc_fr, fx0, fx1, b_is_forest, e1, g1, e2, g2, e3, g3]
  | some l =>
    rw [h] at e3 g3
    simp only [oL] at e3 g3
    simp (implicitDefEqProofs := false) [execs, exec, ev, evs, evIt, asg, asgs, asgK, evCmp, ltD_int, outc, most, evBin, bopI, isCls, isCl, blO, intO, dat_int, eqv_int, gc_int, gc_bl, gc_fr, fx0, fx1, b_is_forest, e1, g1, e2, g2, e3, g3]
end
/-- the strengths of a row's wires -/
def rowQ (ws : List Wr) (row : List Nat) : List Rat := row.map fun k => (ws[k]?.map (·.q)).getD 1
def prod (qs : List Rat) (acc : Rat) : Rat := qs.foldl (· * ·) acc
abbrev wtB : SS := .cons (.asg (.nm 2) (.app false 6 (.cons (.var 2) (.cons (.idx (.idx (.idx (.var 0) (.con (.int 2))) (.var 3)) (.con (.int 2))) .nil)) [])) .nil
theorem wt_for (d : Nat) {n p : Nat} {ws : List Wr} (o1 : Option MV) (μ : Mem) (hw : ∀ w ∈ ws, Bd 20 20 w.q) : ∀ (row : List Nat) (acc : Rat) (j : Nat) (o3 : Option MV), (∀ k ∈ row, k < ws.length) → Bd (20 * j) (20 * j) acc → j + row.length ≤ 400 →
    ∃ o3', forL [] (stp (wdAt subT fldT none prT (d + 3) none) (.nm 3) wtB) (iv row) [some (nv n p ws), o1, some (fr acc), o3] μ = some (.nxt [some (nv n p ws), o1, some (fr (prod (rowQ ws row) acc)), o3'], μ)
  | [], acc, j, o3, _, _, _ => ⟨o3, forL_nil rfl⟩
  | k :: row, acc, j, o3, hr, ha, hj => by
    simp only [List.length_cons] at hj
    have hk := hr k List.mem_cons_self
    have hb := hw ws[k] (List.getElem_mem hk)
    have e := r_rtimes d μ ha hb (by omega) (by omega)
    have i2 : evIdx μ (nv n p ws) (.int 2) = some (.tup (ws.map wv)) := ix32 _ _ _ _
    have i3 := ixt_nat μ (show k < (ws.map wv).length by simpa using hk)
    simp only [List.getElem_map] at i3
    have i4 : evIdx μ (wv ws[k]) (.int 2) = some (fr ws[k].q) := wx2 _ _ _ _
    have s1 : stp (wdAt subT fldT none prT (d + 3) none) (.nm 3) wtB (.int k) [some (nv n p ws), o1, some (fr acc), o3] μ = some (.nxt [some (nv n p ws), o1, some (fr (acc * ws[k].q)), some (.int k)], μ) := by
      simp only [stp]
      simp (implicitDefEqProofs := false) [execs, exec, ev, evs, evIt, asg, asgs, asgK, evCmp, ltD_int, outc, most, evBin, bopI, isCls, isCl, blO, intO, dat_int, eqv_int, gc_int, gc_bl, gc_fr, fx0, fx1, i2, i3, i4, e]
    obtain ⟨o3', e2⟩ := wt_for d o1 μ hw row (acc * ws[k].q) (j + 1) (some (.int k)) (fun k hk => hr k (List.mem_cons_of_mem _ hk)) (ha.mul hb _ _ (by omega) (by omega)) (by omega)
    refine ⟨o3', (forL_nxt rfl s1).trans ?_⟩
    rw [e2]
    simp [rowQ, prod, hk]
theorem r_weight (d : Nat) {n p : Nat} {ws : List Wr} (g : Good n p ws) {row : List Nat} (hr : ∀ k ∈ row, k < ws.length) (hl : row.length ≤ 300) (hs : row.Pairwise (· < ·)) (μ : Mem) {l : List Nat} (h : flead n p ws row = some l) : den subT fldT none prT (d + 7) none 18 [nv n p ws, .tup (iv row)] μ = some (.ok (fr (prod (rowQ ws row) 1)), μ) := by
  rw [den_at (F := ⟨2, 4, b_forest_weight⟩) rfl rfl (by decide)]
  have e1 := r_need_forest_ok g hr (by omega) hs d μ h
  have g1 := gc_same (μ := μ) (v := .lv (iv l)) (by simp only [MV.noL, noL_ivs])
  obtain ⟨o3, e2⟩ := wt_for (d + 3) (n := n) (p := p) (some (.tup (iv row))) μ (fun w hw => (g.ok w hw).2.2.2) row 1 0 none hr Bd1 (by omega)
  have f : exec (wdAt subT fldT none prT (d + 6) none) (.fr (.nm 3) (.seq (.var 1)) wtB) [some (nv n p ws), some (.tup (iv row)), some (fr 1), none] μ = _ := (show _ = forL [] (stp (wdAt subT fldT none prT (d + 6) none) (.nm 3) wtB) (iv row) [some (nv n p ws), some (.tup (iv row)), some (fr 1), none] μ by
    simp (implicitDefEqProofs := false) [exec, evIt, ev, sqOf, gdOf] <;> rfl).trans e2
  show outc (execs (wdAt subT fldT none prT (d + 6) none) b_forest_weight [some (nv n p ws), some (.tup (iv row)), none, none] μ) = _
  unfold b_forest_weight
  generalize hX : (S.fr (.nm 3) (.seq (.var 1)) wtB) = X at f
  simp (implicitDefEqProofs := false) [execs, exec, ev, evs, evIt, asg, asgs, asgK, evCmp, ltD_int, outc, most, evBin, bopI, isCls, isCl, blO, intO, dat_int, eqv_int, gc_int, gc_bl, gc_fr, fx0, fx1, e1, g1, fr1, f]
theorem r_weight_no (d : Nat) {n p : Nat} {ws : List Wr} (g : Good n p ws) {row : List Nat} (hr : ∀ k ∈ row, k < ws.length) (hl : row.length ≤ 300) (hs : row.Pairwise (· < ·)) (μ : Mem) (h : flead n p ws row = none) : den subT fldT none prT (d + 7) none 18 [nv n p ws, .tup (iv row)] μ = some (.error (4, .str "forest"), μ) := by
  rw [den_at (F := ⟨2, 4, b_forest_weight⟩) rfl rfl (by decide)]
  have e1 := r_need_forest_no g hr (by omega) hs d μ h
  have g1 : gc μ.length μ (some (.error (4, .str "forest"), μ)) = some (.error (4, .str "forest"), μ) := by simp [gc, gcOk_self, frz, MV.rd]
  simp (implicitDefEqProofs := false) [execs, exec, ev, evs, evIt, asg, asgs, asgK, evCmp, ltD_int, outc, most, evBin, bopI, isCls, isCl, blO, intO, dat_int, eqv_int, gc_int, gc_bl, gc_fr, fx0, fx1, b_forest_weight, e1, g1]
theorem r_lots_no (d : Nat) {n p : Nat} {ws : List Wr} (g : Good n p ws) {row : List Nat} (hr : ∀ k ∈ row, k < ws.length) (hl : row.length ≤ 300) (hs : row.Pairwise (· < ·)) (μ : Mem) (h : flead n p ws row = none) : den subT fldT none prT (d + 7) none 17 [nv n p ws, .tup (iv row)] μ = some (.error (4, .str "forest"), μ) := by
  rw [den_at (F := ⟨2, 2, b_forest_lots⟩) rfl rfl (by decide)]
  have e1 := r_need_forest_no g hr (by omega) hs d μ h
  have g1 : gc μ.length μ (some (.error (4, .str "forest"), μ)) = some (.error (4, .str "forest"), μ) := by simp [gc, gcOk_self, frz, MV.rd]
  simp (implicitDefEqProofs := false) [execs, exec, ev, evs, evIt, asg, asgs, asgK, evCmp, ltD_int, outc, most, evBin, bopI, isCls, isCl, blO, intO, dat_int, eqv_int, gc_int, gc_bl, gc_fr, fx0, fx1, b_forest_lots, e1, g1]
abbrev tmB : SS := .cons (.asg (.nm 1) (.app false 27 (.cons (.bin .mul (.idx (.var 1) (.con (.int 0))) (.var 2)) (.cons (.bin .mul (.idx (.var 1) (.con (.int 1))) (.var 3)) .nil)) [])) .nil
theorem tm_for (d : Nat) (x : MV) (μ : Mem) : ∀ (qs : List Rat) (acc : Rat) (j : Nat) (o2 o3 : Option MV), (∀ q ∈ qs, Bd 20 20 q) → Bd (20 * j) (20 * j) acc → j + qs.length ≤ 400 →
    ∃ o2' o3', forL [] (stp (wdAt subT fldT none prT (d + 2) none) pr23 tmB) (qs.map fr) [some x, some (fr acc), o2, o3] μ = some (.nxt [some x, some (fr (prod qs acc)), o2', o3'], μ)
  | [], acc, j, o2, o3, _, _, _ => ⟨o2, o3, forL_nil rfl⟩
  | q :: qs, acc, j, o2, o3, hq, ha, hj => by
    simp only [List.length_cons] at hj
    have hb := hq q List.mem_cons_self
    obtain ⟨o2', o3', e2⟩ := tm_for d x μ qs (acc * q) (j + 1) (some (.int q.num)) (some (.int q.den)) (fun k hk => hq k (List.mem_cons_of_mem _ hk)) (ha.mul hb _ _ (by omega) (by omega)) (by omega)
    exact ⟨o2', o3', (forL_nxt rfl (timesB_step d x acc q o2 o3 μ ha hb (by omega) (by omega))).trans e2⟩
theorem r_ltimes (d : Nat) (qs : List Rat) (μ : Mem) (hq : ∀ q ∈ qs, Bd 20 20 q) (hl : qs.length ≤ 300) : den subT fldT none prT (d + 3) none 28 [.lv (qs.map fr)] μ = some (.ok (fr (prod qs 1)), μ) := by
  rw [den_at (F := ⟨1, 4, b__law_times⟩) rfl rfl (by decide)]
  obtain ⟨u, v, e⟩ := tm_for d (.lv (qs.map fr)) μ qs 1 0 none none hq Bd1 (by omega)
  have e1 : exec (wdAt subT fldT none prT (d + 2) none) (.asg (.nm 1) (.tup (.cons (.con (.int 1)) (.cons (.con (.int 1)) .nil)))) [some (.lv (qs.map fr)), none, none, none] μ = some (.nxt [some (.lv (qs.map fr)), some (fr 1), none, none], μ) := by simp (implicitDefEqProofs := false) [execs, exec, ev, evs, evIt, asg, asgs, asgK, evCmp, ltD_int, outc, most, evBin, bopI, isCls, isCl, blO, intO, dat_int, eqv_int, gc_int, gc_bl, gc_fr, fx0, fx1, fr1]
  have f : exec (wdAt subT fldT none prT (d + 2) none) (.fr pr23 (.seq (.var 0)) tmB) [some (.lv (qs.map fr)), some (fr 1), none, none] μ = _ := (show _ = forL [] (stp (wdAt subT fldT none prT (d + 2) none) pr23 tmB) (qs.map fr) [some (.lv (qs.map fr)), some (fr 1), none, none] μ by
    simp (implicitDefEqProofs := false) [exec, evIt, ev, sqOf, gdOf] <;> rfl).trans e
  show outc (execs (wdAt subT fldT none prT (d + 2) none) b__law_times [some (.lv (qs.map fr)), none, none, none] μ) = _
  unfold b__law_times
  rw [execs, e1, seqK_nxt, execs]
  rw [show exec (wdAt subT fldT none prT (d + 2) none) (.fr (.tp (.cons (.nm 2) (.cons (.nm 3) .nil))) (.seq (.var 0)) tmB) [some (.lv (qs.map fr)), some (fr 1), none, none] μ = _ from f, seqK_nxt]
  simp (implicitDefEqProofs := false) [execs, exec, ev, evs, evIt, asg, asgs, asgK, evCmp, ltD_int, outc, most, evBin, bopI, isCls, isCl, blO, intO, dat_int, eqv_int, gc_int, gc_bl, gc_fr, fx0, fx1, ]
end MI
end
section
set_option Elab.async false
set_option linter.all false
set_option maxRecDepth 100000
set_option maxHeartbeats 4000000
set_option exponentiation.threshold 20000
namespace MI
open PySem PySem.Spec PyProof.Rows L2
/-- the leaders of the first j ports, as they come -/
def keysL (l : List Nat) : Nat → List Nat
  | 0 => []
  | j + 1 => if l.getD j 0 ∈ keysL l j then keysL l j else keysL l j ++ [l.getD j 0]
def lotL (l : List Nat) (j k : Nat) : List Nat := (List.range j).filter fun q => decide (l.getD q 0 = k)
theorem mem_keysL {l : List Nat} {k : Nat} : ∀ {j : Nat}, k ∈ keysL l j ↔ ∃ q, q < j ∧ l.getD q 0 = k
  | 0 => by simp [keysL]
  | j + 1 => by
    have ih := @mem_keysL l k j
    unfold keysL
    constructor
    · intro h
      split at h
      · obtain ⟨q, h1, h2⟩ := ih.mp h
        exact ⟨q, by omega, h2⟩
      · rcases List.mem_append.mp h with h | h
        · obtain ⟨q, h1, h2⟩ := ih.mp h
          exact ⟨q, by omega, h2⟩
        · simp only [List.mem_singleton] at h
          exact ⟨j, by omega, h.symm⟩
    · rintro ⟨q, h1, h2⟩
      by_cases hq : q = j
      · subst hq
        split
        · rename_i z; rw [← h2]; exact z
        · rw [← h2]; simp
      · have := ih.mpr ⟨q, by omega, h2⟩
        split
        · exact this
        · exact List.mem_append_left _ this
theorem nodup_keysL {l : List Nat} : ∀ {j : Nat}, (keysL l j).Nodup
  | 0 => by simp [keysL]
  | j + 1 => by
    unfold keysL
    split
    · exact nodup_keysL
    · rename_i h
      rw [List.nodup_append]
      exact ⟨nodup_keysL, by simp, fun a ha b hb => by simp only [List.mem_singleton] at hb; subst hb; exact fun e => h (e ▸ ha)⟩
theorem len_keysL {l : List Nat} : ∀ {j : Nat}, (keysL l j).length ≤ j
  | 0 => by simp [keysL]
  | j + 1 => by
    have := @len_keysL l j
    unfold keysL
    split
    · omega
    · simp; omega
theorem lotL_same {l : List Nat} {j : Nat} : lotL l (j + 1) (l.getD j 0) = lotL l j (l.getD j 0) ++ [j] := by
  unfold lotL
  rw [List.range_succ, List.filter_append]
  simp
theorem lotL_other {l : List Nat} {j k : Nat} (h : l.getD j 0 ≠ k) : lotL l (j + 1) k = lotL l j k := by
  unfold lotL
  rw [List.range_succ, List.filter_append]
  simp only [List.filter_cons, h, decide_false, Bool.false_eq_true, if_false, List.filter_nil, List.append_nil]
theorem lotL_none {l : List Nat} {j k : Nat} (h : k ∉ keysL l j) : lotL l j k = [] := by
  unfold lotL
  rw [List.filter_eq_nil_iff]
  intro q hq
  simp only [decide_eq_true_eq]
  exact fun e => h (mem_keysL.mpr ⟨q, List.mem_range.mp hq, e⟩)
def dicL (b : Nat) (ks : List Nat) (s : Nat) : List (Key × MV) := (ks.zipIdx s).map fun x => (.inl (x.1 : Int), .loc (b + x.2))
theorem getK_in {b k : Nat} : ∀ {ks : List Nat} {s : Nat}, k ∈ ks → ∃ i, ks[i]? = some k ∧ getK (dicL b ks s) (.inl (k : Int)) = some (.loc (b + (s + i)))
  | [], _, h => absurd h List.not_mem_nil
  | k' :: ks, s, h => by
    by_cases e : k' = k
    · subst e
      exact ⟨0, rfl, by simp [dicL, getK]⟩
    · have h' : k ∈ ks := by
        rcases List.mem_cons.mp h with z | z
        · exact absurd z.symm e
        · exact z
      obtain ⟨i, h1, h2⟩ := getK_in (b := b) (s := s + 1) h'
      refine ⟨i + 1, by simpa using h1, ?_⟩
      have e' : ¬ ((k' : Int) = (k : Int)) := by omega
      simp only [dicL, List.zipIdx_cons, List.map_cons, getK, List.find?_cons, Sum.inl.injEq, e', decide_false] at h2 ⊢
      rw [h2]
      congr 2
      omega
theorem getK_out {b k : Nat} {ks : List Nat} {s : Nat} (h : k ∉ ks) : getK (dicL b ks s) (.inl (k : Int)) = none := by
  unfold getK dicL
  rw [Option.map_eq_none_iff, List.find?_eq_none]
  intro kv hkv
  obtain ⟨x, hx, rfl⟩ := List.mem_map.mp hkv
  simp only [Sum.inl.injEq, decide_eq_true_eq]
  intro e
  have : x.1 = k := by omega
  obtain ⟨x1, x2⟩ := x
  have hm := List.mem_zipIdx hx
  exact h (by rw [← this]; rw [hm.2.2]; exact List.getElem_mem _)
/-- the memory after j ports -/
def lotsM (μ : Mem) (l : List Nat) (j : Nat) : Mem := μ ++ (.dic (dicL (μ.length + 1) (keysL l j) 0) :: (keysL l j).map fun k => .lst (iv (lotL l j k)))
section
variable (μ : Mem) (o : MO) (Ls : List MO)
theorem A1 : (μ ++ (o :: Ls))[μ.length]? = some o := by simp
theorem A2 (i : Nat) : (μ ++ (o :: Ls))[μ.length + 1 + i]? = Ls[i]? := by
  rw [List.getElem?_append_right (by omega), show μ.length + 1 + i - μ.length = i + 1 by omega]
  rfl
theorem A3 (i : Nat) (u : MO) : (μ ++ (o :: Ls)).set (μ.length + 1 + i) u = μ ++ (o :: Ls.set i u) := by
  rw [List.set_append_right _ _ (by omega), show μ.length + 1 + i - μ.length = i + 1 by omega]
  rfl
theorem A4 (u : MO) : (μ ++ (o :: Ls)).set μ.length u = μ ++ (u :: Ls) := by
  rw [List.set_append_right _ _ (by omega), Nat.sub_self]
  rfl
end
theorem len_dicL (b : Nat) (ks : List Nat) (s : Nat) : (dicL b ks s).length = ks.length := by simp [dicL]
theorem dicL_snoc (b : Nat) (ks : List Nat) (k : Nat) : dicL b ks 0 ++ [(.inl (k : Int), .loc (b + ks.length))] = dicL b (ks ++ [k]) 0 := by
  simp [dicL, List.zipIdx_append]
/-- a port put into its lot -/
theorem lots_step (μ : Mem) (l : List Nat) (j : Nat) (hj : j < 1000) : ∃ loc μ1, sdM (lotsM μ l j) (.loc μ.length) (.int (l.getD j 0 : Nat)) = some (loc, μ1) ∧ (∃ xs, lsOf μ1 loc = some xs) ∧ evMe μ1 .append loc [.int j] = some (.non, lotsM μ l (j + 1)) := by
  have hl := @len_keysL l j
  have hlen : (dicL (μ.length + 1) (keysL l j) 0).length < most := by rw [len_dicL]; simp [most]; omega
  have hkl : keyOf (.int (l.getD j 0 : Nat)) = some (.inl ((l.getD j 0 : Nat) : Int)) := rfl
  by_cases hk : l.getD j 0 ∈ keysL l j
  · obtain ⟨i, h1, h2⟩ := getK_in (b := μ.length + 1) (s := 0) hk
    rw [Nat.zero_add] at h2
    have hi : i < (keysL l j).length := (List.getElem?_eq_some_iff.mp h1).1
    have hls : ((keysL l j).map fun k => MO.lst (iv (lotL l j k)))[i]? = some (.lst (iv (lotL l j (l.getD j 0)))) := by rw [List.getElem?_map, h1]; rfl
    refine ⟨.loc (μ.length + 1 + i), lotsM μ l j, ?_, ⟨iv (lotL l j (l.getD j 0)), ?_⟩, ?_⟩
    · unfold sdM lotsM
      simp only [A1, hkl, Option.bind_some, hlen, if_true, h2]
    · unfold lsOf lotsM
      simp only [A2, hls]
    · have hq : (iv (lotL l j (l.getD j 0))).length < most := by
        have : (lotL l j (l.getD j 0)).length ≤ j := by
          unfold lotL
          exact Nat.le_trans (List.length_filter_le _ _) (by simp)
        rw [List.length_map]
        exact Nat.lt_of_le_of_lt this (by simp [most]; omega)
      unfold evMe lotsM
      simp only [A2, hls, hq, if_true, A3]
      have hK : keysL l (j + 1) = keysL l j := by rw [keysL, if_pos hk]
      rw [hK]
      congr 4
      refine List.ext_getElem? fun m => ?_
      rw [List.getElem?_set]
      by_cases hm : i = m
      · subst hm
        rw [if_pos rfl, if_pos (by simpa using hi), List.getElem?_map, h1]
        simp only [Option.map_some, lotL_same]
        simp [iv]
      · rw [if_neg hm, List.getElem?_map, List.getElem?_map]
        cases hz : (keysL l j)[m]? with
        | none => rfl
        | some k' =>
          have hne : l.getD j 0 ≠ k' := fun e => by
            obtain ⟨a1, a2⟩ := List.getElem?_eq_some_iff.mp hz
            obtain ⟨b1, b2⟩ := List.getElem?_eq_some_iff.mp h1
            exact hm ((List.getElem_inj nodup_keysL).mp (by rw [a2, b2, e]))
          simp only [Option.map_some, lotL_other hne]
  · have h2 := getK_out (b := μ.length + 1) (s := 0) hk
    have hsz : (lotsM μ l j).length = μ.length + 1 + (keysL l j).length := by simp [lotsM]; omega
    refine ⟨.loc (μ.length + 1 + (keysL l j).length), μ ++ (.dic (dicL (μ.length + 1) (keysL l j ++ [l.getD j 0]) 0) :: (((keysL l j).map fun k => .lst (iv (lotL l j k))) ++ [.lst []])), ?_, ⟨[], ?_⟩, ?_⟩
    · have h3 := hsz
      unfold sdM
      unfold lotsM at h3 ⊢
      simp only [A1, hkl, Option.bind_some, hlen, if_true, h2, h3, A4, dicL_snoc]
      simp
    · unfold lsOf
      simp [A2]
    · unfold evMe
      have hls : (((keysL l j).map fun k => MO.lst (iv (lotL l j k))) ++ [MO.lst []])[(keysL l j).length]? = some (.lst []) := by
        rw [List.getElem?_append_right (by simp)]
        simp
      have h0 : ([] : List MV).length < most := by simp [most]
      simp only [A2, hls, h0, if_true, A3]
      have hK : keysL l (j + 1) = keysL l j ++ [l.getD j 0] := by rw [keysL, if_neg hk]
      unfold lotsM
      rw [hK]
      congr 4
      rw [List.set_append_right _ _ (by simp), List.map_append]
      congr 1
      · refine List.map_congr_left fun k' hk' => ?_
        rw [lotL_other fun e => hk (e ▸ hk')]
      · simp only [List.length_map, Nat.sub_self, List.set_cons_zero, List.map_cons, List.map_nil, lotL_same, lotL_none hk, List.nil_append]
end MI
end
section
set_option Elab.async false
set_option linter.all false
set_option maxRecDepth 100000
set_option maxHeartbeats 4000000
set_option exponentiation.threshold 20000
namespace MI
open PySem PySem.Spec PyProof.Rows L2
theorem range_at {p : Nat} {pre post : List Nat} {a : Nat} (h : List.range p = pre ++ a :: post) : a = pre.length ∧ a < p := by
  have e : (List.range p)[pre.length]? = some a := by rw [h]; simp
  rw [List.getElem?_range] at e
  · cases e
    refine ⟨rfl, ?_⟩
    have := congrArg List.length h
    simp at this
    omega
  · have := congrArg List.length h
    simp at this
    omega
/-- the leaders in order -/
def keysS (l : List Nat) (p : Nat) : List Nat := (keysL l p).mergeSort fun a b => decide (a ≤ b)
def lotsV (l : List Nat) (p : Nat) : MV := .tup ((keysS l p).map fun k => .tup (iv (lotL l p k)))
theorem keysI_dicL (b : Nat) : ∀ (ks : List Nat) (s : Nat), keysI (dicL b ks s) = some (ks.map fun (k : Nat) => (k : Int))
  | [], _ => rfl
  | k :: ks, s => by
    have := keysI_dicL b ks (s + 1)
    simp only [dicL, List.zipIdx_cons, List.map_cons, keysI] at this ⊢
    rw [this]
    rfl
theorem dc_lots (μ : Mem) (l : List Nat) (j : Nat) : dcOf (lotsM μ l j) (.loc μ.length) = some (dicL (μ.length + 1) (keysL l j) 0) := by
  unfold dcOf lotsM
  simp only [A1]
theorem srt_lots (μ : Mem) (l : List Nat) (p : Nat) (hp : p ≤ 60) : evBi (lotsM μ l p) .srt1 [.loc μ.length] = some (.lv (iv (keysS l p))) := by
  have hl := @len_keysL l p
  have h64 : ((keysL l p).map fun (k : Nat) => (k : Int)).length < 64 := by simp; omega
  simp only [evBi, dc_lots, keysI_dicL, Option.bind_some, h64, if_true]
  congr 2
  have e := List.map_mergeSort (l := keysL l p) (r := fun a b => decide (a ≤ b)) (s := fun (a b : Int) => decide (a ≤ b)) (f := fun (k : Nat) => (k : Int)) fun a _ b _ => by simp
  rw [← e, List.map_map]
  rfl
theorem mem_keysS {l : List Nat} {p k : Nat} : k ∈ keysS l p ↔ ∃ q, q < p ∧ l.getD q 0 = k := by
  unfold keysS
  rw [List.mem_mergeSort, mem_keysL]
theorem at_lots (μ : Mem) (l : List Nat) (p k : Nat) (h : k ∈ keysS l p) : ∃ loc, evIdx (lotsM μ l p) (.loc μ.length) (.int k) = some loc ∧ sqOf (lotsM μ l p) loc = some (iv (lotL l p k)) ∧ dcOf (lotsM μ l p) loc = none := by
  have h' : k ∈ keysL l p := mem_keysL.mpr (mem_keysS.mp h)
  obtain ⟨i, h1, h2⟩ := getK_in (b := μ.length + 1) (s := 0) h'
  rw [Nat.zero_add] at h2
  have hls : ((keysL l p).map fun k => MO.lst (iv (lotL l p k)))[i]? = some (.lst (iv (lotL l p k))) := by rw [List.getElem?_map, h1]; rfl
  refine ⟨.loc (μ.length + 1 + i), ?_, ?_, ?_⟩
  · simp only [evIdx, dc_lots, keyOf, Option.bind_some, h2]
  · unfold sqOf lotsM
    simp only [A2, hls]
  · unfold dcOf lotsM
    simp only [A2, hls]
abbrev lbB : SS := .cons (.ex (.mth .append (.sdf (.var 2) (.idx (.var 0) (.var 3))) (.cons (.var 3) .nil))) .nil
theorem r_lots_by (d : Nat) (l : List Nat) (p : Nat) (hp : p ≤ 60) (hpl : p ≤ l.length) (μ : Mem) : den subT fldT none prT (d + 1) none 13 [.lv (iv l), .int p] μ = some (.ok (lotsV l p), lotsM μ l p) := by
  rw [den_at (F := ⟨2, 5, b_lots_by⟩) rfl rfl (by decide)]
  have e0 : exec (wdAt subT fldT none prT d none) (.asg (.nm 2) (.dsp [] .nil)) [some (.lv (iv l)), some (.int p), none, none, none] μ = some (.nxt [some (.lv (iv l)), some (.int p), some (.loc μ.length), none, none], lotsM μ l 0) := by
    simp (implicitDefEqProofs := false) [exec, ev, evs, asg, asgK]
    rfl
  obtain ⟨ρ', μ', e1, ⟨o3, rfl⟩, rfl⟩ := forL_pre (f := fun k : Nat => MV.int k) (gd := []) (step := stp (wdAt subT fldT none prT d none) (.nm 3) lbB) (P := fun pre ρ μ' => (∃ o3, ρ = [some (.lv (iv l)), some (.int p), some (.loc μ.length), o3, none]) ∧ μ' = lotsM μ l pre.length) (fun _ _ _ _ => rfl) (List.range p) [] (ρ := [some (.lv (iv l)), some (.int p), some (.loc μ.length), none, none]) (μ := lotsM μ l 0)
    (fun pre' a post hq ρ μ' ⟨⟨o3, q1⟩, q2⟩ => by
      subst q1 q2
      obtain ⟨ha, hap⟩ := range_at (by simpa using hq)
      subst ha
      obtain ⟨loc, μ1, s1, ⟨xs, s2⟩, s3⟩ := lots_step μ l pre'.length (by omega)
      have s0 := dc_lots μ l pre'.length
      have i0 := ix_iv (lotsM μ l pre'.length) (show pre'.length < l.length by omega)
      refine ⟨_, lotsM μ l (pre'.length + 1), ?_, ⟨some (.int pre'.length), rfl⟩, by simp⟩
      generalize l.getD pre'.length 0 = v at s1 i0
      simp only [stp]
      simp (implicitDefEqProofs := false) [execs, exec, ev, evs, evIt, asg, asgs, asgK, evCmp, ltD_int, outc, most, evBin, bopI, isCls, isCl, blO, intO, dat_int, eqv_int, gc_int, gc_bl, gc_fr, fx0, fx1, s0, i0, s1, s2, s3]) ⟨⟨none, rfl⟩, rfl⟩
  simp only [List.nil_append, List.length_range] at e1
  have f1 : exec (wdAt subT fldT none prT d none) (.fr (.nm 3) (.rng (.cons (.var 1) .nil)) lbB) [some (.lv (iv l)), some (.int p), some (.loc μ.length), none, none] (lotsM μ l 0) = _ := (show _ = forL [] (stp (wdAt subT fldT none prT d none) (.nm 3) lbB) (iv (List.range p)) [some (.lv (iv l)), some (.int p), some (.loc μ.length), none, none] (lotsM μ l 0) by
    simp (implicitDefEqProofs := false) [exec, evIt, ev, evs, rng_iv (show p ≤ 1000 by omega)] <;> rfl).trans e1
  have e2 : ev (wdAt subT fldT none prT d none) (.lcm [4] (.seq (.blt .srt1 (.cons (.var 2) .nil))) (.nm 4) (.con (.bl true)) (.blt .tup1 (.cons (.idx (.var 2) (.var 4)) .nil))) [some (.lv (iv l)), some (.int p), some (.loc μ.length), o3, none] (lotsM μ l p) = some (.ok (.lv ((keysS l p).map fun k => .tup (iv (lotL l p k)))), lotsM μ l p) := by
    have hk : (keysS l p).length ≤ 1000 := by
      have := @len_keysL l p
      unfold keysS
      rw [List.length_mergeSort]
      omega
    simp (implicitDefEqProofs := false) [ev, evs, evIt, srt_lots μ l p hp, sqOf, gdOf]
    rw [lcm_iv rfl (keysS l p) (fun k => .tup (iv (lotL l p k))) hk fun k hk => by
      obtain ⟨loc, a1, a2, a3⟩ := at_lots μ l p k hk
      have a4 : evBi (lotsM μ l p) .tup1 [loc] = some (.tup (iv (lotL l p k))) := by simp only [evBi, a2, Option.map_some]
      simp (implicitDefEqProofs := false) [execs, exec, ev, evs, evIt, asg, asgs, asgK, evCmp, ltD_int, outc, most, evBin, bopI, isCls, isCl, blO, intO, dat_int, eqv_int, gc_int, gc_bl, gc_fr, fx0, fx1, wipe, a1, a4]]
    rfl
  show outc (execs (wdAt subT fldT none prT d none) b_lots_by [some (.lv (iv l)), some (.int p), none, none, none] μ) = _
  unfold b_lots_by
  rw [execs, e0, seqK_nxt, execs, show exec (wdAt subT fldT none prT d none) (.fr (.nm 3) (.rng (.cons (.var 1) .nil)) lbB) _ _ = _ from f1, seqK_nxt]
  generalize (E.lcm [4] (.seq (.blt .srt1 (.cons (.var 2) .nil))) (.nm 4) (.con (.bl true)) (.blt .tup1 (.cons (.idx (.var 2) (.var 4)) .nil))) = Y at e2 ⊢
  have t1 : ∀ xs, evBi (lotsM μ l p) .tup1 [.lv xs] = some (.tup xs) := fun xs => rfl
  simp (implicitDefEqProofs := false) [execs, exec, ev, evs, evIt, asg, asgs, asgK, evCmp, ltD_int, outc, most, evBin, bopI, isCls, isCl, blO, intO, dat_int, eqv_int, gc_int, gc_bl, gc_fr, fx0, fx1, e2, t1, lotsV]
end MI
end
section
set_option Elab.async false
set_option linter.all false
set_option maxRecDepth 100000
set_option maxHeartbeats 4000000
set_option exponentiation.threshold 20000
namespace MI
open PySem PySem.Spec PyProof.Rows L2
theorem lots_take (μ : Mem) (l : List Nat) (p : Nat) : (lotsM μ l p).take μ.length = μ := by unfold lotsM; simp
theorem noL_tups (f : Nat → List Nat) : ∀ ks : List Nat, MV.noLs (ks.map fun k => .tup (iv (f k))) = true
  | [] => rfl
  | k :: ks => by
    have := noL_tups f ks
    simp only [List.map_cons, MV.noLs, MV.noL, noL_ivs, this, Bool.and_self]
theorem noL_lotsV (l : List Nat) (p : Nat) : (lotsV l p).noL = true := by simp only [lotsV, MV.noL, noL_tups]
theorem gc_lots (μ : Mem) (l : List Nat) (p : Nat) : gc (List.length μ) μ (some (.ok (lotsV l p), lotsM μ l p)) = some (.ok (lotsV l p), μ) := by
  simp [gc, lots_take, gcOk_self, frz, rd_noL (noL_lotsV l p)]
theorem flead_len {n p : Nat} {ws : List Wr} {row l : List Nat} (h : flead n p ws row = some l) : l.length = n := by
  unfold flead at h
  obtain ⟨l', h1, h2⟩ := Option.bind_eq_some_iff.mp h
  split at h2
  · cases h2; rw [leads_len h1]; simp
  · cases h2
theorem r_lots (d : Nat) {n p : Nat} {ws : List Wr} (g : Good n p ws) {row : List Nat} (hr : ∀ k ∈ row, k < ws.length) (hl : row.length ≤ 300) (hs : row.Pairwise (· < ·)) (μ : Mem) {l : List Nat} (h : flead n p ws row = some l) : den subT fldT none prT (d + 7) none 17 [nv n p ws, .tup (iv row)] μ = some (.ok (lotsV l p), μ) := by
  rw [den_at (F := ⟨2, 2, b_forest_lots⟩) rfl rfl (by decide)]
  have e1 := r_need_forest_ok g hr (by omega) hs d μ h
  have g1 := gc_same (μ := μ) (v := .lv (iv l)) (by simp only [MV.noL, noL_ivs])
  have i1 : evIdx μ (nv n p ws) (.int 1) = some (.int p) := ix31 _ _ _ _
  have e2 := r_lots_by (d + 5) l p (by have := g.hp8; omega) (by rw [flead_len h]; exact g.hp) μ
  have g2 := gc_lots μ l p
  simp (implicitDefEqProofs := false) [execs, exec, ev, evs, evIt, asg, asgs, asgK, evCmp, ltD_int, outc, most, evBin, bopI, isCls, isCl, blO, intO, dat_int, eqv_int, gc_int, gc_bl, gc_fr, fx0, fx1, b_forest_lots, e1, g1, i1, e2, g2]
/-- a list behind -/
def F' (μ : Mem) (xs : List MV) : Mem := μ ++ [.lst xs]
theorem F_ls (μ : Mem) (xs : List MV) : lsOf (F' μ xs) (.loc μ.length) = some xs := by simp [lsOf, F']
theorem F_app (μ : Mem) (xs : List MV) (v : MV) (h : xs.length < most) : evMe (F' μ xs) .append (.loc μ.length) [v] = some (.non, F' μ (xs ++ [v])) := by simp [evMe, F', h]
theorem F_take (μ : Mem) (xs : List MV) : (F' μ xs).take μ.length = μ := by simp [F']
theorem gc_Fv (μ : Mem) (xs : List MV) {v : MV} (h : v.noL = true) : gc (List.length μ) μ (some (.ok v, F' μ xs)) = some (.ok v, μ) := by
  simp [gc, F_take, gcOk_self, frz, rd_noL h]
theorem F_tup (μ : Mem) (xs : List MV) : evBi (F' μ xs) .tup1 [.loc μ.length] = some (.tup xs) := by simp [evBi, sqOf, F']
def plotsL (l : List Nat) (p : Nat) : List Nat := (List.range p).filter fun q => decide (l.getD q 0 = q)
def plotsV (l : List Nat) (p : Nat) : MV := .tup ((plotsL l p).map fun k => .tup (iv (lotL l p k)))
abbrev plE : E := .blt .tup1 (.cons (.lcm [4] (.rng (.cons (.idx (.var 0) (.con (.int 1))) .nil)) (.nm 4) (.cmp .eq (.idx (.var 1) (.var 4)) (.var 3)) (.var 4)) .nil)
theorem pl_ev (W : Wd) (n p : Nat) (ws : List Wr) (l : List Nat) (hpl : p ≤ l.length) (hp : p ≤ 60) (k : Nat) (o2 : Option MV) (μ : Mem) : ev W plE [some (nv n p ws), some (.lv (iv l)), o2, some (.int k), none] μ = some (.ok (.tup (iv (lotL l p k))), μ) := by
  have i1 : evIdx μ (nv n p ws) (.int 1) = some (.int p) := ix31 _ _ _ _
  have e : ev W (.lcm [4] (.rng (.cons (.idx (.var 0) (.con (.int 1))) .nil)) (.nm 4) (.cmp .eq (.idx (.var 1) (.var 4)) (.var 3)) (.var 4)) [some (nv n p ws), some (.lv (iv l)), o2, some (.int k), none] μ = some (.ok (.lv (iv (lotL l p k))), μ) := by
    simp (implicitDefEqProofs := false) [ev, evs, evIt, i1, rng_iv (show p ≤ 1000 by omega)]
    have q := fun (step : MV → Mem → R (Option MV)) (h : ∀ k' ∈ List.range p, step (.int (k' : Nat)) μ = some (.ok (if l.getD k' 0 = k then some (.int (k' : Nat)) else none), μ)) => lcmL_gen (gd := []) (step := step) (μ := μ) (f := fun k : Nat => MV.int k) (g := fun k' => if l.getD k' 0 = k then some (.int (k' : Nat)) else none) rfl (List.range p) [] h (by simp [most]; omega)
    rw [q _ fun k' hk' => by
      have i0 := ix_iv μ (show k' < l.length by have := List.mem_range.mp hk'; omega)
      generalize l.getD k' 0 = v at i0
      by_cases h : v = k
      · have hb : (((v : Nat) : Int) == ((k : Nat) : Int)) = true := by simp [h]
        subst h
        simp (implicitDefEqProofs := false) [execs, exec, ev, evs, evIt, asg, asgs, asgK, evCmp, ltD_int, outc, most, evBin, bopI, isCls, isCl, blO, intO, dat_int, eqv_int, gc_int, gc_bl, gc_fr, fx0, fx1, wipe, i0, i1]
      · have hb : (((v : Nat) : Int) == ((k : Nat) : Int)) = false := by simpa using fun e => h (by omega)
        simp (implicitDefEqProofs := false) [execs, exec, ev, evs, evIt, asg, asgs, asgK, evCmp, ltD_int, outc, most, evBin, bopI, isCls, isCl, blO, intO, dat_int, eqv_int, gc_int, gc_bl, gc_fr, fx0, fx1, wipe, i0, i1, hb, h]]
    have z : ∀ ks : List Nat, (ks.filterMap fun k' => if l.getD k' 0 = k then some (MV.int (k' : Nat)) else none) = iv (ks.filter fun q => decide (l.getD q 0 = k)) := by
      intro ks
      induction ks with
      | nil => rfl
      | cons a ks ih =>
        by_cases h : l.getD a 0 = k
        · rw [List.filterMap_cons_some (by rw [if_pos h]), List.filter_cons_of_pos (by simpa using h), ih]; rfl
        · rw [List.filterMap_cons_none (by rw [if_neg h]), List.filter_cons_of_neg (by simpa using h), ih]
    rw [z]
    rfl
  unfold plE
  generalize (E.lcm [4] (.rng (.cons (.idx (.var 0) (.con (.int 1))) .nil)) (.nm 4) (.cmp .eq (.idx (.var 1) (.var 4)) (.var 3)) (.var 4)) = X at e ⊢
  have t : ∀ xs, evBi μ .tup1 [.lv xs] = some (.tup xs) := fun xs => rfl
  simp (implicitDefEqProofs := false) [execs, exec, ev, evs, evIt, asg, asgs, asgK, evCmp, ltD_int, outc, most, evBin, bopI, isCls, isCl, blO, intO, dat_int, eqv_int, gc_int, gc_bl, gc_fr, fx0, fx1, e, t]
abbrev plB : SS := .cons (.ite (.cmp .eq (.idx (.var 1) (.var 3)) (.var 3)) (.cons (.ex (.mth .append (.var 2) (.cons plE .nil))) .nil) .nil) .nil
theorem pl_step (W : Wd) (n p : Nat) (ws : List Wr) (l : List Nat) (hpl : p ≤ l.length) (hp : p ≤ 60) (a : Nat) (ha : a < p) (xs : List MV) (hx : xs.length < most) (o3 : Option MV) (μ : Mem) :
    stp W (.nm 3) plB (.int a) [some (nv n p ws), some (.lv (iv l)), some (.loc μ.length), o3, none] (F' μ xs) = some (.nxt [some (nv n p ws), some (.lv (iv l)), some (.loc μ.length), some (.int a), none], if l.getD a 0 = a then F' μ (xs ++ [.tup (iv (lotL l p a))]) else F' μ xs) := by
  have e := pl_ev W n p ws l hpl hp a (some (.loc μ.length)) (F' μ xs)
  have i0 := ix_iv (F' μ xs) (show a < l.length by omega)
  have f1 := F_ls μ xs
  have f2 := F_app μ xs (.tup (iv (lotL l p a))) hx
  generalize F' μ (xs ++ [.tup (iv (lotL l p a))]) = μ3 at f2 ⊢
  generalize F' μ xs = μ2 at *
  unfold plB plE
  unfold plE at e
  generalize (E.blt .tup1 (.cons (.lcm [4] (.rng (.cons (.idx (.var 0) (.con (.int 1))) .nil)) (.nm 4) (.cmp .eq (.idx (.var 1) (.var 4)) (.var 3)) (.var 4)) .nil)) = X at e ⊢
  generalize l.getD a 0 = v at *
  simp only [stp]
  by_cases h : v = a
  · subst h
    simp (implicitDefEqProofs := false) [execs, exec, ev, evs, evIt, asg, asgs, asgK, evCmp, ltD_int, outc, most, evBin, bopI, isCls, isCl, blO, intO, dat_int, eqv_int, gc_int, gc_bl, gc_fr, fx0, fx1, i0, e, f1, f2]
  · have hb : (((v : Nat) : Int) == ((a : Nat) : Int)) = false := by simpa using fun e => h (by omega)
    simp (implicitDefEqProofs := false) [execs, exec, ev, evs, evIt, asg, asgs, asgK, evCmp, ltD_int, outc, most, evBin, bopI, isCls, isCl, blO, intO, dat_int, eqv_int, gc_int, gc_bl, gc_fr, fx0, fx1, i0, hb, h]
theorem r_plots (d : Nat) (n p : Nat) (ws : List Wr) (l : List Nat) (hpl : p ≤ l.length) (hp : p ≤ 60) (μ : Mem) : den subT fldT none prT (d + 1) none 34 [nv n p ws, .lv (iv l)] μ = some (.ok (plotsV l p), F' μ ((plotsL l p).map fun k => .tup (iv (lotL l p k)))) := by
  rw [den_at (F := ⟨2, 5, b__law_port_lots⟩) rfl rfl (by decide)]
  have i1 : ∀ μ, evIdx μ (nv n p ws) (.int 1) = some (.int p) := fun μ => ix31 _ _ _ _
  have e0 : exec (wdAt subT fldT none prT d none) (.asg (.nm 2) (.chg (.lst .nil))) [some (nv n p ws), some (.lv (iv l)), none, none, none] μ = some (.nxt [some (nv n p ws), some (.lv (iv l)), some (.loc μ.length), none, none], F' μ []) := by
    simp (implicitDefEqProofs := false) [exec, ev, evs, asg, asgK, most, F']
  obtain ⟨ρ', μ', e1, ⟨o3, rfl⟩, rfl⟩ := forL_pre (f := fun k : Nat => MV.int k) (gd := []) (step := stp (wdAt subT fldT none prT d none) (.nm 3) plB) (P := fun pre ρ μ' => (∃ o3, ρ = [some (nv n p ws), some (.lv (iv l)), some (.loc μ.length), o3, none]) ∧ μ' = F' μ ((pre.filter fun q => decide (l.getD q 0 = q)).map fun k => .tup (iv (lotL l p k)))) (fun _ _ _ _ => rfl) (List.range p) [] (ρ := [some (nv n p ws), some (.lv (iv l)), some (.loc μ.length), none, none]) (μ := F' μ [])
    (fun pre' a post hq ρ μ' ⟨⟨o3, q1⟩, q2⟩ => by
      subst q1 q2
      obtain ⟨ha, hap⟩ := range_at (by simpa using hq)
      refine ⟨_, _, pl_step (wdAt subT fldT none prT d none) n p ws l hpl hp a hap _ ?_ o3 μ, ⟨some (.int a), rfl⟩, ?_⟩
      · rw [List.length_map]
        exact Nat.lt_of_le_of_lt (List.length_filter_le _ _) (by simp [most]; omega)
      · by_cases h : l.getD a 0 = a
        · rw [if_pos h, List.filter_append, List.filter_cons_of_pos (by simpa using h), List.map_append]; rfl
        · rw [if_neg h, List.filter_append, List.filter_cons_of_neg (by simpa using h), List.filter_nil, List.append_nil]) ⟨⟨none, rfl⟩, rfl⟩
  simp only [List.nil_append] at e1
  have f1 : exec (wdAt subT fldT none prT d none) (.fr (.nm 3) (.rng (.cons (.idx (.var 0) (.con (.int 1))) .nil)) plB) [some (nv n p ws), some (.lv (iv l)), some (.loc μ.length), none, none] (F' μ []) = _ := (show _ = forL [] (stp (wdAt subT fldT none prT d none) (.nm 3) plB) (iv (List.range p)) [some (nv n p ws), some (.lv (iv l)), some (.loc μ.length), none, none] (F' μ []) by
    simp (implicitDefEqProofs := false) [exec, evIt, ev, evs, i1, rng_iv (show p ≤ 1000 by omega)] <;> rfl).trans e1
  show outc (execs (wdAt subT fldT none prT d none) b__law_port_lots [some (nv n p ws), some (.lv (iv l)), none, none, none] μ) = _
  unfold b__law_port_lots
  rw [execs, e0, seqK_nxt, execs, show exec (wdAt subT fldT none prT d none) (.fr (.nm 3) (.rng (.cons (.idx (.var 0) (.con (.int 1))) .nil)) plB) _ _ = _ from f1, seqK_nxt]
  have t := F_tup μ ((plotsL l p).map fun k => .tup (iv (lotL l p k)))
  unfold plotsV
  unfold plotsL at t ⊢
  generalize ((List.filter (fun q => decide (l.getD q 0 = q)) (List.range p)).map fun k => MV.tup (iv (lotL l p k))) = xs at t ⊢
  simp (implicitDefEqProofs := false) [execs, exec, ev, evs, evIt, asg, asgs, asgK, evCmp, ltD_int, outc, most, evBin, bopI, isCls, isCl, blO, intO, dat_int, eqv_int, gc_int, gc_bl, gc_fr, fx0, fx1, t]
/-- each port's leader leads itself -/
def Idm (l : List Nat) : Prop := ∀ i, i < l.length → l.getD i 0 < l.length ∧ l.getD (l.getD i 0) 0 = l.getD i 0
theorem Idm.range (n : Nat) : Idm (List.range n) := fun i hi => by
  simp only [List.length_range] at hi ⊢
  simp [List.getD, hi]
theorem join_at {l : List Nat} {x y i : Nat} (hi : i < l.length) : (joinL l x y).getD i 0 = if l.getD i 0 = max x y then min x y else l.getD i 0 := by
  simp [joinL, List.getD, hi]
theorem Idm.join {l : List Nat} (h : Idm l) {a b : Nat} (ha : a < l.length) (hb : b < l.length) (hne : l.getD a 0 ≠ l.getD b 0) : Idm (joinL l (l.getD a 0) (l.getD b 0)) := fun i hi => by
  have hlen : (joinL l (l.getD a 0) (l.getD b 0)).length = l.length := by simp [joinL]
  rw [hlen] at hi ⊢
  obtain ⟨a1, a2⟩ := h a ha
  obtain ⟨b1, b2⟩ := h b hb
  obtain ⟨i1, i2⟩ := h i hi
  generalize hx : l.getD a 0 = x at *
  generalize hy : l.getD b 0 = y at *
  rw [join_at hi]
  have hm : min x y < l.length := by omega
  have hmm : l.getD (min x y) 0 = min x y := by
    rcases Nat.le_total x y with z | z
    · rw [Nat.min_eq_left z]; exact a2
    · rw [Nat.min_eq_right z]; exact b2
  have hne' : min x y ≠ max x y := by omega
  by_cases hc : l.getD i 0 = max x y
  · rw [if_pos hc, join_at hm, hmm, if_neg hne']
    exact ⟨hm, rfl⟩
  · rw [if_neg hc, join_at i1, i2, if_neg hc]
    exact ⟨i1, rfl⟩
theorem Idm.leads : ∀ {ps : List (Nat × Nat)} {l l' : List Nat}, Idm l → (∀ p ∈ ps, p.1 < l.length ∧ p.2 < l.length) → leads l ps = some l' → Idm l'
  | [], l, l', h, _, e => by simp only [MI.leads, Option.some.injEq] at e; rw [← e]; exact h
  | (a, c) :: ps, l, l', h, hp, e => by
    simp only [MI.leads] at e
    have h1 := hp (a, c) List.mem_cons_self
    split at e
    · cases e
    · rename_i hne
      have hlen : (joinL l (l.getD a 0) (l.getD c 0)).length = l.length := by simp [joinL]
      exact Idm.leads (h.join h1.1 h1.2 hne) (fun p hp' => by rw [hlen]; exact hp p (List.mem_cons_of_mem _ hp')) e
theorem flead_idm {n p : Nat} {ws : List Wr} (g : Good n p ws) {row l : List Nat} (hr : ∀ k ∈ row, k < ws.length) (h : flead n p ws row = some l) : Idm l ∧ ∀ i, i < n → l.getD i 0 < p := by
  unfold flead at h
  obtain ⟨l', h1, h2⟩ := Option.bind_eq_some_iff.mp h
  split at h2
  · rename_i ha
    cases h2
    refine ⟨Idm.leads (Idm.range n) (by simpa using rowP_lt g hr) h1, fun i hi => ?_⟩
    have hl : i < l.length := by rw [leads_len h1]; simpa using hi
    simp only [List.all_eq_true, decide_eq_true_eq] at ha
    have := ha l[i] (List.getElem_mem hl)
    simpa [List.getD, hl] using this
  · cases h2
theorem keys_eq {l : List Nat} {p : Nat} (hpl : p ≤ l.length) (h : Idm l) (hp : ∀ i, i < l.length → l.getD i 0 < p) : keysS l p = plotsL l p := by
  refine List.Perm.eq_of_pairwise (le := (· ≤ ·)) (fun a b _ _ h g => Nat.le_antisymm h g) ?_ ?_ ((List.perm_ext_iff_of_nodup ?_ ?_).mpr fun k => ?_)
  · have q := List.pairwise_mergeSort (le := fun (a b : Nat) => decide (a ≤ b)) (fun a b c h g => by simp at *; omega) (fun a b => by simp; omega) (keysL l p)
    exact q.imp fun h => by simpa using h
  · exact (List.pairwise_lt_range.filter _).imp fun h => Nat.le_of_lt h
  · exact (List.mergeSort_perm _ _).nodup_iff.mpr nodup_keysL
  · exact List.nodup_range.filter _
  · rw [mem_keysS, plotsL, List.mem_filter, List.mem_range]
    simp only [decide_eq_true_eq]
    constructor
    · rintro ⟨q, h1, rfl⟩
      exact ⟨hp q (by omega), (h q (by omega)).2⟩
    · rintro ⟨h1, h2⟩
      exact ⟨k, h1, h2⟩
theorem lots_eq {n p : Nat} {ws : List Wr} (g : Good n p ws) {row l : List Nat} (hr : ∀ k ∈ row, k < ws.length) (h : flead n p ws row = some l) : lotsV l p = plotsV l p := by
  obtain ⟨h1, h2⟩ := flead_idm g hr h
  have hl := flead_len h
  unfold lotsV plotsV
  rw [keys_eq (by rw [hl]; exact g.hp) h1 (by rw [hl]; exact h2)]
end MI
end
section
set_option Elab.async false
set_option linter.all false
set_option maxRecDepth 100000
set_option maxHeartbeats 4000000
set_option exponentiation.threshold 20000
namespace MI
open PySem PySem.Spec PyProof.Rows L2
theorem heard_ok (d : Nat) (h : Mem → R MV) (v : MV) (μ : Mem) (e : h μ = some (.ok v, μ)) : den subT fldT none prT (d + 1) (some (0, h)) 37 [.thk 0] μ = some (.ok (.tup [.str "told", v]), μ) := by
  rw [den_at (F := ⟨1, 4, b__law_heard⟩) rfl rfl (by decide)]
  simp (implicitDefEqProofs := false) [b__law_heard, execs, exec, ev, evs, asg, asgs, e, asgK, outc, most, evCmp]
theorem heard_2 (d : Nat) (h : Mem → R MV) (v : MV) (μ : Mem) (e : h μ = some (.error (2, v), μ)) : den subT fldT none prT (d + 1) (some (0, h)) 37 [.thk 0] μ = some (.ok (.tup [.str "net", v]), μ) := by
  rw [den_at (F := ⟨1, 4, b__law_heard⟩) rfl rfl (by decide)]
  simp (implicitDefEqProofs := false) [b__law_heard, execs, exec, ev, evs, asg, asgs, e, asgK, outc, most, evCmp, subAny, subT, isCls, isCl, fldT]
theorem heard_3 (d : Nat) (h : Mem → R MV) (v : MV) (μ : Mem) (e : h μ = some (.error (3, v), μ)) : den subT fldT none prT (d + 1) (some (0, h)) 37 [.thk 0] μ = some (.ok (.tup [.str "number", v]), μ) := by
  rw [den_at (F := ⟨1, 4, b__law_heard⟩) rfl rfl (by decide)]
  simp (implicitDefEqProofs := false) [b__law_heard, execs, exec, ev, evs, asg, asgs, e, asgK, outc, most, evCmp, subAny, subT, isCls, isCl, fldT]
theorem heard_4 (d : Nat) (h : Mem → R MV) (v : MV) (μ : Mem) (e : h μ = some (.error (4, v), μ)) : den subT fldT none prT (d + 1) (some (0, h)) 37 [.thk 0] μ = some (.ok (.tup [.str "paper", v]), μ) := by
  rw [den_at (F := ⟨1, 4, b__law_heard⟩) rfl rfl (by decide)]
  simp (implicitDefEqProofs := false) [b__law_heard, execs, exec, ev, evs, asg, asgs, e, asgK, outc, most, evCmp, subAny, subT, isCls, isCl, fldT]
theorem hrd_of (d : Nat) (e' : E) (ρ : Env) (μ : Mem) {v : MV} (hv : v.noL = true) (h1 : den subT fldT none prT (d + 1) (some (0, fun μ => ev (wdAt subT fldT none prT (d + 1) none) e' ρ μ)) 37 [.thk 0] μ = some (.ok v, μ)) : ev (wdAt subT fldT none prT (d + 1) none) (.hrd 37 e') ρ μ = some (.ok v, μ) := by
  rw [ev]
  show (match den subT fldT none prT (d + 1) (some (0, fun μ => ev (wdAt subT fldT none prT (d + 1) none) e' ρ μ)) 37 [.thk 0] μ with
    | some (.ok v, μ') => gc μ.length μ (some (.ok v, μ'))
    | _ => none) = _
  rw [h1]
  exact gc_same hv
theorem hrd_ok (d : Nat) (e' : E) (ρ : Env) (μ : Mem) {v : MV} (hv : v.noL = true) (h : ev (wdAt subT fldT none prT (d + 1) none) e' ρ μ = some (.ok v, μ)) : ev (wdAt subT fldT none prT (d + 1) none) (.hrd 37 e') ρ μ = some (.ok (.tup [.str "told", v]), μ) :=
  hrd_of d e' ρ μ (by simp [MV.noL, MV.noLs, hv]) (heard_ok d _ v μ h)
theorem hrd_2 (d : Nat) (e' : E) (ρ : Env) (μ : Mem) {v : MV} (hv : v.noL = true) (h : ev (wdAt subT fldT none prT (d + 1) none) e' ρ μ = some (.error (2, v), μ)) : ev (wdAt subT fldT none prT (d + 1) none) (.hrd 37 e') ρ μ = some (.ok (.tup [.str "net", v]), μ) :=
  hrd_of d e' ρ μ (by simp [MV.noL, MV.noLs, hv]) (heard_2 d _ v μ h)
theorem hrd_3 (d : Nat) (e' : E) (ρ : Env) (μ : Mem) {v : MV} (hv : v.noL = true) (h : ev (wdAt subT fldT none prT (d + 1) none) e' ρ μ = some (.error (3, v), μ)) : ev (wdAt subT fldT none prT (d + 1) none) (.hrd 37 e') ρ μ = some (.ok (.tup [.str "number", v]), μ) :=
  hrd_of d e' ρ μ (by simp [MV.noL, MV.noLs, hv]) (heard_3 d _ v μ h)
theorem hrd_4 (d : Nat) (e' : E) (ρ : Env) (μ : Mem) {v : MV} (hv : v.noL = true) (h : ev (wdAt subT fldT none prT (d + 1) none) e' ρ μ = some (.error (4, v), μ)) : ev (wdAt subT fldT none prT (d + 1) none) (.hrd 37 e') ρ μ = some (.ok (.tup [.str "paper", v]), μ) :=
  hrd_of d e' ρ μ (by simp [MV.noL, MV.noLs, hv]) (heard_4 d _ v μ h)
theorem gc_er {c : Nat} {μ : Mem} {v : MV} (h : v.noL = true) : gc μ.length μ (some (.error (c, v), μ)) = some (.error (c, v), μ) := by
  simp [gc, gcOk_self, frz, rd_noL h]
theorem app_err (W : Wd) (f : Nat) (es : ES) (ρ : Env) (μ : Mem) (xs : List MV) {c : Nat} {v : MV} (hv : v.noL = true) (h : evs W es ρ μ = some (.ok xs, μ)) (e : W.call f xs μ = some (.error (c, v), μ)) : ev W (.app false f es []) ρ μ = some (.error (c, v), μ) := by
  simp only [ev, h, bnd_ok, List.append_nil, e, Bool.false_eq_true, if_false]
  exact gc_er hv
theorem app_ok (W : Wd) (f : Nat) (es : ES) (ρ : Env) (μ : Mem) (xs : List MV) {v : MV} (hv : v.noL = true) (h : evs W es ρ μ = some (.ok xs, μ)) (e : W.call f xs μ = some (.ok v, μ)) : ev W (.app false f es []) ρ μ = some (.ok v, μ) := by
  simp only [ev, h, bnd_ok, List.append_nil, e, Bool.false_eq_true, if_false]
  exact gc_same hv
theorem apk_ok (W : Wd) (f : Nat) (es : ES) (sel : List (Nat ⊕ MV)) (ρ : Env) (μ : Mem) (xs ys : List MV) {v : MV} (hv : v.noL = true) (h : evs W es ρ μ = some (.ok xs, μ)) (hs : selA sel xs = some ys) (e : W.call f ys μ = some (.ok v, μ)) : ev W (.apk f es sel) ρ μ = some (.ok v, μ) := by
  simp only [ev, h, bnd_ok, hs, e]
  exact gc_same hv
theorem apk_err (W : Wd) (f : Nat) (es : ES) (sel : List (Nat ⊕ MV)) (ρ : Env) (μ : Mem) (xs ys : List MV) {c : Nat} {v : MV} (hv : v.noL = true) (h : evs W es ρ μ = some (.ok xs, μ)) (hs : selA sel xs = some ys) (e : W.call f ys μ = some (.error (c, v), μ)) : ev W (.apk f es sel) ρ μ = some (.error (c, v), μ) := by
  simp only [ev, h, bnd_ok, hs, e]
  exact gc_er hv
/-- some of the numbers, as they are drawn -/
theorem lcm_draw {step : MV → Mem → R (Option MV)} {cs : List Int} {rest : Mem} {gd : List (Nat × List MV)} (hg : gd = []) {B : Nat} (h : ∀ (k : Nat) (s : Nat) (gs : List Int), s < B → ∃ (b : Bool) (gs' : List Int), step (.int k) (M cs s gs rest) = some (.ok (if b = true then some (.int (k : Nat)) else none), M cs (s + 1) gs' rest)) :
    ∀ (ks : List Nat) (acc : List MV) (s : Nat) (gs : List Int), s + ks.length ≤ B → acc.length + ks.length < most → ∃ (row : List Nat) (gs' : List Int), row.Sublist ks ∧ lcmL gd step (iv ks) acc (M cs s gs rest) = some (.ok (acc ++ iv row), M cs (s + ks.length) gs' rest)
  | [], acc, s, gs, _, _ => ⟨[], gs, .slnil, by subst hg; simp [lcmL, gdOk]⟩
  | k :: ks, acc, s, gs, hB, hl => by
    subst hg
    simp only [List.length_cons] at hB hl
    obtain ⟨b, g1, e⟩ := h k s gs (by omega)
    have hs : s + (ks.length + 1) = s + 1 + ks.length := by omega
    cases b with
    | true =>
      obtain ⟨row, g2, sub, e2⟩ := lcm_draw rfl h ks (acc ++ [.int k]) (s + 1) g1 (by omega) (by simp; omega)
      refine ⟨k :: row, g2, sub.cons_cons k, ?_⟩
      rw [iv, List.map_cons, lcmL, if_pos ⟨rfl, by omega⟩, e]
      simp only [if_true, List.length_cons]
      rw [hs]
      rw [show lcmL [] step (List.map (fun (k : Nat) => MV.int k) ks) (acc ++ [MV.int k]) (M cs (s + 1) g1 rest) = _ from e2]
      simp
    | false =>
      obtain ⟨row, g2, sub, e2⟩ := lcm_draw rfl h ks acc (s + 1) g1 (by omega) (by omega)
      refine ⟨row, g2, sub.cons k, ?_⟩
      rw [iv, List.map_cons, lcmL, if_pos ⟨rfl, by omega⟩, e]
      simp only [Bool.false_eq_true, if_false, List.length_cons]
      rw [hs]
      exact e2
end MI
end
section
set_option Elab.async false
set_option linter.all false
set_option maxRecDepth 100000
set_option maxHeartbeats 4000000
set_option exponentiation.threshold 20000
namespace MI
open PySem PySem.Spec PyProof.Rows L2
def lrT0 : S := (.asg (.nm 3) (.blt .tup1 (.cons (.lcm [7] (.rng (.cons (.blt .len (.cons (.idx (.var 1) (.con (.int 2))) .nil)) .nil)) (.nm 7) (.cmp .eq (.app false 21 (.cons (.var 0) (.cons (.con (.int 2)) .nil)) []) (.con (.int 0))) (.var 7)) .nil)))
def lrT1 : S := (.asg (.nm 4) (.app false 33 (.cons (.var 1) (.cons (.var 3) .nil)) []))
def lrT2 : S := (.asg (.nm 5) (.lst (.cons (.hrd 37 (.app false 16 (.cons (.var 1) (.cons (.var 3) .nil)) [])) (.cons (.hrd 37 (.apk 17 (.cons (.var 1) (.cons (.var 3) .nil)) [.inl 0, .inl 1])) (.cons (.hrd 37 (.app false 18 (.cons (.var 1) (.cons (.var 3) .nil)) [])) .nil)))))
def lrT3 : S := (.asg (.nm 6) (.lst (.cons (.tup (.cons (.con (.str "told")) (.cons (.cmp .notn (.var 4) (.con .non)) .nil))) (.cons (.tup (.cons (.con (.str "paper")) (.cons (.con (.str "forest")) .nil))) (.cons (.tup (.cons (.con (.str "paper")) (.cons (.con (.str "forest")) .nil))) .nil)))))
def lrT4 : S := (.ite (.cmp .notn (.var 4) (.con .non)) (.cons (.asg (.nm 6) (.lst (.cons (.idx (.var 6) (.con (.int 0))) (.cons (.tup (.cons (.con (.str "told")) (.cons (.app false 34 (.cons (.var 1) (.cons (.var 4) .nil)) []) .nil))) (.cons (.tup (.cons (.con (.str "told")) (.cons (.app false 28 (.cons (.lcm [7] (.seq (.var 3)) (.nm 7) (.con (.bl true)) (.idx (.idx (.idx (.var 1) (.con (.int 2))) (.var 7)) (.con (.int 2)))) .nil) []) .nil))) .nil))))) .nil) .nil)
def lrT5 : S := (.ite (.nt (.app false 24 (.cons (.var 5) (.cons (.var 6) .nil)) [])) (.cons (.ret (.con (.bl false))) .nil) .nil)
def lrT6 : S := (.ite (.an (.cmp .notn (.var 4) (.con .non)) (.nt (.app false 24 (.cons (.lst (.cons (.apk 16 (.cons (.var 3) (.cons (.var 1) .nil)) [.inl 1, .inl 0]) (.cons (.apk 18 (.cons (.var 3) (.cons (.var 1) .nil)) [.inl 1, .inl 0]) .nil))) (.cons (.lst (.cons (.con (.bl true)) (.cons (.idx (.idx (.var 6) (.con (.int 2))) (.con (.int 1))) .nil))) .nil)) []))) (.cons (.ret (.con (.bl false))) .nil) .nil)
def lrT : SS := (.cons lrT0 (.cons lrT1 (.cons lrT2 (.cons lrT3 (.cons lrT4 (.cons lrT5 (.cons lrT6 .nil)))))))
noncomputable abbrev lcS (W : Wd) (own : List Nat) (g : G) (c e : E) (ρ : Env) : MV → Mem → R (Option MV) := fun x μ => match asg W g x (wipe ρ own) μ with
  | some (ρ', μ') => match ev W c ρ' μ' with
    | some (.ok (.bl true), μ1) => bnd (ev W e ρ' μ1) fun y μ2 => some (.ok (some y), μ2)
    | some (.ok (.bl false), μ1) => some (.ok none, μ1)
    | _ => none
  | none => none
theorem lcm_ev {W : Wd} {own : List Nat} {it : It} {g : G} {c e : E} {ρ : Env} {μ μ1 μ2 : Mem} {xs ys : List MV} {gd : List (Nat × List MV)} (hit : evIt W it ρ μ = some (.ok (xs, gd), μ1)) (hl : lcmL gd (lcS W own g c e ρ) xs [] μ1 = some (.ok ys, μ2)) : ev W (.lcm own it g c e) ρ μ = some (.ok (.lv ys), μ2) := by
  rw [ev, hit, bnd_ok]
  show bnd (lcmL gd (lcS W own g c e ρ) xs [] μ1) _ = _
  rw [hl, bnd_ok]
noncomputable abbrev W13 : Wd := wdAt subT fldT none prT 13 none
theorem lr0 {cs : List Int} (hc : cs.length = 64) {s : Nat} (hs : s < 2 ^ 38) (gs : List Int) (n p : Nat) (ws : List Wr) (hw : ws.length ≤ 40) (o2 o3 o4 o5 o6 : Option MV) :
    ∃ (row : List Nat) (gs' : List Int), row.Sublist (List.range ws.length) ∧ exec W13 lrT0 [some (.loc 0), some (nv n p ws), o2, o3, o4, o5, o6, none] (M cs s gs []) = some (.nxt [some (.loc 0), some (nv n p ws), o2, some (.tup (iv row)), o4, o5, o6, none], M cs (s + ws.length) gs' []) := by
  have i2 : ∀ μ, evIdx μ (nv n p ws) (.int 2) = some (.tup (ws.map wv)) := fun μ => ix32 _ _ _ _
  have hr := rng_iv (show ws.length ≤ 1000 by omega)
  have q := fun (step : MV → Mem → R (Option MV)) (h : ∀ (k : Nat) (s : Nat) (gs : List Int), s < 2 ^ 39 → ∃ (b : Bool) (gs' : List Int), step (.int k) (M cs s gs []) = some (.ok (if b = true then some (.int (k : Nat)) else none), M cs (s + 1) gs' [])) => lcm_draw (gd := []) (step := step) rfl h (List.range ws.length) [] s gs (by simp; omega) (by simp [most]; omega)
  suffices hh : ∃ (row : List Nat) (gs' : List Int), row.Sublist (List.range ws.length) ∧ ev W13 (.lcm [7] (.rng (.cons (.blt .len (.cons (.idx (.var 1) (.con (.int 2))) .nil)) .nil)) (.nm 7) (.cmp .eq (.app false 21 (.cons (.var 0) (.cons (.con (.int 2)) .nil)) []) (.con (.int 0))) (.var 7)) [some (.loc 0), some (nv n p ws), o2, o3, o4, o5, o6, none] (M cs s gs []) = some (.ok (.lv (iv row)), M cs (s + ws.length) gs' []) by
    obtain ⟨row, gs', h1, h2⟩ := hh
    refine ⟨row, gs', h1, ?_⟩
    unfold lrT0
    generalize (E.lcm [7] (.rng (.cons (.blt .len (.cons (.idx (.var 1) (.con (.int 2))) .nil)) .nil)) (.nm 7) (.cmp .eq (.app false 21 (.cons (.var 0) (.cons (.con (.int 2)) .nil)) []) (.con (.int 0))) (.var 7)) = X at h2 ⊢
    have t : ∀ μ xs, evBi μ .tup1 [.lv xs] = some (.tup xs) := fun μ xs => rfl
    simp (implicitDefEqProofs := false) [execs, exec, ev, evs, evIt, asg, asgs, asgK, evCmp, ltD_int, outc, most, evBin, bopI, isCls, isCl, blO, intO, dat_int, eqv_int, gc_int, gc_bl, gc_fr, fx0, fx1, h2, t]
  obtain ⟨row, gs', h1, h2⟩ := q (lcS W13 [7] (.nm 7) (.cmp .eq (.app false 21 (.cons (.var 0) (.cons (.con (.int 2)) .nil)) []) (.con (.int 0))) (.var 7) [some (.loc 0), some (nv n p ws), o2, o3, o4, o5, o6, none]) fun k s gs hs => by
    obtain ⟨v, gs', p1, p2, e⟩ := g_draw 11 2 (by decide) (by decide) hc (show s < 2 ^ 40 by omega) gs []
    refine ⟨v == 0, gs', ?_⟩
    by_cases hv : v = 0
    · subst hv
      simp (implicitDefEqProofs := false) [execs, exec, ev, evs, evIt, asg, asgs, asgK, evCmp, ltD_int, outc, most, evBin, bopI, isCls, isCl, blO, intO, dat_int, eqv_int, gc_int, gc_bl, gc_fr, fx0, fx1, lcS, wipe, e]
    · have hb : (v == 0) = false := by simpa using hv
      simp (implicitDefEqProofs := false) [execs, exec, ev, evs, evIt, asg, asgs, asgK, evCmp, ltD_int, outc, most, evBin, bopI, isCls, isCl, blO, intO, dat_int, eqv_int, gc_int, gc_bl, gc_fr, fx0, fx1, lcS, wipe, e, hb]
  refine ⟨row, gs', h1, lcm_ev (xs := iv (List.range ws.length)) (gd := []) (μ1 := M cs s gs []) ?_ (by simpa using h2)⟩
  simp (implicitDefEqProofs := false) [execs, exec, ev, evs, evIt, asg, asgs, asgK, evCmp, ltD_int, outc, most, evBin, bopI, isCls, isCl, blO, intO, dat_int, eqv_int, gc_int, gc_bl, gc_fr, fx0, fx1, i2, len_tv, hr]
end MI
end
section
set_option Elab.async false
set_option linter.all false
set_option maxRecDepth 100000
set_option maxHeartbeats 4000000
set_option exponentiation.threshold 20000
namespace MI
open PySem PySem.Spec PyProof.Rows L2
theorem plS (n : Nat) (s : Str) (h : (PyData.str s).canLay0 = true) : Pl n (.str s) := by cases n <;> exact h
theorem plBo (n : Nat) (b : Bool) : Pl n (.bl b) := by cases n <;> trivial
theorem plIn (n : Nat) (i : Int) : Pl n (.int i) := by cases n <;> trivial
theorem Pl_iv (l : List Nat) (h : l.length ≤ 1000) : Pl 1 (.tup (iv l)) := ⟨by simpa using h, fun x hx => by
  obtain ⟨k, _, rfl⟩ := List.mem_map.mp hx
  exact plIn 0 _⟩
theorem Pl_plots (l : List Nat) (p : Nat) (hp : p ≤ 60) : Pl 2 (plotsV l p) := by
  refine ⟨?_, fun x hx => ?_⟩
  · rw [List.length_map]
    unfold plotsL
    exact Nat.le_trans (List.length_filter_le _ _) (by simp; omega)
  · obtain ⟨k, _, rfl⟩ := List.mem_map.mp hx
    refine Pl_iv _ ?_
    unfold lotL
    exact Nat.le_trans (List.length_filter_le _ _) (by simp; omega)
theorem noL_plots (l : List Nat) (p : Nat) : (plotsV l p).noL = true := by simp only [plotsV, MV.noL, noL_tups]
theorem Pl_pair {n : Nat} {u v : MV} (h : Pl n u) (g : Pl n v) : Pl (n + 1) (.tup [u, v]) := ⟨by simp, fun w hw => by simp at hw; rcases hw with rfl | rfl <;> first | exact h | exact g⟩
theorem Pl_l2 {n : Nat} {u v : MV} (h : Pl n u) (g : Pl n v) : Pl (n + 1) (.lv [u, v]) := ⟨by simp, fun w hw => by simp at hw; rcases hw with rfl | rfl <;> first | exact h | exact g⟩
theorem Pl_l3 {n : Nat} {u v w : MV} (h : Pl n u) (g : Pl n v) (k : Pl n w) : Pl (n + 1) (.lv [u, v, w]) := ⟨by simp, fun x hx => by simp at hx; rcases hx with rfl | rfl | rfl <;> first | exact h | exact g | exact k⟩
theorem str_told : (PyData.str "told").canLay0 = true := by decide +kernel
theorem str_paper : (PyData.str "paper").canLay0 = true := by decide +kernel
theorem str_forest : (PyData.str "forest").canLay0 = true := by decide +kernel
theorem row_ok {L : Nat} {row : List Nat} (h : row.Sublist (List.range L)) : (∀ k ∈ row, k < L) ∧ row.length ≤ L ∧ row.Pairwise (· < ·) :=
  ⟨fun k hk => List.mem_range.mp (h.subset hk), by simpa using h.length_le, (List.pairwise_lt_range).sublist h⟩
theorem rowQ_bd {n p : Nat} {ws : List Wr} (g : Good n p ws) (row : List Nat) : ∀ q ∈ rowQ ws row, Bd 20 20 q := by
  intro q hq
  obtain ⟨k, _, rfl⟩ := List.mem_map.mp hq
  by_cases hk : k < ws.length
  · simp only [hk, List.getElem?_eq_getElem, Option.map_some, Option.getD_some]
    exact (g.ok _ (List.getElem_mem hk)).2.2.2
  · simp only [List.getElem?_eq_none (by omega : ws.length ≤ k), Option.map_none, Option.getD_none]
    exact ⟨by decide, by decide⟩
/-- the strengths, listed by the law -/
theorem q_ev (W : Wd) (i j : Nat) (ρ : Env) (n p : Nat) (ws : List Wr) (row : List Nat) (vn : Nat) (own : Nat) (hi : i ≠ own) (h1 : ρ[i]? = some (some (nv n p ws))) (h2 : ρ[j]? = some (some (.tup (iv row)))) (ho : own < ρ.length) (hr : ∀ k ∈ row, k < ws.length) (hl : row.length ≤ 1000) (μ : Mem) :
    ev W (.lcm [own] (.seq (.var j)) (.nm own) (.con (.bl true)) (.idx (.idx (.idx (.var i) (.con (.int 2))) (.var own)) (.con (.int 2)))) ρ μ = some (.ok (.lv ((rowQ ws row).map fr)), μ) := by
  have i2 : evIdx μ (nv n p ws) (.int 2) = some (.tup (ws.map wv)) := ix32 _ _ _ _
  have e := lcm_iv (gd := []) (step := lcS W [own] (.nm own) (.con (.bl true)) (.idx (.idx (.idx (.var i) (.con (.int 2))) (.var own)) (.con (.int 2))) ρ) (μ := μ) rfl row (fun k => fr ((ws[k]?.map (·.q)).getD 1)) hl fun k hk => by
    have hk' := hr k hk
    have i3 := ixt_nat μ (show k < (ws.map wv).length by simpa using hk')
    simp only [List.getElem_map] at i3
    have i4 : evIdx μ (wv ws[k]) (.int 2) = some (fr ws[k].q) := wx2 _ _ _ _
    have a1 : ((ρ.set own none).set own (some (MV.int k)))[i]? = some (some (nv n p ws)) := by
      rw [List.getElem?_set_ne (fun e => hi e.symm), List.getElem?_set_ne (fun e => hi e.symm)]; exact h1
    have a2 : ((ρ.set own none).set own (some (MV.int k)))[own]? = some (some (.int k)) := by
      rw [List.getElem?_set_self (by simpa using ho)]
    have ho' : own < (ρ.set own none).length := by simpa using ho
    simp only [lcS, wipe, asg, ho', if_true, ev, a1, a2, bnd_ok, ok_some, Option.bind_some, id, i2, i3, i4, hk', List.getElem?_eq_getElem, Option.map_some, Option.getD_some]
  rw [lcm_ev (xs := iv row) (gd := []) (μ1 := μ) ?_ e]
  · simp [rowQ]
  · simp only [evIt, ev, h2, ok_some, bnd_ok, Option.bind_some, id, sqOf, gdOf, Option.map_some]
section
variable {n p : Nat} {ws : List Wr} (g : Good n p ws) {row : List Nat} (hr : ∀ k ∈ row, k < ws.length) (hl : row.length ≤ 40) (hs : row.Pairwise (· < ·)) (μ : Mem) (o0 o2 : Option MV)
include g hr hl hs
theorem lr_none (h : flead n p ws row = none) (o4 o5 o6 : Option MV) : execs W13 (.cons lrT1 (.cons lrT2 (.cons lrT3 (.cons lrT4 (.cons lrT5 (.cons lrT6 .nil)))))) [o0, some (nv n p ws), o2, some (.tup (iv row)), o4, o5, o6, none] μ =
    some (.nxt [o0, some (nv n p ws), o2, some (.tup (iv row)), some .non, some (.lv [.tup [.str "told", .bl false], .tup [.str "paper", .str "forest"], .tup [.str "paper", .str "forest"]]), some (.lv [.tup [.str "told", .bl false], .tup [.str "paper", .str "forest"], .tup [.str "paper", .str "forest"]]), none], μ) := by
  have e1 := r_lflead 11 g hr (by omega) μ
  rw [h] at e1
  simp only [oL] at e1
  have g1 := gc_same (μ := μ) (v := .non) rfl
  have s1 : exec W13 lrT1 [o0, some (nv n p ws), o2, some (.tup (iv row)), o4, o5, o6, none] μ = some (.nxt [o0, some (nv n p ws), o2, some (.tup (iv row)), some .non, o5, o6, none], μ) := by simp (implicitDefEqProofs := false) [execs, exec, ev, evs, evIt, asg, asgs, asgK, evCmp, ltD_int, outc, most, evBin, bopI, isCls, isCl, blO, intO, dat_int, eqv_int, gc_int, gc_bl, gc_fr, fx0, fx1, lrT1, e1, g1]
  have a1 := r_isf g hr (by omega) hs 7 μ
  rw [h] at a1
  have a2 := r_lots_no 6 g hr (by omega) hs μ h
  have a3 := r_weight_no 6 g hr (by omega) hs μ h
  have ea : ∀ ρ : Env, ρ[1]? = some (some (nv n p ws)) → ρ[3]? = some (some (.tup (iv row))) → evs W13 (.cons (.var 1) (.cons (.var 3) .nil)) ρ μ = some (.ok [nv n p ws, .tup (iv row)], μ) := fun ρ z1 z2 => by simp [evs, ev, z1, z2]
  have x1 := hrd_ok 12 (.app false 16 (.cons (.var 1) (.cons (.var 3) .nil)) []) [o0, some (nv n p ws), o2, some (.tup (iv row)), some .non, o5, o6, none] μ (v := .bl false) rfl (app_ok _ _ _ _ _ _ rfl (ea _ rfl rfl) a1)
  have x2 := hrd_4 12 (.apk 17 (.cons (.var 1) (.cons (.var 3) .nil)) [.inl 0, .inl 1]) [o0, some (nv n p ws), o2, some (.tup (iv row)), some .non, o5, o6, none] μ (v := .str "forest") rfl (apk_err _ _ _ _ _ _ _ _ rfl (ea _ rfl rfl) rfl a2)
  have x3 := hrd_4 12 (.app false 18 (.cons (.var 1) (.cons (.var 3) .nil)) []) [o0, some (nv n p ws), o2, some (.tup (iv row)), some .non, o5, o6, none] μ (v := .str "forest") rfl (app_err _ _ _ _ _ _ rfl (ea _ rfl rfl) a3)
  have s2 : exec W13 lrT2 [o0, some (nv n p ws), o2, some (.tup (iv row)), some .non, o5, o6, none] μ = some (.nxt [o0, some (nv n p ws), o2, some (.tup (iv row)), some .non, some (.lv [.tup [.str "told", .bl false], .tup [.str "paper", .str "forest"], .tup [.str "paper", .str "forest"]]), o6, none], μ) := by
    unfold lrT2
    generalize (E.hrd 37 (.app false 16 (.cons (.var 1) (.cons (.var 3) .nil)) [])) = X1 at x1 ⊢
    generalize (E.hrd 37 (.apk 17 (.cons (.var 1) (.cons (.var 3) .nil)) [.inl 0, .inl 1])) = X2 at x2 ⊢
    generalize (E.hrd 37 (.app false 18 (.cons (.var 1) (.cons (.var 3) .nil)) [])) = X3 at x3 ⊢
    simp (implicitDefEqProofs := false) [execs, exec, ev, evs, evIt, asg, asgs, asgK, evCmp, ltD_int, outc, most, evBin, bopI, isCls, isCl, blO, intO, dat_int, eqv_int, gc_int, gc_bl, gc_fr, fx0, fx1, x1, x2, x3]
  have k := r_like 3 (.lv [.tup [.str "told", .bl false], .tup [.str "paper", .str "forest"], .tup [.str "paper", .str "forest"]]) (Pl_l3 (Pl_pair (plS 1 _ str_told) (plBo 1 _)) (Pl_pair (plS 1 _ str_paper) (plS 1 _ str_forest)) (Pl_pair (plS 1 _ str_paper) (plS 1 _ str_forest))) 12 μ (by decide)
  rw [execs, s1, seqK_nxt, execs, s2, seqK_nxt]
  simp (implicitDefEqProofs := false) [execs, exec, ev, evs, evIt, asg, asgs, asgK, evCmp, ltD_int, outc, most, evBin, bopI, isCls, isCl, blO, intO, dat_int, eqv_int, gc_int, gc_bl, gc_fr, fx0, fx1, lrT3, lrT4, lrT5, lrT6, k]
theorem lr_some {l : List Nat} (h : flead n p ws row = some l) (o4 o5 o6 : Option MV) : ∃ o4' o5' o6', execs W13 (.cons lrT1 (.cons lrT2 (.cons lrT3 (.cons lrT4 (.cons lrT5 (.cons lrT6 .nil)))))) [o0, some (nv n p ws), o2, some (.tup (iv row)), o4, o5, o6, none] μ =
    some (.nxt [o0, some (nv n p ws), o2, some (.tup (iv row)), o4', o5', o6', none], μ) := by
  have hp := g.hp8
  have hlen := flead_len h
  have e1 := r_lflead 11 g hr (by omega) μ
  rw [h] at e1
  simp only [oL] at e1
  have g1 := gc_same (μ := μ) (v := .lv (iv l)) (by simp only [MV.noL, noL_ivs])
  have s1 : exec W13 lrT1 [o0, some (nv n p ws), o2, some (.tup (iv row)), o4, o5, o6, none] μ = some (.nxt [o0, some (nv n p ws), o2, some (.tup (iv row)), some (.lv (iv l)), o5, o6, none], μ) := by simp (implicitDefEqProofs := false) [execs, exec, ev, evs, evIt, asg, asgs, asgK, evCmp, ltD_int, outc, most, evBin, bopI, isCls, isCl, blO, intO, dat_int, eqv_int, gc_int, gc_bl, gc_fr, fx0, fx1, lrT1, e1, g1]
  have a1 := r_isf g hr (by omega) hs 7 μ
  rw [h] at a1
  have a2 := r_lots 6 g hr (by omega) hs μ h
  rw [lots_eq g hr h] at a2
  have a3 := r_weight 6 g hr (by omega) hs μ h
  have ea : ∀ ρ : Env, ρ[1]? = some (some (nv n p ws)) → ρ[3]? = some (some (.tup (iv row))) → evs W13 (.cons (.var 1) (.cons (.var 3) .nil)) ρ μ = some (.ok [nv n p ws, .tup (iv row)], μ) := fun ρ z1 z2 => by simp [evs, ev, z1, z2]
  have x1 := hrd_ok 12 (.app false 16 (.cons (.var 1) (.cons (.var 3) .nil)) []) [o0, some (nv n p ws), o2, some (.tup (iv row)), some (.lv (iv l)), o5, o6, none] μ (v := .bl true) rfl (app_ok _ _ _ _ _ _ rfl (ea _ rfl rfl) a1)
  have x2 := hrd_ok 12 (.apk 17 (.cons (.var 1) (.cons (.var 3) .nil)) [.inl 0, .inl 1]) [o0, some (nv n p ws), o2, some (.tup (iv row)), some (.lv (iv l)), o5, o6, none] μ (v := plotsV l p) (noL_plots l p) (apk_ok _ _ _ _ _ _ _ _ (noL_plots l p) (ea _ rfl rfl) rfl a2)
  have x3 := hrd_ok 12 (.app false 18 (.cons (.var 1) (.cons (.var 3) .nil)) []) [o0, some (nv n p ws), o2, some (.tup (iv row)), some (.lv (iv l)), o5, o6, none] μ (v := fr (prod (rowQ ws row) 1)) (noL_fr _) (app_ok _ _ _ _ _ _ (noL_fr _) (ea _ rfl rfl) a3)
  have s2 : exec W13 lrT2 [o0, some (nv n p ws), o2, some (.tup (iv row)), some (.lv (iv l)), o5, o6, none] μ = some (.nxt [o0, some (nv n p ws), o2, some (.tup (iv row)), some (.lv (iv l)), some (.lv [.tup [.str "told", .bl true], .tup [.str "told", plotsV l p], .tup [.str "told", fr (prod (rowQ ws row) 1)]]), o6, none], μ) := by
    unfold lrT2
    generalize (E.hrd 37 (.app false 16 (.cons (.var 1) (.cons (.var 3) .nil)) [])) = X1 at x1 ⊢
    generalize (E.hrd 37 (.apk 17 (.cons (.var 1) (.cons (.var 3) .nil)) [.inl 0, .inl 1])) = X2 at x2 ⊢
    generalize (E.hrd 37 (.app false 18 (.cons (.var 1) (.cons (.var 3) .nil)) [])) = X3 at x3 ⊢
    simp (implicitDefEqProofs := false) [execs, exec, ev, evs, evIt, asg, asgs, asgK, evCmp, ltD_int, outc, most, evBin, bopI, isCls, isCl, blO, intO, dat_int, eqv_int, gc_int, gc_bl, gc_fr, fx0, fx1, x1, x2, x3]
  have b1 := r_plots 12 n p ws l (by rw [hlen]; exact g.hp) (by omega) μ
  have b2 := gc_Fv μ ((plotsL l p).map fun k => .tup (iv (lotL l p k))) (noL_plots l p)
  have b3 := q_ev W13 1 3 [o0, some (nv n p ws), o2, some (.tup (iv row)), some (.lv (iv l)), some (.lv [.tup [.str "told", .bl true], .tup [.str "told", plotsV l p], .tup [.str "told", fr (prod (rowQ ws row) 1)]]), some (.lv [.tup [.str "told", .bl true], .tup [.str "paper", .str "forest"], .tup [.str "paper", .str "forest"]]), none] n p ws row 7 7 (by decide) rfl rfl (by simp) hr (by omega) μ
  have b4 := r_ltimes 10 (rowQ ws row) μ (rowQ_bd g row) (by simp only [rowQ, List.length_map]; omega)
  have k1 := r_like 4 (.lv [.tup [.str "told", .bl true], .tup [.str "told", plotsV l p], .tup [.str "told", fr (prod (rowQ ws row) 1)]]) (Pl_l3 (Pl_pair (plS 2 _ str_told) (plBo 2 _)) (Pl_pair (plS 2 _ str_told) (Pl_plots l p (by omega))) (Pl_pair (plS 2 _ str_told) (Pl_up (Pl_fr _)))) 12 μ (by decide)
  have k2 := r_like 2 (.lv [.bl true, fr (prod (rowQ ws row) 1)]) (Pl_l2 (plBo 1 _) (Pl_fr _)) 12 μ (by decide)
  refine ⟨some (.lv (iv l)), some (.lv [.tup [.str "told", .bl true], .tup [.str "told", plotsV l p], .tup [.str "told", fr (prod (rowQ ws row) 1)]]), some (.lv [.tup [.str "told", .bl true], .tup [.str "told", plotsV l p], .tup [.str "told", fr (prod (rowQ ws row) 1)]]), ?_⟩
  rw [execs, s1, seqK_nxt, execs, s2, seqK_nxt]
  have sx : ∀ (μ : Mem) (a b c : MV), evIdx μ (.lv [a, b, c]) (.int 0) = some a := fun μ a b c => by simp [evIdx, dcOf, sqOf, L2.atI, L2.ixN]
  have sy : ∀ (μ : Mem) (a b c : MV), evIdx μ (.lv [a, b, c]) (.int 2) = some c := fun μ a b c => by simp [evIdx, dcOf, sqOf, L2.atI, L2.ixN]
  have s3 : exec W13 lrT3 [o0, some (nv n p ws), o2, some (.tup (iv row)), some (.lv (iv l)), some (.lv [.tup [.str "told", .bl true], .tup [.str "told", plotsV l p], .tup [.str "told", fr (prod (rowQ ws row) 1)]]), o6, none] μ = some (.nxt [o0, some (nv n p ws), o2, some (.tup (iv row)), some (.lv (iv l)), some (.lv [.tup [.str "told", .bl true], .tup [.str "told", plotsV l p], .tup [.str "told", fr (prod (rowQ ws row) 1)]]), some (.lv [.tup [.str "told", .bl true], .tup [.str "paper", .str "forest"], .tup [.str "paper", .str "forest"]]), none], μ) := by simp (implicitDefEqProofs := false) [execs, exec, ev, evs, evIt, asg, asgs, asgK, evCmp, ltD_int, outc, most, evBin, bopI, isCls, isCl, blO, intO, dat_int, eqv_int, gc_int, gc_bl, gc_fr, fx0, fx1, lrT3]
  have s4 : exec W13 lrT4 [o0, some (nv n p ws), o2, some (.tup (iv row)), some (.lv (iv l)), some (.lv [.tup [.str "told", .bl true], .tup [.str "told", plotsV l p], .tup [.str "told", fr (prod (rowQ ws row) 1)]]), some (.lv [.tup [.str "told", .bl true], .tup [.str "paper", .str "forest"], .tup [.str "paper", .str "forest"]]), none] μ = some (.nxt [o0, some (nv n p ws), o2, some (.tup (iv row)), some (.lv (iv l)), some (.lv [.tup [.str "told", .bl true], .tup [.str "told", plotsV l p], .tup [.str "told", fr (prod (rowQ ws row) 1)]]), some (.lv [.tup [.str "told", .bl true], .tup [.str "told", plotsV l p], .tup [.str "told", fr (prod (rowQ ws row) 1)]]), none], μ) := by
    unfold lrT4
    generalize (E.lcm [7] (.seq (.var 3)) (.nm 7) (.con (.bl true)) (.idx (.idx (.idx (.var 1) (.con (.int 2))) (.var 7)) (.con (.int 2)))) = Y at b3 ⊢
    generalize plotsV l p = pl at *
    simp (implicitDefEqProofs := false) [execs, exec, ev, evs, evIt, asg, asgs, asgK, evCmp, ltD_int, outc, most, evBin, bopI, isCls, isCl, blO, intO, dat_int, eqv_int, gc_int, gc_bl, gc_fr, fx0, fx1, b1, b2, b3, b4, sx]
  rw [execs, s3, seqK_nxt, execs, s4, seqK_nxt]
  have ha1 : ∀ x y : MV, selA [.inl 1, .inl 0] [x, y] = some [y, x] := fun x y => rfl
  generalize plotsV l p = pl at *
  simp (implicitDefEqProofs := false) [execs, exec, ev, evs, evIt, asg, asgs, asgK, evCmp, ltD_int, outc, most, evBin, bopI, isCls, isCl, blO, intO, dat_int, eqv_int, gc_int, gc_bl, gc_fr, fx0, fx1, lrT5, lrT6, k1, k2, sy, idx_p1, ha1, a1, a3]
end
end MI
end
section
set_option Elab.async false
set_option linter.all false
set_option maxRecDepth 100000
set_option maxHeartbeats 4000000
set_option exponentiation.threshold 20000
namespace MI
open PySem PySem.Spec PyProof.Rows L2
theorem wlt_trans {a b c : Wr} (h : wlt a b = true) (g : wlt b c = true) : wlt a c = true := PyProof.Rows.lex_trans (O := itemOrd) _ _ _ h g
theorem wlt_neg {a b c : Wr} (h : wlt a c = true) : wlt a b = true ∨ wlt b c = true := PyProof.Rows.lex_negTrans (O := itemOrd) _ _ _ h
theorem wlt_irr (a : Wr) : wlt a a = false := PyProof.Rows.lex_irrefl (O := itemOrd) _
def sortW (ws : List Wr) : List Wr := ws.mergeSort fun a b => !wlt b a
theorem sortW_perm (ws : List Wr) : (sortW ws).Perm ws := List.mergeSort_perm _ _
theorem sortW_so (ws : List Wr) : (sortW ws).Pairwise fun u w => wlt w u = false := by
  have q := List.pairwise_mergeSort (le := fun (a b : Wr) => !wlt b a) (fun a b c h g => by
    simp only [Bool.not_eq_true'] at *
    cases z : wlt c a with
    | false => rfl
    | true =>
      rcases wlt_neg (b := b) z with z | z
      · rw [g] at z; cases z
      · rw [h] at z; cases z) (fun a b => by
    cases z : wlt a b with
    | false => simp [z]
    | true =>
      cases y : wlt b a with
      | false => simp [y]
      | true => have := wlt_trans z y; rw [wlt_irr] at this; cases this) ws
  exact q.imp fun h => by simpa using h
theorem toDs_wvs : ∀ ws : List Wr, MV.toDs (ws.map wv) = some (ws.map wD)
  | [] => rfl
  | w :: ws => by simp [MV.toDs, toD_wv, toDs_wvs ws]
theorem srt_wvs (ws : List Wr) (h : ws.length ≤ 1000) : srtOk (ws.map wv) = true ∧ srt (ws.map wv) = (sortW ws).map wv := by
  constructor
  · unfold srtOk
    rw [toDs_wvs]
    have h1 : (ws.map wv).length ≤ most := by simp [most]; omega
    simp only [h1, decide_true, Bool.true_and, Bool.and_eq_true]
    constructor
    · simp only [List.all_eq_true, List.mem_map]
      rintro d ⟨w, _, rfl⟩
      simp [wD, PyData.depth, PyData.depthAll, noNone]
      intro a _
      simp [W.alike, W.alikeAll]
    · unfold srtK
      simp only [Bool.or_eq_true]
      left; left
      simp only [List.all_eq_true, List.mem_map]
      rintro d ⟨w, _, rfl⟩
      rfl
  · unfold srt sortW
    exact (List.map_mergeSort (f := wv) fun a _ b _ => by simp only [ltM, toD_wv, Option.getD_some, wlt]).symm
theorem M_ls (cs : List Int) (s : Nat) (gs : List Int) (xs : List MV) : lsOf (M cs s gs [.lst xs]) (.loc 2) = some xs := by simp [M, lsOf]
theorem M_app (cs : List Int) (s : Nat) (gs : List Int) (xs : List MV) (v : MV) (h : xs.length < 1000) : evMe (M cs s gs [.lst xs]) .append (.loc 2) [v] = some (.non, M cs s gs [.lst (xs ++ [v])]) := by
  have : xs.length < most := by simp [most]; omega
  simp [M, evMe, this]
theorem M_srt (cs : List Int) (s : Nat) (gs : List Int) (ws : List Wr) (h : ws.length ≤ 1000) : evBi (M cs s gs [.lst (ws.map wv)]) .srt1 [.loc 2] = some (.lv ((sortW ws).map wv)) := by
  obtain ⟨h1, h2⟩ := srt_wvs ws h
  have hd : dcOf (M cs s gs [.lst (ws.map wv)]) (.loc 2) = none := rfl
  have hs : sqOf (M cs s gs [.lst (ws.map wv)]) (.loc 2) = some (ws.map wv) := rfl
  simp only [evBi, hd, hs, Option.bind_some, h1, if_true, h2]
def WOk (n : Nat) (ws : List Wr) : Prop := ∀ w ∈ ws, w.a < w.b ∧ w.b < n ∧ 0 < w.q ∧ Bd 20 20 w.q
theorem WOk.snoc {n : Nat} {ws : List Wr} {w : Wr} (h : WOk n ws) (g : w.a < w.b ∧ w.b < n ∧ 0 < w.q ∧ Bd 20 20 w.q) : WOk n (ws ++ [w]) := by
  intro u hu
  rcases List.mem_append.mp hu with hu | hu
  · exact h u hu
  · simp only [List.mem_singleton] at hu; subst hu; exact g
theorem good_sort {n p : Nat} {ws : List Wr} (h : WOk n ws) (hn : n ≤ 48) (hp : p ≤ n) (hp8 : p ≤ 8) (hw : ws.length ≤ 40) : Good n p (sortW ws) :=
  ⟨hn, hp, hp8, by rw [(sortW_perm ws).length_eq]; exact hw, fun w hw => h w ((sortW_perm ws).mem_iff.mp hw), sortW_so ws⟩
theorem gc_Mr (cs : List Int) (s : Nat) (gs : List Int) (xs : List MV) (v : MV) (hv : v.noL = true) (s' : Nat) (gs' : List Int) : gc (List.length (M cs s gs [])) (M cs s gs []) (some (.ok v, M cs s' gs' [.lst xs])) = some (.ok v, M cs s' gs' []) := by
  have h : gcOk (M cs s gs []).length (M cs s gs []) (M cs s' gs' []) = true := by
    simp [M, gcOk, gcOk_self, MO.lt, MV.lts, MV.lt, lts_ints]
  have t : (M cs s' gs' [.lst xs]).take (M cs s gs []).length = M cs s' gs' [] := rfl
  simp [gc, t, h, frz, rd_noL hv]
def lnS0 : S := (.asg (.nm 4) (.chg (.lst .nil)))
def lnS1 : S := (.ite (.cmp .gt (.var 1) (.con (.int 1))) (.cons (.fr (.nm 5) (.rng (.cons (.app false 21 (.cons (.var 0) (.cons (.bin .add (.var 3) (.con (.int 1))) .nil)) []) .nil)) (.cons (.asg (.tp (.cons (.nm 7) (.cons (.nm 6) .nil))) (.tup (.cons (.app false 21 (.cons (.var 0) (.cons (.var 1) .nil)) []) (.cons (.app false 21 (.cons (.var 0) (.cons (.bin .sub (.var 1) (.con (.int 1))) .nil)) []) .nil)))) (.cons (.asg (.nm 6) (.ife (.cmp .ge (.var 6) (.var 7)) (.bin .add (.var 6) (.con (.int 1))) (.var 6))) (.cons (.ex (.mth .append (.var 4) (.cons (.tup (.cons (.blt .min2 (.cons (.var 7) (.cons (.var 6) .nil))) (.cons (.blt .max2 (.cons (.var 7) (.cons (.var 6) .nil))) (.cons (.app false 29 (.cons (.var 0) .nil) []) .nil)))) .nil))) .nil)))) .nil) .nil)
def lnS2 : S := (.ret (.tup (.cons (.var 1) (.cons (.var 2) (.cons (.blt .tup1 (.cons (.blt .srt1 (.cons (.var 4) .nil)) .nil)) .nil)))))
def lnS : SS := (.cons lnS0 (.cons lnS1 (.cons lnS2 .nil)))
abbrev lnB : SS := (.cons (.asg (.tp (.cons (.nm 7) (.cons (.nm 6) .nil))) (.tup (.cons (.app false 21 (.cons (.var 0) (.cons (.var 1) .nil)) []) (.cons (.app false 21 (.cons (.var 0) (.cons (.bin .sub (.var 1) (.con (.int 1))) .nil)) []) .nil)))) (.cons (.asg (.nm 6) (.ife (.cmp .ge (.var 6) (.var 7)) (.bin .add (.var 6) (.con (.int 1))) (.var 6))) (.cons (.ex (.mth .append (.var 4) (.cons (.tup (.cons (.blt .min2 (.cons (.var 7) (.cons (.var 6) .nil))) (.cons (.blt .max2 (.cons (.var 7) (.cons (.var 6) .nil))) (.cons (.app false 29 (.cons (.var 0) .nil) []) .nil)))) .nil))) .nil)))
/-- two drawn ends of a wire, not one -/
theorem two_ends {n one two0 : Nat} (h1 : one < n) (h2 : (two0 : Int) < (n : Int) - 1) : (if one ≤ two0 then two0 + 1 else two0) ≠ one ∧ (if one ≤ two0 then two0 + 1 else two0) < n := by
  split <;> omega
theorem ln_step (d : Nat) {cs : List Int} (hc : cs.length = 64) {s : Nat} (hs : s < 2 ^ 38) (gs : List Int) {n : Nat} (hn : 1 < n) (hn2 : n ≤ 1000) {ws : List Wr} (hw : WOk n ws) (hl : ws.length < 1000) (o2 o3 o5 o6 o7 : Option MV) (i : MV) :
    ∃ (w : Wr) (s' : Nat) (gs' : List Int) (o6' o7' : Option MV), WOk n (ws ++ [w]) ∧ s' ≤ s + 5 ∧ stp (wdAt subT fldT none prT (d + 3) none) (.nm 5) lnB i [some (.loc 0), some (.int n), o2, o3, some (.loc 2), o5, o6, o7] (M cs s gs [.lst (ws.map wv)]) = some (.nxt [some (.loc 0), some (.int n), o2, o3, some (.loc 2), some i, o6', o7'], M cs s' gs' [.lst ((ws ++ [w]).map wv)]) := by
  have hp : (2 : Nat) ^ 9000 > 1000 := Nat.lt_of_lt_of_le (show 1000 < 2 ^ 10 by decide) (Nat.pow_le_pow_right (by decide) (by decide))
  obtain ⟨v1, g1, p1, q1, e1⟩ := g_draw (d + 1) (n : Int) (by omega) (by omega) hc (show s < 2 ^ 40 by omega) gs [.lst (ws.map wv)]
  obtain ⟨v2, g2, p2, q2, e2⟩ := g_draw (d + 1) ((n : Int) - 1) (by omega) (by omega) hc (show s + 1 < 2 ^ 40 by omega) g1 [.lst (ws.map wv)]
  obtain ⟨q, s3, g3, pq, bq, h3, e3⟩ := r_strength d hc (show s + 1 + 1 < 2 ^ 39 by omega) g2 [.lst (ws.map wv)]
  have e3' := gc_M cs (s + 1 + 1) g2 [.lst (ws.map wv)] (fr q) (noL_fr q) s3 g3
  obtain ⟨one, rfl⟩ : ∃ k : Nat, v1 = (k : Int) := ⟨v1.toNat, by omega⟩
  obtain ⟨two0, rfl⟩ : ∃ k : Nat, v2 = (k : Int) := ⟨v2.toNat, by omega⟩
  obtain ⟨t1, t2⟩ := two_ends (n := n) (one := one) (two0 := two0) (by omega) q2
  have hif : (if (two0 : Int) < (one : Int) then (two0 : Int) else (two0 : Int) + 1) = ((if one ≤ two0 then two0 + 1 else two0 : Nat) : Int) := by split <;> split <;> omega
  generalize htt : (if one ≤ two0 then two0 + 1 else two0) = two at t1 t2 hif
  have m1 := fun μ => min_two μ one two
  have m2 := fun μ => max_two μ one two
  have ha := M_app cs s3 g3 (ws.map wv) (wv ⟨min one two, max one two, q⟩) (by simpa using hl)
  refine ⟨⟨min one two, max one two, q⟩, s3, g3, some (.int two), some (.int one), hw.snoc ⟨by show min one two < max one two; omega, by show max one two < n; omega, pq, bq⟩, by omega, ?_⟩
  have hl2 := M_ls cs (s + 1 + 1) g2 (ws.map wv)
  simp only [wv, wr] at ha
  by_cases hlt : (two0 : Int) < (one : Int)
  · rw [if_pos hlt] at hif
    have he : two0 = two := by omega
    subst he
    generalize min one two0 = mi at *
    generalize max one two0 = mx at *
    simp only [stp, List.map_append, List.map_cons, List.map_nil, wv, wr]
    simp (implicitDefEqProofs := false) [execs, exec, ev, evs, evIt, asg, asgs, asgK, evCmp, ltD_int, outc, most, evBin, bopI, isCls, isCl, blO, intO, dat_int, eqv_int, gc_int, gc_bl, gc_fr, fx0, fx1, e1, e2, e3, e3', hlt, m1, m2, hl2, ha]
  · rw [if_neg hlt] at hif
    generalize min one two = mi at *
    generalize max one two = mx at *
    simp only [stp, List.map_append, List.map_cons, List.map_nil, wv, wr]
    simp (implicitDefEqProofs := false) [execs, exec, ev, evs, evIt, asg, asgs, asgK, evCmp, ltD_int, outc, most, evBin, bopI, isCls, isCl, blO, intO, dat_int, eqv_int, gc_int, gc_bl, gc_fr, fx0, fx1, e1, e2, e3, e3', hlt, hif, m1, m2, hl2, ha]
end MI
end
section
set_option Elab.async false
set_option linter.all false
set_option maxRecDepth 100000
set_option maxHeartbeats 4000000
set_option exponentiation.threshold 20000
namespace MI
open PySem PySem.Spec PyProof.Rows L2
theorem ln_for (d : Nat) {cs : List Int} (hc : cs.length = 64) {n : Nat} (hn : 1 < n) (hn2 : n ≤ 1000) (o2 o3 : Option MV) : ∀ (xs : List MV) (ws : List Wr) (s : Nat) (gs : List Int) (o5 o6 o7 : Option MV), WOk n ws → ws.length + xs.length ≤ 1000 → s + 5 * xs.length < 2 ^ 38 →
    ∃ (ws' : List Wr) (s' : Nat) (gs' : List Int) (o5' o6' o7' : Option MV), WOk n ws' ∧ ws'.length = ws.length + xs.length ∧ s' ≤ s + 5 * xs.length ∧ forL [] (stp (wdAt subT fldT none prT (d + 3) none) (.nm 5) lnB) xs [some (.loc 0), some (.int n), o2, o3, some (.loc 2), o5, o6, o7] (M cs s gs [.lst (ws.map wv)]) = some (.nxt [some (.loc 0), some (.int n), o2, o3, some (.loc 2), o5', o6', o7'], M cs s' gs' [.lst (ws'.map wv)])
  | [], ws, s, gs, o5, o6, o7, hw, _, _ => ⟨ws, s, gs, o5, o6, o7, hw, by simp, by simp, forL_nil rfl⟩
  | x :: xs, ws, s, gs, o5, o6, o7, hw, hl, hs => by
    simp only [List.length_cons] at hl hs
    obtain ⟨w, s1, g1, o6', o7', h1, h2, e⟩ := ln_step d hc (show s < 2 ^ 38 by omega) gs hn hn2 hw (by omega) o2 o3 o5 o6 o7 x
    obtain ⟨ws', s2, g2, p5, p6, p7, k1, k2, k3, e2⟩ := ln_for d hc hn hn2 o2 o3 xs (ws ++ [w]) s1 g1 (some x) o6' o7' h1 (by simp; omega) (by omega)
    refine ⟨ws', s2, g2, p5, p6, p7, k1, by rw [k2]; simp; omega, by simp only [List.length_cons]; omega, (forL_nxt rfl e).trans e2⟩
theorem fr_ev {W : Wd} {g : G} {it : It} {b : SS} {ρ : Env} {μ μ1 : Mem} {xs : List MV} {gd : List (Nat × List MV)} (h : evIt W it ρ μ = some (.ok (xs, gd), μ1)) : exec W (.fr g it b) ρ μ = forL gd (stp W g b) xs ρ μ1 := by
  simp only [exec, h, thenE_ok] <;> rfl
theorem M_sqr (cs : List Int) (s : Nat) (gs : List Int) (xs : List MV) : evBi (M cs s gs [.lst xs]) .len [.loc 2] = some (.int xs.length) := by simp [M, evBi, dcOf, sqOf]
theorem bi_tup (μ : Mem) (xs : List MV) : evBi μ .tup1 [.lv xs] = some (.tup xs) := rfl
theorem r_lnet (d : Nat) {cs : List Int} (hc : cs.length = 64) {s : Nat} (hs : s < 2 ^ 37) (gs : List Int) {n p w : Nat} (hn : n ≤ 48) (hp : p ≤ n) (hp8 : p ≤ 8) (hw : w ≤ 40) :
    ∃ (ws : List Wr) (s' : Nat) (gs' : List Int), Good n p ws ∧ ws.length ≤ w ∧ s' ≤ s + 300 ∧ gc (List.length (M cs s gs [])) (M cs s gs []) (den subT fldT none prT (d + 4) none 30 [.loc 0, .int n, .int p, .int w] (M cs s gs [])) = some (.ok (nv n p ws), M cs s' gs' []) := by
  suffices hh : ∃ (ws : List Wr) (s' : Nat) (gs' : List Int), WOk n ws ∧ ws.length ≤ w ∧ s' ≤ s + 300 ∧ den subT fldT none prT (d + 4) none 30 [.loc 0, .int n, .int p, .int w] (M cs s gs []) = some (.ok (nv n p (sortW ws)), M cs s' gs' [.lst (ws.map wv)]) by
    obtain ⟨ws, s', gs', h1, h2, h3, e⟩ := hh
    refine ⟨sortW ws, s', gs', good_sort h1 hn hp hp8 (by omega), by rw [(sortW_perm ws).length_eq]; exact h2, h3, ?_⟩
    rw [e]
    exact gc_Mr cs s gs _ _ (noL_nv _ _ _) s' gs'
  have e0 : exec (wdAt subT fldT none prT (d + 3) none) lnS0 [some (.loc 0), some (.int n), some (.int p), some (.int w), none, none, none, none] (M cs s gs []) = some (.nxt [some (.loc 0), some (.int n), some (.int p), some (.int w), some (.loc 2), none, none, none], M cs s gs [.lst []]) := by
    simp (implicitDefEqProofs := false) [execs, exec, ev, evs, evIt, asg, asgs, asgK, evCmp, ltD_int, outc, most, evBin, bopI, isCls, isCl, blO, intO, dat_int, eqv_int, gc_int, gc_bl, gc_fr, fx0, fx1, lnS0, M]
  have e2 : ∀ (ws : List Wr) (s' : Nat) (gs' : List Int) (o5 o6 o7 : Option MV), ws.length ≤ 1000 → exec (wdAt subT fldT none prT (d + 3) none) lnS2 [some (.loc 0), some (.int n), some (.int p), some (.int w), some (.loc 2), o5, o6, o7] (M cs s' gs' [.lst (ws.map wv)]) = some (.ret (nv n p (sortW ws)), M cs s' gs' [.lst (ws.map wv)]) := by
    intro ws s' gs' o5 o6 o7 h
    have e1 := M_srt cs s' gs' ws h
    simp (implicitDefEqProofs := false) [execs, exec, ev, evs, evIt, asg, asgs, asgK, evCmp, ltD_int, outc, most, evBin, bopI, isCls, isCl, blO, intO, dat_int, eqv_int, gc_int, gc_bl, gc_fr, fx0, fx1, lnS2, e1, bi_tup, nv]
  have hb : ∀ μ vs, den subT fldT none prT (d + 4) none 30 vs μ = den subT fldT none prT (d + 4) none 30 vs μ := fun _ _ => rfl
  rw [den_at (F := ⟨4, 8, b__law_net⟩) rfl rfl (by decide)]
  show ∃ (ws : List Wr) (s' : Nat) (gs' : List Int), WOk n ws ∧ ws.length ≤ w ∧ s' ≤ s + 300 ∧ outc (execs (wdAt subT fldT none prT (d + 3) none) lnS [some (.loc 0), some (.int n), some (.int p), some (.int w), none, none, none, none] (M cs s gs [])) = _
  by_cases h1 : 1 < n
  · obtain ⟨v1, g1, p1, q1, e1⟩ := g_draw (d + 1) ((w : Int) + 1) (by omega) (Nat.lt_of_le_of_lt (show ((w : Int) + 1).natAbs ≤ 2 ^ 10 by omega) (Nat.pow_lt_pow_right (by decide) (by decide))) hc (show s < 2 ^ 40 by omega) gs [.lst []]
    obtain ⟨k, rfl⟩ : ∃ k : Nat, v1 = (k : Int) := ⟨v1.toNat, by omega⟩
    obtain ⟨ws, s', gs', o5, o6, o7, k1, k2, k3, f⟩ := ln_for d hc h1 (by omega) (some (.int p)) (some (.int w)) (iv (List.range k)) [] (s + 1) g1 none none none (by simp [WOk]) (by simp; omega) (by simp; omega)
    have f1 : exec (wdAt subT fldT none prT (d + 3) none) lnS1 [some (.loc 0), some (.int n), some (.int p), some (.int w), some (.loc 2), none, none, none] (M cs s gs [.lst []]) = some (.nxt [some (.loc 0), some (.int n), some (.int p), some (.int w), some (.loc 2), o5, o6, o7], M cs s' gs' [.lst (ws.map wv)]) := by
      have hr := rng_iv (show k ≤ 1000 by omega)
      have h1' : (1 : Int) < n := by omega
      have f2 := fr_ev (g := .nm 5) (b := lnB) (show evIt (wdAt subT fldT none prT (d + 3) none) (.rng (.cons (.app false 21 (.cons (.var 0) (.cons (.bin .add (.var 3) (.con (.int 1))) .nil)) []) .nil)) [some (.loc 0), some (.int n), some (.int p), some (.int w), some (.loc 2), none, none, none] (M cs s gs [.lst []]) = some (.ok (iv (List.range k), []), M cs (s + 1) g1 [.lst []]) by simp (implicitDefEqProofs := false) [execs, exec, ev, evs, evIt, asg, asgs, asgK, evCmp, ltD_int, outc, most, evBin, bopI, isCls, isCl, blO, intO, dat_int, eqv_int, gc_int, gc_bl, gc_fr, fx0, fx1, e1, hr])
      have f3 := f2.trans f
      unfold lnB at f3
      unfold lnS1
      generalize (S.fr _ _ _) = X at f3 ⊢
      simp (implicitDefEqProofs := false) [execs, exec, ev, evs, evIt, asg, asgs, asgK, evCmp, ltD_int, outc, most, evBin, bopI, isCls, isCl, blO, intO, dat_int, eqv_int, gc_int, gc_bl, gc_fr, fx0, fx1, h1', f3]
    refine ⟨ws, s', gs', k1, by rw [k2]; simp; omega, by simp at k3; omega, ?_⟩
    unfold lnS
    rw [execs, e0, seqK_nxt, execs, f1, seqK_nxt, execs, e2 ws s' gs' o5 o6 o7 (by rw [k2]; simp; omega)]
    rfl
  · have f1 : exec (wdAt subT fldT none prT (d + 3) none) lnS1 [some (.loc 0), some (.int n), some (.int p), some (.int w), some (.loc 2), none, none, none] (M cs s gs [.lst []]) = some (.nxt [some (.loc 0), some (.int n), some (.int p), some (.int w), some (.loc 2), none, none, none], M cs s gs [.lst []]) := by
      have h1' : ¬ (1 : Int) < n := by omega
      simp (implicitDefEqProofs := false) [execs, exec, ev, evs, evIt, asg, asgs, asgK, evCmp, ltD_int, outc, most, evBin, bopI, isCls, isCl, blO, intO, dat_int, eqv_int, gc_int, gc_bl, gc_fr, fx0, fx1, lnS1, h1']
    refine ⟨[], s, gs, by simp [WOk], by simp, by omega, ?_⟩
    unfold lnS
    rw [execs, e0, seqK_nxt, execs, f1, seqK_nxt, execs]
    have := e2 [] s gs none none none (by simp)
    simp only [List.map_nil] at this ⊢
    rw [this]
    rfl
end MI
end
section
set_option Elab.async false
set_option linter.all false
set_option maxRecDepth 100000
set_option maxHeartbeats 4000000
set_option exponentiation.threshold 20000
namespace MI
open PySem PySem.Spec PyProof.Rows L2
abbrev loT : E := .cmp .ne (.var 2) (.lst .nil)
abbrev loB : SS := (.cons (.ex (.mth .append (.var 3) (.cons (.mth .pop1 (.var 2) (.cons (.app false 21 (.cons (.var 0) (.cons (.blt .len (.cons (.var 2) .nil)) .nil)) []) .nil)) .nil))) .nil)
def lo0 : S := (.asg (.tp (.cons (.nm 2) (.cons (.nm 3) .nil))) (.tup (.cons (.chg (.lrg false (.cons (.var 1) .nil))) (.cons (.chg (.lst .nil)) .nil))))
def lo1 : S := (.whl loT loB)
def lo2 : S := (.ret (.var 3))
def lo : SS := (.cons lo0 (.cons lo1 (.cons lo2 .nil)))
theorem iv_ints (l : List Nat) : iv l = (l.map fun (k : Nat) => (k : Int)).map .int := by simp [iv]
/-- a list of numbers at a place, as data -/
theorem dat_at {μ : Mem} {k : Nat} {l : List Nat} (h : μ[k]? = some (.lst (iv l))) : dat μ (.loc k) = some (.list ((l.map fun (k : Nat) => (k : Int)).map .int)) := by
  have e : look 0 μ 6 k = some (.lv (iv l)) := look_lst (by omega) h (by rw [iv_ints]; exact rds_ints _ _)
  have h1 := canLay_ints (l.map fun (k : Nat) => (k : Int))
  have h2 := depth_ints (l.map fun (k : Nat) => (k : Int))
  have h3 : PyData.depth (.list ((l.map fun (k : Nat) => (k : Int)).map .int)) ≤ 64 := by simp only [PyData.depth]; omega
  rw [iv_ints] at e
  simp only [dat, frz, MV.rd, e, Option.map_some, Option.bind_some, MV.toD, toDs_ints, SeqAt.shaped, PyData.canLay0, h1, h3, decide_true, Bool.and_self, if_true]
theorem eraseIdx_mp {α β : Type} (f : α → β) : ∀ (l : List α) (k : Nat), (l.map f).eraseIdx k = (l.eraseIdx k).map f
  | [], _ => rfl
  | _ :: _, 0 => rfl
  | x :: l, k + 1 => by simp [eraseIdx_mp f l k]
theorem erase_perm {α : Type} : ∀ {l : List α} {k : Nat} (hk : k < l.length), (l[k] :: l.eraseIdx k).Perm l
  | x :: l, 0, hk => by simp
  | x :: l, k + 1, hk => by
    simp only [List.length_cons] at hk
    have h := erase_perm (l := l) (k := k) (by omega)
    simp only [List.getElem_cons_succ, List.eraseIdx_cons_succ]
    exact (List.Perm.swap _ _ _).trans (h.cons x)
theorem lo_t (W : Wd) (o1 o3 : Option MV) (o0 : Option MV) (μ : Mem) (l : List Nat) (h : μ[3]? = some (.lst (iv l))) : ev W loT [o0, o1, some (.loc 3), o3] μ = some (.ok (.bl (!decide (l = []))), μ) := by
  have h1 := dat_at h
  have h2 := eqv_nil (l.map fun (k : Nat) => (k : Int))
  have h3 : (l.map fun (k : Nat) => (k : Int)) = [] ↔ l = [] := by simp
  simp only [h3] at h2
  generalize (l.map fun (k : Nat) => (k : Int)).map PyData.int = z at h1 h2
  simp (implicitDefEqProofs := false) [execs, exec, ev, evs, evIt, asg, asgs, asgK, evCmp, ltD_int, outc, most, evBin, bopI, isCls, isCl, blO, intO, dat_int, eqv_int, gc_int, gc_bl, gc_fr, fx0, fx1, h1, h2, dat_nil]
theorem M_app4 (cs : List Int) (s : Nat) (gs : List Int) (A B : MO) (xs : List MV) (v : MV) (h : xs.length < 1000) : evMe (M cs s gs [A, B, .lst xs]) .append (.loc 4) [v] = some (.non, M cs s gs [A, B, .lst (xs ++ [v])]) := by
  have : xs.length < most := by simp [most]; omega
  simp [M, evMe, this]
theorem M_pop3 (cs : List Int) (s : Nat) (gs : List Int) (A C : MO) (l : List Nat) {k : Nat} (hk : k < l.length) (h : l.length ≤ 1000) : evMe (M cs s gs [A, .lst (iv l), C]) .pop1 (.loc 3) [.int k] = some (.int (l[k] : Nat), M cs s gs [A, .lst (iv (l.eraseIdx k)), C]) := by
  have h1 : (iv l).length ≤ most := by simp [most]; omega
  have h2 : L2.ixN (iv l).length (k : Int) = some k := by
    have : (k : Int) < l.length := by omega
    simp [L2.ixN, this]
  have h3 : (iv l)[k]? = some (.int (l[k] : Nat)) := by simp [hk]
  have h4 : (iv l).eraseIdx k = iv (l.eraseIdx k) := by exact eraseIdx_mp _ _ _
  simp only [M, evMe, List.getElem?_cons_succ, List.getElem?_cons_zero, h2, Option.bind_some, h1, if_true, h3, Option.map_some, List.set_cons_succ, List.set_cons_zero, h4]
theorem lo_step (d : Nat) {cs : List Int} (hc : cs.length = 64) {s : Nat} (hs : s < 2 ^ 39) (gs : List Int) (A : MO) (l f : List Nat) (hl : l ≠ []) (hl2 : l.length ≤ 100) (hf : f.length ≤ 100) (o1 : Option MV) :
    ∃ (k : Nat) (hk : k < l.length) (gs' : List Int), execs (wdAt subT fldT none prT (d + 2) none) loB [some (.loc 0), o1, some (.loc 3), some (.loc 4)] (M cs s gs [A, .lst (iv l), .lst (iv f)]) = some (.nxt [some (.loc 0), o1, some (.loc 3), some (.loc 4)], M cs (s + 1) gs' [A, .lst (iv (l.eraseIdx k)), .lst (iv (f ++ [l[k]]))]) := by
  have h0 : 0 < l.length := List.length_pos_iff.mpr hl
  obtain ⟨v, g1, p1, q1, e1⟩ := g_draw d (l.length : Int) (by omega) (Nat.lt_of_le_of_lt (show ((l.length : Int)).natAbs ≤ 2 ^ 10 by omega) (Nat.pow_lt_pow_right (by decide) (by decide))) hc (show s < 2 ^ 40 by omega) gs [A, .lst (iv l), .lst (iv f)]
  obtain ⟨k, rfl⟩ : ∃ k : Nat, v = (k : Int) := ⟨v.toNat, by omega⟩
  have hk : k < l.length := by omega
  have e2 := M_pop3 cs (s + 1) g1 A (.lst (iv f)) l hk (by omega)
  have e3 := M_app4 cs (s + 1) g1 A (.lst (iv (l.eraseIdx k))) (iv f) (.int (l[k] : Nat)) (by simp; omega)
  have e4 : evBi (M cs s gs [A, .lst (iv l), .lst (iv f)]) .len [.loc 3] = some (.int l.length) := by simp [M, evBi, dcOf, sqOf]
  have e5 : ∀ s gs B xs, lsOf (M cs s gs [A, B, .lst xs]) (.loc 4) = some xs := fun s gs B xs => by simp [M, lsOf]
  have e6 : ∀ s gs B xs, lsOf (M cs s gs [A, .lst xs, B]) (.loc 3) = some xs := fun s gs B xs => by simp [M, lsOf]
  refine ⟨k, hk, g1, ?_⟩
  have e7 : iv (f ++ [l[k]]) = iv f ++ [.int (l[k] : Nat)] := by simp [iv]
  rw [e7]
  generalize iv (l.eraseIdx k) = le at *
  generalize l[k] = lk at *
  generalize iv l = il at *
  generalize iv f = jf at *
  simp (implicitDefEqProofs := false) [execs, exec, ev, evs, evIt, asg, asgs, asgK, evCmp, ltD_int, outc, most, evBin, bopI, isCls, isCl, blO, intO, dat_int, eqv_int, gc_int, gc_bl, gc_fr, fx0, fx1, e1, e2, e3, e4, e5, e6]
theorem perm_step {l f : List Nat} {k : Nat} (hk : k < l.length) : ((f ++ [l[k]]) ++ l.eraseIdx k).Perm (f ++ l) := by
  rw [List.append_assoc]
  refine List.Perm.append_left _ ?_
  exact erase_perm hk
theorem lo_wh (d : Nat) {cs : List Int} (hc : cs.length = 64) (A : MO) (o1 : Option MV) : ∀ (n : Nat) (l f : List Nat) (s : Nat) (gs : List Int), l.length = n → s + n < 2 ^ 39 → l.length + f.length ≤ 100 →
    ∃ (f' : List Nat) (gs' : List Int), f'.Perm (f ++ l) ∧ whN (fun ρ μ => ev (wdAt subT fldT none prT (d + 2) none) loT ρ μ) (fun ρ μ => execs (wdAt subT fldT none prT (d + 2) none) loB ρ μ) (n + 1) [some (.loc 0), o1, some (.loc 3), some (.loc 4)] (M cs s gs [A, .lst (iv l), .lst (iv f)]) = some (.nxt [some (.loc 0), o1, some (.loc 3), some (.loc 4)], M cs (s + n) gs' [A, .lst [], .lst (iv f')])
  | 0, l, f, s, gs, hl, hs, hb => by
    have : l = [] := List.length_eq_zero_iff.mp hl
    subst this
    refine ⟨f, gs, by simp, ?_⟩
    rw [whN_f (μ1 := M cs s gs [A, .lst (iv []), .lst (iv f)]) (by rw [lo_t _ _ _ _ _ [] rfl] <;> rfl)]
    rfl
  | n + 1, l, f, s, gs, hl, hs, hb => by
    have hne : l ≠ [] := by rintro rfl; simp at hl
    obtain ⟨k, hk, g1, e⟩ := lo_step d hc (show s < 2 ^ 39 by omega) gs A l f hne (by omega) (by omega) o1
    obtain ⟨f', g2, h1, e2⟩ := lo_wh d hc A o1 n (l.eraseIdx k) (f ++ [l[k]]) (s + 1) g1 (by rw [List.length_eraseIdx_of_lt hk]; omega) (by omega) (by rw [List.length_eraseIdx_of_lt hk]; simp; omega)
    refine ⟨f', g2, h1.trans (perm_step hk), ?_⟩
    rw [whN_t (μ1 := M cs s gs [A, .lst (iv l), .lst (iv f)]) (by rw [lo_t _ _ _ _ _ l rfl]; simp [hne]) e, e2]
    rw [show s + 1 + n = s + (n + 1) by omega]
theorem r_order (d : Nat) {cs : List Int} (hc : cs.length = 64) {s : Nat} (hs : s < 2 ^ 38) (gs : List Int) (ws : List Wr) {n : Nat} (hn : n ≤ 60) :
    ∃ (f : List Nat) (gs' : List Int), f.Perm (List.range n) ∧ gc (List.length (M cs s gs [.lst (ws.map wv)])) (M cs s gs [.lst (ws.map wv)]) (den subT fldT none prT (d + 3) none 25 [.loc 0, .int n] (M cs s gs [.lst (ws.map wv)])) = some (.ok (.lv (iv f)), M cs (s + n) gs' [.lst (ws.map wv)]) := by
  rw [den_at (F := ⟨2, 4, b__law_order⟩) rfl rfl (by decide)]
  obtain ⟨f, g', h, e⟩ := lo_wh d hc (.lst (ws.map wv)) (some (.int n)) n (List.range n) [] s gs (by simp) (by omega) (by simp; omega)
  rw [List.nil_append] at h
  refine ⟨f, g', h, ?_⟩
  have e0 : exec (wdAt subT fldT none prT (d + 2) none) lo0 [some (.loc 0), some (.int n), none, none] (M cs s gs [.lst (ws.map wv)]) = some (.nxt [some (.loc 0), some (.int n), some (.loc 3), some (.loc 4)], M cs s gs [.lst (ws.map wv), .lst (iv (List.range n)), .lst (iv [])]) := by
    have hr := rng_iv (show n ≤ 1000 by omega)
    have hn : (iv (List.range n)).length ≤ 16000000 := by simp; omega
    generalize iv (List.range n) = r at *
    simp (implicitDefEqProofs := false) [execs, exec, ev, evs, evIt, asg, asgs, asgK, evCmp, ltD_int, outc, most, evBin, bopI, isCls, isCl, blO, intO, dat_int, eqv_int, gc_int, gc_bl, gc_fr, fx0, fx1, lo0, hr, hn, M]
  have e1 : exec (wdAt subT fldT none prT (d + 2) none) lo1 [some (.loc 0), some (.int n), some (.loc 3), some (.loc 4)] (M cs s gs [.lst (ws.map wv), .lst (iv (List.range n)), .lst (iv [])]) = some (.nxt [some (.loc 0), some (.int n), some (.loc 3), some (.loc 4)], M cs (s + n) g' [.lst (ws.map wv), .lst [], .lst (iv f)]) := whD_of e
  have e2 : ∀ μ, exec (wdAt subT fldT none prT (d + 2) none) lo2 [some (.loc 0), some (.int n), some (.loc 3), some (.loc 4)] μ = some (.ret (.loc 4), μ) := fun μ => by simp (implicitDefEqProofs := false) [execs, exec, ev, evs, evIt, asg, asgs, asgK, evCmp, ltD_int, outc, most, evBin, bopI, isCls, isCl, blO, intO, dat_int, eqv_int, gc_int, gc_bl, gc_fr, fx0, fx1, lo2]
  show gc _ _ (outc (execs (wdAt subT fldT none prT (d + 2) none) lo [some (.loc 0), some (.int n), none, none] (M cs s gs [.lst (ws.map wv)]))) = _
  unfold lo
  rw [execs, e0, seqK_nxt, execs, e1, seqK_nxt, execs, e2, seqK_ret]
  have hg : gcOk (M cs s gs [.lst (ws.map wv)]).length (M cs s gs [.lst (ws.map wv)]) (M cs (s + n) g' [.lst (ws.map wv)]) = true := by
    simp [M, gcOk, gcOk_self, MO.lt, MV.lts, MV.lt, lts_ints]
  have t : (M cs (s + n) g' [.lst (ws.map wv), .lst [], .lst (iv f)]).take (M cs s gs [.lst (ws.map wv)]).length = M cs (s + n) g' [.lst (ws.map wv)] := rfl
  have r : frz (M cs s gs [.lst (ws.map wv)]).length (M cs (s + n) g' [.lst (ws.map wv), .lst [], .lst (iv f)]) (.loc 4) = some (.lv (iv f)) := by
    unfold frz
    rw [MV.rd]
    exact look_lst (by simp [M]) rfl (by rw [iv_ints]; exact rds_ints _ _)
  simp only [outc, gc, t, hg, if_true, r, Option.map_some]
end MI
end
section
set_option Elab.async false
set_option linter.all false
set_option maxRecDepth 100000
set_option maxHeartbeats 4000000
set_option exponentiation.threshold 20000
namespace MI
open PySem PySem.Spec PyProof.Rows L2
abbrev lhA : SS := (.cons (.ex (.mth .append (.var 4) (.cons (.tup (.cons (.app false 21 (.cons (.var 0) (.cons (.var 5) .nil)) []) (.cons (.var 5) (.cons (.app false 29 (.cons (.var 0) .nil) []) .nil)))) .nil))) .nil)
abbrev lhB : SS := (.cons (.asg (.tp (.cons (.nm 9) (.cons (.nm 8) .nil))) (.tup (.cons (.app false 21 (.cons (.var 0) (.cons (.var 1) .nil)) []) (.cons (.app false 21 (.cons (.var 0) (.cons (.bin .sub (.var 1) (.con (.int 1))) .nil)) []) .nil)))) (.cons (.asg (.nm 8) (.ife (.cmp .ge (.var 8) (.var 9)) (.bin .add (.var 8) (.con (.int 1))) (.var 8))) (.cons (.ex (.mth .append (.var 4) (.cons (.tup (.cons (.blt .min2 (.cons (.var 9) (.cons (.var 8) .nil))) (.cons (.blt .max2 (.cons (.var 9) (.cons (.var 8) .nil))) (.cons (.app false 29 (.cons (.var 0) .nil) []) .nil)))) .nil))) .nil)))
def lh0 : S := (.asg (.nm 4) (.chg (.lst .nil)))
def lh1 : S := (.fr (.nm 5) (.rng (.cons (.var 2) (.cons (.var 1) .nil))) lhA)
def lh2 : S := (.ite (.cmp .gt (.var 1) (.con (.int 1))) (.cons (.fr (.nm 7) (.rng (.cons (.app false 21 (.cons (.var 0) (.cons (.blt .max2 (.cons (.con (.int 1)) (.cons (.bin .add (.bin .sub (.var 3) (.blt .len (.cons (.var 4) .nil))) (.con (.int 1))) .nil))) .nil)) []) .nil)) lhB) .nil) .nil)
def lh3 : S := (.asg (.nm 6) (.bin .add (.lrg false (.cons (.var 2) .nil)) (.lcm [10] (.seq (.app false 25 (.cons (.var 0) (.cons (.bin .sub (.var 1) (.var 2)) .nil)) [])) (.nm 10) (.con (.bl true)) (.bin .add (.var 2) (.var 10)))))
def lh4 : S := (.asg (.nm 4) (.chg (.lcm [9, 8, 11] (.seq (.var 4)) (.tp (.cons (.nm 9) (.cons (.nm 8) (.cons (.nm 11) .nil)))) (.con (.bl true)) (.tup (.cons (.blt .min2 (.cons (.idx (.var 6) (.var 9)) (.cons (.idx (.var 6) (.var 8)) .nil))) (.cons (.blt .max2 (.cons (.idx (.var 6) (.var 9)) (.cons (.idx (.var 6) (.var 8)) .nil))) (.cons (.var 11) .nil)))))))
def lh5 : S := (.ret (.tup (.cons (.var 1) (.cons (.var 2) (.cons (.blt .tup1 (.cons (.blt .srt1 (.cons (.var 4) .nil)) .nil)) .nil)))))
def lh : SS := (.cons lh0 (.cons lh1 (.cons lh2 (.cons lh3 (.cons lh4 (.cons lh5 .nil))))))
abbrev lhE (n p w : Nat) (o5 o6 o7 o8 o9 o10 o11 : Option MV) : Env := [some (.loc 0), some (.int n), some (.int p), some (.int w), some (.loc 2), o5, o6, o7, o8, o9, o10, o11]
theorem lha_step (d : Nat) {cs : List Int} (hc : cs.length = 64) {s : Nat} (hs : s < 2 ^ 38) (gs : List Int) {n p w k : Nat} (hk : 0 < k) (hk2 : k < n) (hn2 : n ≤ 1000) {ws : List Wr} (hw : WOk n ws) (hl : ws.length < 1000) (o5 o6 o7 o8 o9 o10 o11 : Option MV) :
    ∃ (v : Wr) (s' : Nat) (gs' : List Int), WOk n (ws ++ [v]) ∧ s' ≤ s + 5 ∧ stp (wdAt subT fldT none prT (d + 3) none) (.nm 5) lhA (.int k) (lhE n p w o5 o6 o7 o8 o9 o10 o11) (M cs s gs [.lst (ws.map wv)]) = some (.nxt (lhE n p w (some (.int k)) o6 o7 o8 o9 o10 o11), M cs s' gs' [.lst ((ws ++ [v]).map wv)]) := by
  have hp : (2 : Nat) ^ 9000 > 1000 := Nat.lt_of_lt_of_le (show 1000 < 2 ^ 10 by decide) (Nat.pow_le_pow_right (by decide) (by decide))
  obtain ⟨v1, g1, p1, q1, e1⟩ := g_draw (d + 1) (k : Int) (by omega) (by omega) hc (show s < 2 ^ 40 by omega) gs [.lst (ws.map wv)]
  obtain ⟨q, s3, g3, pq, bq, h3, e3⟩ := r_strength d hc (show s + 1 < 2 ^ 39 by omega) g1 [.lst (ws.map wv)]
  have e3' := gc_M cs (s + 1) g1 [.lst (ws.map wv)] (fr q) (noL_fr q) s3 g3
  obtain ⟨a, rfl⟩ : ∃ k : Nat, v1 = (k : Int) := ⟨v1.toNat, by omega⟩
  have ha := M_app cs s3 g3 (ws.map wv) (wv ⟨a, k, q⟩) (by simpa using hl)
  have hl2 := M_ls cs s gs (ws.map wv)
  refine ⟨⟨a, k, q⟩, s3, g3, hw.snoc ⟨by show a < k; omega, hk2, pq, bq⟩, by omega, ?_⟩
  simp only [wv, wr] at ha
  simp only [stp, List.map_append, List.map_cons, List.map_nil, wv, wr]
  simp (implicitDefEqProofs := false) [execs, exec, ev, evs, evIt, asg, asgs, asgK, evCmp, ltD_int, outc, most, evBin, bopI, isCls, isCl, blO, intO, dat_int, eqv_int, gc_int, gc_bl, gc_fr, fx0, fx1, e1, e3, e3', hl2, ha]
theorem lha_for (d : Nat) {cs : List Int} (hc : cs.length = 64) {n p w : Nat} (hn2 : n ≤ 1000) (o6 o7 o8 o9 o10 o11 : Option MV) : ∀ (ks : List Nat) (ws : List Wr) (s : Nat) (gs : List Int) (o5 : Option MV), (∀ k ∈ ks, 0 < k ∧ k < n) → WOk n ws → ws.length + ks.length ≤ 1000 → s + 5 * ks.length < 2 ^ 38 →
    ∃ (ws' : List Wr) (s' : Nat) (gs' : List Int) (o5' : Option MV), WOk n ws' ∧ ws'.length = ws.length + ks.length ∧ s' ≤ s + 5 * ks.length ∧ forL [] (stp (wdAt subT fldT none prT (d + 3) none) (.nm 5) lhA) (iv ks) (lhE n p w o5 o6 o7 o8 o9 o10 o11) (M cs s gs [.lst (ws.map wv)]) = some (.nxt (lhE n p w o5' o6 o7 o8 o9 o10 o11), M cs s' gs' [.lst (ws'.map wv)])
  | [], ws, s, gs, o5, _, hw, _, _ => ⟨ws, s, gs, o5, hw, by simp, by simp, forL_nil rfl⟩
  | x :: xs, ws, s, gs, o5, hx, hw, hl, hs => by
    simp only [List.length_cons] at hl hs
    have hx1 := hx x List.mem_cons_self
    obtain ⟨w1, s1, g1, h1, h2, e⟩ := lha_step d (p := p) (w := w) hc (show s < 2 ^ 38 by omega) gs hx1.1 hx1.2 hn2 hw (by omega) o5 o6 o7 o8 o9 o10 o11
    obtain ⟨ws', s2, g2, p5, k1, k2, k3, e2⟩ := lha_for d hc (p := p) (w := w) hn2 o6 o7 o8 o9 o10 o11 xs (ws ++ [w1]) s1 g1 (some (.int x)) (fun k hk => hx k (List.mem_cons_of_mem _ hk)) h1 (by simp; omega) (by omega)
    refine ⟨ws', s2, g2, p5, k1, by rw [k2]; simp; omega, by simp only [List.length_cons]; omega, (forL_nxt rfl e).trans e2⟩
theorem lhb_step (d : Nat) {cs : List Int} (hc : cs.length = 64) {s : Nat} (hs : s < 2 ^ 38) (gs : List Int) {n p w : Nat} (hn : 1 < n) (hn2 : n ≤ 1000) {ws : List Wr} (hw : WOk n ws) (hl : ws.length < 1000) (o5 o6 o7 o8 o9 o10 o11 : Option MV) (i : MV) :
    ∃ (v : Wr) (s' : Nat) (gs' : List Int) (o8' o9' : Option MV), WOk n (ws ++ [v]) ∧ s' ≤ s + 5 ∧ stp (wdAt subT fldT none prT (d + 3) none) (.nm 7) lhB i (lhE n p w o5 o6 o7 o8 o9 o10 o11) (M cs s gs [.lst (ws.map wv)]) = some (.nxt (lhE n p w o5 o6 (some i) o8' o9' o10 o11), M cs s' gs' [.lst ((ws ++ [v]).map wv)]) := by
  have hp : (2 : Nat) ^ 9000 > 1000 := Nat.lt_of_lt_of_le (show 1000 < 2 ^ 10 by decide) (Nat.pow_le_pow_right (by decide) (by decide))
  obtain ⟨v1, g1, p1, q1, e1⟩ := g_draw (d + 1) (n : Int) (by omega) (by omega) hc (show s < 2 ^ 40 by omega) gs [.lst (ws.map wv)]
  obtain ⟨v2, g2, p2, q2, e2⟩ := g_draw (d + 1) ((n : Int) - 1) (by omega) (by omega) hc (show s + 1 < 2 ^ 40 by omega) g1 [.lst (ws.map wv)]
  obtain ⟨q, s3, g3, pq, bq, h3, e3⟩ := r_strength d hc (show s + 1 + 1 < 2 ^ 39 by omega) g2 [.lst (ws.map wv)]
  have e3' := gc_M cs (s + 1 + 1) g2 [.lst (ws.map wv)] (fr q) (noL_fr q) s3 g3
  obtain ⟨one, rfl⟩ : ∃ k : Nat, v1 = (k : Int) := ⟨v1.toNat, by omega⟩
  obtain ⟨two0, rfl⟩ : ∃ k : Nat, v2 = (k : Int) := ⟨v2.toNat, by omega⟩
  obtain ⟨t1, t2⟩ := two_ends (n := n) (one := one) (two0 := two0) (by omega) q2
  have hif : (if (two0 : Int) < (one : Int) then (two0 : Int) else (two0 : Int) + 1) = ((if one ≤ two0 then two0 + 1 else two0 : Nat) : Int) := by split <;> split <;> omega
  generalize htt : (if one ≤ two0 then two0 + 1 else two0) = two at t1 t2 hif
  have m1 := fun μ => min_two μ one two
  have m2 := fun μ => max_two μ one two
  have ha := M_app cs s3 g3 (ws.map wv) (wv ⟨min one two, max one two, q⟩) (by simpa using hl)
  refine ⟨⟨min one two, max one two, q⟩, s3, g3, some (.int two), some (.int one), hw.snoc ⟨by show min one two < max one two; omega, by show max one two < n; omega, pq, bq⟩, by omega, ?_⟩
  have hl2 := M_ls cs (s + 1 + 1) g2 (ws.map wv)
  simp only [wv, wr] at ha
  by_cases hlt : (two0 : Int) < (one : Int)
  · rw [if_pos hlt] at hif
    have he : two0 = two := by omega
    subst he
    generalize min one two0 = mi at *
    generalize max one two0 = mx at *
    simp only [stp, List.map_append, List.map_cons, List.map_nil, wv, wr]
    simp (implicitDefEqProofs := false) [execs, exec, ev, evs, evIt, asg, asgs, asgK, evCmp, ltD_int, outc, most, evBin, bopI, isCls, isCl, blO, intO, dat_int, eqv_int, gc_int, gc_bl, gc_fr, fx0, fx1, e1, e2, e3, e3', hlt, m1, m2, hl2, ha]
  · rw [if_neg hlt] at hif
    generalize min one two = mi at *
    generalize max one two = mx at *
    simp only [stp, List.map_append, List.map_cons, List.map_nil, wv, wr]
    simp (implicitDefEqProofs := false) [execs, exec, ev, evs, evIt, asg, asgs, asgK, evCmp, ltD_int, outc, most, evBin, bopI, isCls, isCl, blO, intO, dat_int, eqv_int, gc_int, gc_bl, gc_fr, fx0, fx1, e1, e2, e3, e3', hlt, hif, m1, m2, hl2, ha]
theorem lhb_for (d : Nat) {cs : List Int} (hc : cs.length = 64) {n p w : Nat} (hn : 1 < n) (hn2 : n ≤ 1000) (o5 o6 o10 o11 : Option MV) : ∀ (xs : List MV) (ws : List Wr) (s : Nat) (gs : List Int) (o7 o8 o9 : Option MV), WOk n ws → ws.length + xs.length ≤ 1000 → s + 5 * xs.length < 2 ^ 38 →
    ∃ (ws' : List Wr) (s' : Nat) (gs' : List Int) (o7' o8' o9' : Option MV), WOk n ws' ∧ ws'.length = ws.length + xs.length ∧ s' ≤ s + 5 * xs.length ∧ forL [] (stp (wdAt subT fldT none prT (d + 3) none) (.nm 7) lhB) xs (lhE n p w o5 o6 o7 o8 o9 o10 o11) (M cs s gs [.lst (ws.map wv)]) = some (.nxt (lhE n p w o5 o6 o7' o8' o9' o10 o11), M cs s' gs' [.lst (ws'.map wv)])
  | [], ws, s, gs, o7, o8, o9, hw, _, _ => ⟨ws, s, gs, o7, o8, o9, hw, by simp, by simp, forL_nil rfl⟩
  | x :: xs, ws, s, gs, o7, o8, o9, hw, hl, hs => by
    simp only [List.length_cons] at hl hs
    obtain ⟨w1, s1, g1, o8', o9', h1, h2, e⟩ := lhb_step d (p := p) (w := w) hc (show s < 2 ^ 38 by omega) gs hn hn2 hw (by omega) o5 o6 o7 o8 o9 o10 o11 x
    obtain ⟨ws', s2, g2, p7, p8, p9, k1, k2, k3, e2⟩ := lhb_for d hc (p := p) (w := w) hn hn2 o5 o6 o10 o11 xs (ws ++ [w1]) s1 g1 (some x) o8' o9' h1 (by simp; omega) (by omega)
    refine ⟨ws', s2, g2, p7, p8, p9, k1, by rw [k2]; simp; omega, by simp only [List.length_cons]; omega, (forL_nxt rfl e).trans e2⟩
/-- a wire renumbered -/
def ren (ord : List Nat) (w : Wr) : Wr := ⟨min (ord.getD w.a 0) (ord.getD w.b 0), max (ord.getD w.a 0) (ord.getD w.b 0), w.q⟩
theorem ren_ok {n : Nat} {ord : List Nat} (hl : ord.length = n) (hn : ord.Nodup) (hb : ∀ k ∈ ord, k < n) {ws : List Wr} (h : WOk n ws) : WOk n (ws.map (ren ord)) := by
  intro w hw
  obtain ⟨u, hu, rfl⟩ := List.mem_map.mp hw
  obtain ⟨h1, h2, h3, h4⟩ := h u hu
  have ha : u.a < ord.length := by omega
  have hb' : u.b < ord.length := by omega
  have e1 : ord.getD u.a 0 = ord[u.a] := by simp [List.getD, ha]
  have e2 : ord.getD u.b 0 = ord[u.b] := by simp [List.getD, hb']
  have hne : ord[u.a] ≠ ord[u.b] := fun e => by
    have := (List.getElem_inj hn).mp e
    omega
  have b1 := hb _ (List.getElem_mem ha)
  have b2 := hb _ (List.getElem_mem hb')
  refine ⟨?_, ?_, h3, h4⟩
  · show min (ord.getD u.a 0) (ord.getD u.b 0) < max (ord.getD u.a 0) (ord.getD u.b 0)
    rw [e1, e2]; omega
  · show max (ord.getD u.a 0) (ord.getD u.b 0) < n
    rw [e1, e2]; omega
theorem ord_ok {n p : Nat} (hp : p ≤ n) {f : List Nat} (hf : f.Perm (List.range (n - p))) : (List.range p ++ f.map (p + ·)).length = n ∧ (List.range p ++ f.map (p + ·)).Nodup ∧ ∀ k ∈ (List.range p ++ f.map (p + ·)), k < n := by
  refine ⟨?_, ?_, ?_⟩
  · rw [List.length_append, List.length_map, hf.length_eq]; simp; omega
  · rw [List.nodup_append]
    refine ⟨List.nodup_range, ?_, ?_⟩
    · have : f.Nodup := hf.nodup_iff.mpr List.nodup_range
      rw [List.nodup_iff_pairwise_ne] at this ⊢
      exact List.pairwise_map.mpr (this.imp fun h e => h (by omega))
    · intro a ha b hb e
      have := List.mem_range.mp ha
      obtain ⟨c, _, rfl⟩ := List.mem_map.mp hb
      omega
  · intro k hk
    rcases List.mem_append.mp hk with h | h
    · have := List.mem_range.mp h; omega
    · obtain ⟨c, hc, rfl⟩ := List.mem_map.mp h
      have := List.mem_range.mp (hf.mem_iff.mp hc)
      omega
theorem gc_Mg (cs : List Int) (s : Nat) (gs : List Int) (rest : Mem) (v : MV) (hv : v.noL = true) (s' : Nat) (gs' : List Int) : gc (List.length (M cs s gs [])) (M cs s gs []) (some (.ok v, M cs s' gs' rest)) = some (.ok v, M cs s' gs' []) := by
  have h : gcOk (M cs s gs []).length (M cs s gs []) (M cs s' gs' []) = true := by
    simp [M, gcOk, gcOk_self, MO.lt, MV.lts, MV.lt, lts_ints]
  have t : (M cs s' gs' rest).take (M cs s gs []).length = M cs s' gs' [] := rfl
  simp [gc, t, h, frz, rd_noL hv]
theorem srt_at {μ : Mem} {k : Nat} {ws : List Wr} (h : ws.length ≤ 1000) (e : μ[k]? = some (.lst (ws.map wv))) : evBi μ .srt1 [.loc k] = some (.lv ((sortW ws).map wv)) := by
  obtain ⟨h1, h2⟩ := srt_wvs ws h
  have hd : dcOf μ (.loc k) = none := by simp only [dcOf, e]
  have hs : sqOf μ (.loc k) = some (ws.map wv) := by simp only [sqOf, e]
  simp only [evBi, hd, hs, Option.bind_some, h1, if_true, h2]
end MI
end
section
set_option Elab.async false
set_option linter.all false
set_option maxRecDepth 100000
set_option maxHeartbeats 4000000
set_option exponentiation.threshold 20000
namespace MI
open PySem PySem.Spec PyProof.Rows L2
theorem rng_iv2 {p n : Nat} (hp : p ≤ 1000) (hn : n ≤ 1000) : rngOf [.int p, .int n] = some (iv ((List.range (n - p)).map (p + ·))) := by
  have h1 : small (n : Int) = true := by unfold small; simp only [Bool.and_eq_true, decide_eq_true_eq]; omega
  have h2 : small (p : Int) = true := by unfold small; simp only [Bool.and_eq_true, decide_eq_true_eq]; omega
  have h3 : ((n : Int) - (p : Int)).toNat = n - p := by omega
  simp only [rngOf, h1, h2, and_self, if_true, h3, List.map_map]
  rfl
theorem add_lv (μ : Mem) (xs ys : List MV) (h : xs.length + ys.length ≤ 2000) : evBin μ .add (.lv xs) (.lv ys) = some (.lv (xs ++ ys)) := by
  have : xs.length + ys.length ≤ most := by simp [most]; omega
  simp [evBin, lsOf, this]
theorem lh3_ok (d : Nat) {cs : List Int} (hc : cs.length = 64) {s : Nat} (hs : s < 2 ^ 38) (gs : List Int) (ws : List Wr) {n p w : Nat} (hp : p ≤ n) (hn : n ≤ 60) (o5 o6 o7 o8 o9 o11 : Option MV) :
    ∃ (ord : List Nat) (gs' : List Int), ord.length = n ∧ ord.Nodup ∧ (∀ k ∈ ord, k < n) ∧ exec (wdAt subT fldT none prT (d + 3) none) lh3 (lhE n p w o5 o6 o7 o8 o9 none o11) (M cs s gs [.lst (ws.map wv)]) = some (.nxt (lhE n p w o5 (some (.lv (iv ord))) o7 o8 o9 none o11), M cs (s + (n - p)) gs' [.lst (ws.map wv)]) := by
  obtain ⟨f, g1, h1, e1⟩ := r_order d hc hs gs ws (show n - p ≤ 60 by omega)
  obtain ⟨k1, k2, k3⟩ := ord_ok hp h1
  refine ⟨List.range p ++ f.map (p + ·), g1, k1, k2, k3, ?_⟩
  have hfl : f.length = n - p := by rw [h1.length_eq]; simp
  have e2 : ev (wdAt subT fldT none prT (d + 3) none) (.lcm [10] (.seq (.app false 25 (.cons (.var 0) (.cons (.bin .sub (.var 1) (.var 2)) .nil)) [])) (.nm 10) (.con (.bl true)) (.bin .add (.var 2) (.var 10))) (lhE n p w o5 o6 o7 o8 o9 none o11) (M cs s gs [.lst (ws.map wv)]) = some (.ok (.lv (iv (f.map (p + ·)))), M cs (s + (n - p)) g1 [.lst (ws.map wv)]) := by
    have hnp : (n : Int) - (p : Int) = ((n - p : Nat) : Int) := by omega
    have q := lcm_iv (gd := []) (step := lcS (wdAt subT fldT none prT (d + 3) none) [10] (.nm 10) (.con (.bl true)) (.bin .add (.var 2) (.var 10)) (lhE n p w o5 o6 o7 o8 o9 none o11)) (μ := M cs (s + (n - p)) g1 [.lst (ws.map wv)]) rfl f (fun k => .int ((p + k : Nat) : Int)) (by omega) fun k hk => by
      simp (implicitDefEqProofs := false) [execs, exec, ev, evs, evIt, asg, asgs, asgK, evCmp, ltD_int, outc, most, evBin, bopI, isCls, isCl, blO, intO, dat_int, eqv_int, gc_int, gc_bl, gc_fr, fx0, fx1, lcS, wipe]
    rw [lcm_ev (xs := iv f) (gd := []) (μ1 := M cs (s + (n - p)) g1 [.lst (ws.map wv)]) ?_ q]
    · simp [iv, List.map_map, Function.comp_def]
    · simp (implicitDefEqProofs := false) [execs, exec, ev, evs, evIt, asg, asgs, asgK, evCmp, ltD_int, outc, most, evBin, bopI, isCls, isCl, blO, intO, dat_int, eqv_int, gc_int, gc_bl, gc_fr, fx0, fx1, hnp, e1, sqOf, gdOf]
  have hr := rng_iv (show p ≤ 1000 by omega)
  have hl1 : (iv (List.range p)).length ≤ 16000000 := by simp; omega
  have hl2 : (iv (List.range p)).length + (iv (f.map (p + ·))).length ≤ 16000000 := by simp; omega
  have ea : iv (List.range p ++ f.map (p + ·)) = iv (List.range p) ++ iv (f.map (p + ·)) := by simp only [iv, List.map_append]
  rw [ea]
  unfold lh3
  generalize (E.lcm [10] (.seq (.app false 25 (.cons (.var 0) (.cons (.bin .sub (.var 1) (.var 2)) .nil)) [])) (.nm 10) (.con (.bl true)) (.bin .add (.var 2) (.var 10))) = X at e2 ⊢
  generalize iv (f.map (p + ·)) = B at *
  generalize iv (List.range p) = A at *
  simp (implicitDefEqProofs := false) [execs, exec, ev, evs, evIt, asg, asgs, asgK, evCmp, ltD_int, outc, most, evBin, bopI, isCls, isCl, blO, intO, dat_int, eqv_int, gc_int, gc_bl, gc_fr, fx0, fx1, hr, e2, hl1, hl2, lsOf]
theorem lh4_ok (W : Wd) {cs : List Int} {s : Nat} (gs : List Int) (ws : List Wr) {n p w : Nat} (ord : List Nat) (hl : ws.length ≤ 1000) (hw : WOk n ws) (hord : ord.length = n) (o5 o7 o8 o9 o10 : Option MV) (hnd : ord.Nodup) (hon : ∀ k ∈ ord, k < n) :
    exec W lh4 (lhE n p w o5 (some (.lv (iv ord))) o7 o8 o9 o10 none) (M cs s gs [.lst (ws.map wv)]) = some (.nxt [some (.loc 0), some (.int n), some (.int p), some (.int w), some (.loc 3), o5, some (.lv (iv ord)), o7, o8, o9, o10, none], M cs s gs [.lst (ws.map wv), .lst ((ws.map (ren ord)).map wv)]) := by
  have hgd : gdOk (M cs s gs [.lst (ws.map wv)]) [(2, ws.map wv)] = true := by simp [gdOk, M]
  have q := lcmL_gen (f := wv) (g := fun w => some (wv (ren ord w))) (gd := [(2, ws.map wv)]) (step := lcS W [9, 8, 11] (.tp (.cons (.nm 9) (.cons (.nm 8) (.cons (.nm 11) .nil)))) (.con (.bl true)) (.tup (.cons (.blt .min2 (.cons (.idx (.var 6) (.var 9)) (.cons (.idx (.var 6) (.var 8)) .nil))) (.cons (.blt .max2 (.cons (.idx (.var 6) (.var 9)) (.cons (.idx (.var 6) (.var 8)) .nil))) (.cons (.var 11) .nil)))) (lhE n p w o5 (some (.lv (iv ord))) o7 o8 o9 o10 none)) (μ := M cs s gs [.lst (ws.map wv)]) hgd ws [] (fun u hu => by
    obtain ⟨h1, h2, _, _⟩ := hw u hu
    have i1 := ix_iv (M cs s gs [.lst (ws.map wv)]) (show u.a < ord.length by omega)
    have i2 := ix_iv (M cs s gs [.lst (ws.map wv)]) (show u.b < ord.length by omega)
    have m1 := fun μ => min_two μ (ord.getD u.a 0) (ord.getD u.b 0)
    have m2 := fun μ => max_two μ (ord.getD u.a 0) (ord.getD u.b 0)
    simp only [wv, wr, ren]
    generalize ord.getD u.a 0 = x at *
    generalize ord.getD u.b 0 = y at *
    generalize min x y = mi at *
    generalize max x y = mx at *
    generalize M cs s gs _ = μ at *
    simp (implicitDefEqProofs := false) [execs, exec, ev, evs, evIt, asg, asgs, asgK, evCmp, ltD_int, outc, most, evBin, bopI, isCls, isCl, blO, intO, dat_int, eqv_int, gc_int, gc_bl, gc_fr, fx0, fx1, lcS, wipe, i1, i2, m1, m2]) (by simp [most]; omega)
  have e := lcm_ev (W := W) (it := .seq (.var 4)) (ρ := lhE n p w o5 (some (.lv (iv ord))) o7 o8 o9 o10 none) (xs := ws.map wv) (gd := [(2, ws.map wv)]) (μ := M cs s gs [.lst (ws.map wv)]) (μ1 := M cs s gs [.lst (ws.map wv)]) (by
    have : sqOf (M cs s gs [.lst (ws.map wv)]) (.loc 2) = some (ws.map wv) := by simp [sqOf, M]
    simp (implicitDefEqProofs := false) [execs, exec, ev, evs, evIt, asg, asgs, asgK, evCmp, ltD_int, outc, most, evBin, bopI, isCls, isCl, blO, intO, dat_int, eqv_int, gc_int, gc_bl, gc_fr, fx0, fx1, this, gdOf]) q
  have hx : ([] ++ List.filterMap (fun w => some (wv (ren ord w))) ws) = (ws.map (ren ord)).map wv := by
    rw [List.nil_append, List.filterMap_eq_map', List.map_map]; rfl
  rw [hx] at e
  unfold lh4
  generalize (E.lcm _ _ _ _ _) = X at e ⊢
  generalize (ws.map (ren ord)).map wv = B at *
  have hM : M cs s gs [.lst (ws.map wv)] ++ [.lst B] = M cs s gs [.lst (ws.map wv), .lst B] := rfl
  have hL : (M cs s gs [.lst (ws.map wv)]).length = 3 := rfl
  simp (implicitDefEqProofs := false) [execs, exec, ev, evs, evIt, asg, asgs, asgK, evCmp, ltD_int, outc, most, evBin, bopI, isCls, isCl, blO, intO, dat_int, eqv_int, gc_int, gc_bl, gc_fr, fx0, fx1, e, hM, hL]
theorem r_held (d : Nat) {cs : List Int} (hc : cs.length = 64) {s : Nat} (hs : s < 2 ^ 37) (gs : List Int) {n p w : Nat} (hn : n ≤ 48) (hp0 : 0 < p) (hp : p ≤ n) (hp8 : p ≤ 8) (hw : w ≤ 40) (hnw : n - p ≤ w) :
    ∃ (ws : List Wr) (s' : Nat) (gs' : List Int), Good n p ws ∧ ws.length ≤ w ∧ s' ≤ s + 800 ∧ gc (List.length (M cs s gs [])) (M cs s gs []) (den subT fldT none prT (d + 4) none 31 [.loc 0, .int n, .int p, .int w] (M cs s gs [])) = some (.ok (nv n p ws), M cs s' gs' []) := by
  suffices hh : ∃ (ws : List Wr) (s' : Nat) (gs' : List Int) (rest : Mem), WOk n ws ∧ ws.length ≤ w ∧ s' ≤ s + 800 ∧ den subT fldT none prT (d + 4) none 31 [.loc 0, .int n, .int p, .int w] (M cs s gs []) = some (.ok (nv n p (sortW ws)), M cs s' gs' rest) by
    obtain ⟨ws, s', gs', rest, h1, h2, h3, e⟩ := hh
    refine ⟨sortW ws, s', gs', good_sort h1 hn hp hp8 (by omega), by rw [(sortW_perm ws).length_eq]; exact h2, h3, ?_⟩
    rw [e]
    exact gc_Mg cs s gs _ _ (noL_nv _ _ _) s' gs'
  rw [den_at (F := ⟨4, 12, b__law_held⟩) rfl rfl (by decide)]
  show ∃ (ws : List Wr) (s' : Nat) (gs' : List Int) (rest : Mem), WOk n ws ∧ ws.length ≤ w ∧ s' ≤ s + 800 ∧ outc (execs (wdAt subT fldT none prT (d + 3) none) lh [some (.loc 0), some (.int n), some (.int p), some (.int w), none, none, none, none, none, none, none, none] (M cs s gs [])) = _
  have e0 : exec (wdAt subT fldT none prT (d + 3) none) lh0 [some (.loc 0), some (.int n), some (.int p), some (.int w), none, none, none, none, none, none, none, none] (M cs s gs []) = some (.nxt (lhE n p w none none none none none none none), M cs s gs [.lst []]) := by
    simp (implicitDefEqProofs := false) [execs, exec, ev, evs, evIt, asg, asgs, asgK, evCmp, ltD_int, outc, most, evBin, bopI, isCls, isCl, blO, intO, dat_int, eqv_int, gc_int, gc_bl, gc_fr, fx0, fx1, lh0, M]
  obtain ⟨ws1, s1, g1, o5, k1, k2, k3, f1⟩ := lha_for d hc (n := n) (p := p) (w := w) (by omega) none none none none none none ((List.range (n - p)).map (p + ·)) [] s gs none (fun k hk => by
    obtain ⟨j, hj, rfl⟩ := List.mem_map.mp hk
    have := List.mem_range.mp hj
    omega) (by simp [WOk]) (by simp; omega) (by simp; omega)
  simp only [List.length_nil, List.length_map, List.length_range, Nat.zero_add] at k2 k3
  have e1 : exec (wdAt subT fldT none prT (d + 3) none) lh1 (lhE n p w none none none none none none none) (M cs s gs [.lst []]) = some (.nxt (lhE n p w o5 none none none none none none), M cs s1 g1 [.lst (ws1.map wv)]) := by
    have hr := rng_iv2 (show p ≤ 1000 by omega) (show n ≤ 1000 by omega)
    exact (fr_ev (g := .nm 5) (b := lhA) (show evIt (wdAt subT fldT none prT (d + 3) none) (.rng (.cons (.var 2) (.cons (.var 1) .nil))) (lhE n p w none none none none none none none) (M cs s gs [.lst []]) = some (.ok (iv ((List.range (n - p)).map (p + ·)), []), M cs s gs [.lst []]) by
      generalize iv ((List.range (n - p)).map (p + ·)) = r at *
      simp (implicitDefEqProofs := false) [execs, exec, ev, evs, evIt, asg, asgs, asgK, evCmp, ltD_int, outc, most, evBin, bopI, isCls, isCl, blO, intO, dat_int, eqv_int, gc_int, gc_bl, gc_fr, fx0, fx1, hr])).trans f1
  have e2 : ∃ (ws2 : List Wr) (s2 : Nat) (g2 : List Int) (o7 o8 o9 : Option MV), WOk n ws2 ∧ ws2.length ≤ w ∧ s2 ≤ s + 600 ∧ exec (wdAt subT fldT none prT (d + 3) none) lh2 (lhE n p w o5 none none none none none none) (M cs s1 g1 [.lst (ws1.map wv)]) = some (.nxt (lhE n p w o5 none o7 o8 o9 none none), M cs s2 g2 [.lst (ws2.map wv)]) := by
    by_cases h1 : 1 < n
    · have hl1 : evBi (M cs s1 g1 [.lst (ws1.map wv)]) .len [.loc 2] = some (.int ((n - p : Nat) : Int)) := by
        rw [M_sqr, List.length_map, k2]
      have hm : ∀ μ, evBi μ .max2 [.int 1, .int ((w : Int) - ((n - p : Nat) : Int) + 1)] = some (.int ((w - (n - p) + 1 : Nat) : Int)) := fun μ => by
        have h9 := max_two μ 1 (w - (n - p) + 1)
        rw [show max 1 (w - (n - p) + 1) = w - (n - p) + 1 by omega] at h9
        have h8 : (w : Int) - ((n - p : Nat) : Int) + 1 = ((w - (n - p) + 1 : Nat) : Int) := by omega
        rw [h8]
        exact h9
      obtain ⟨v1, g2, p1, q1, z1⟩ := g_draw (d + 1) ((w - (n - p) + 1 : Nat) : Int) (by omega) (Nat.lt_of_le_of_lt (show (((w - (n - p) + 1 : Nat) : Int)).natAbs ≤ 2 ^ 10 by omega) (Nat.pow_lt_pow_right (by decide) (by decide))) hc (show s1 < 2 ^ 40 by omega) g1 [.lst (ws1.map wv)]
      obtain ⟨k, rfl⟩ : ∃ k : Nat, v1 = (k : Int) := ⟨v1.toNat, by omega⟩
      obtain ⟨ws2, s2, g3, o7, o8, o9, j1, j2, j3, f2⟩ := lhb_for d hc (n := n) (p := p) (w := w) h1 (by omega) o5 none none none (iv (List.range k)) ws1 (s1 + 1) g2 none none none k1 (by simp; omega) (by simp; omega)
      simp only [List.length_map, List.length_range] at j2 j3
      refine ⟨ws2, s2, g3, o7, o8, o9, j1, by omega, by omega, ?_⟩
      have hr := rng_iv (show k ≤ 1000 by omega)
      have h1' : (1 : Int) < n := by omega
      generalize hLm : ((w - (n - p) + 1 : Nat) : Int) = Lm at *
      have f3 := fr_ev (g := .nm 7) (b := lhB) (show evIt (wdAt subT fldT none prT (d + 3) none) (.rng (.cons (.app false 21 (.cons (.var 0) (.cons (.blt .max2 (.cons (.con (.int 1)) (.cons (.bin .add (.bin .sub (.var 3) (.blt .len (.cons (.var 4) .nil))) (.con (.int 1))) .nil))) .nil)) []) .nil)) (lhE n p w o5 none none none none none none) (M cs s1 g1 [.lst (ws1.map wv)]) = some (.ok (iv (List.range k), []), M cs (s1 + 1) g2 [.lst (ws1.map wv)]) by
        generalize iv (List.range k) = r at *
        generalize ((n - p : Nat) : Int) = np at *
        simp (implicitDefEqProofs := false) [execs, exec, ev, evs, evIt, asg, asgs, asgK, evCmp, ltD_int, outc, most, evBin, bopI, isCls, isCl, blO, intO, dat_int, eqv_int, gc_int, gc_bl, gc_fr, fx0, fx1, hl1, hm, z1, hr])
      have f4 := f3.trans f2
      unfold lh2
      generalize (S.fr _ _ _) = X at f4 ⊢
      simp (implicitDefEqProofs := false) [execs, exec, ev, evs, evIt, asg, asgs, asgK, evCmp, ltD_int, outc, most, evBin, bopI, isCls, isCl, blO, intO, dat_int, eqv_int, gc_int, gc_bl, gc_fr, fx0, fx1, h1', f4]
    · refine ⟨ws1, s1, g1, none, none, none, k1, by omega, by omega, ?_⟩
      have h1' : ¬ (1 : Int) < n := by omega
      simp (implicitDefEqProofs := false) [execs, exec, ev, evs, evIt, asg, asgs, asgK, evCmp, ltD_int, outc, most, evBin, bopI, isCls, isCl, blO, intO, dat_int, eqv_int, gc_int, gc_bl, gc_fr, fx0, fx1, lh2, h1']
  obtain ⟨ws2, s2, g2, o7, o8, o9, j1, j2, j3, e2⟩ := e2
  obtain ⟨ord, g3, r1, r2, r3, e3⟩ := lh3_ok d hc (show s2 < 2 ^ 38 by omega) g2 ws2 (w := w) hp (by omega) o5 none o7 o8 o9 none
  have e4 := lh4_ok (wdAt subT fldT none prT (d + 3) none) (cs := cs) (s := s2 + (n - p)) g3 ws2 (n := n) (p := p) (w := w) ord (by omega) j1 r1 o5 o7 o8 o9 none r2 r3
  have e5 : exec (wdAt subT fldT none prT (d + 3) none) lh5 [some (.loc 0), some (.int n), some (.int p), some (.int w), some (.loc 3), o5, some (.lv (iv ord)), o7, o8, o9, none, none] (M cs (s2 + (n - p)) g3 [.lst (ws2.map wv), .lst ((ws2.map (ren ord)).map wv)]) = some (.ret (nv n p (sortW (ws2.map (ren ord)))), M cs (s2 + (n - p)) g3 [.lst (ws2.map wv), .lst ((ws2.map (ren ord)).map wv)]) := by
    have z := srt_at (μ := M cs (s2 + (n - p)) g3 [.lst (ws2.map wv), .lst ((ws2.map (ren ord)).map wv)]) (k := 3) (ws := ws2.map (ren ord)) (by simp; omega) rfl
    generalize ws2.map (ren ord) = w3 at *
    generalize M cs _ _ _ = μ at *
    simp (implicitDefEqProofs := false) [execs, exec, ev, evs, evIt, asg, asgs, asgK, evCmp, ltD_int, outc, most, evBin, bopI, isCls, isCl, blO, intO, dat_int, eqv_int, gc_int, gc_bl, gc_fr, fx0, fx1, lh5, z, bi_tup, nv]
  refine ⟨ws2.map (ren ord), s2 + (n - p), g3, [.lst (ws2.map wv), .lst ((ws2.map (ren ord)).map wv)], ren_ok r1 r2 r3 j1, by simpa using j2, by omega, ?_⟩
  unfold lh
  rw [execs, e0, seqK_nxt, execs, e1, seqK_nxt, execs, e2, seqK_nxt, execs, e3, seqK_nxt, execs, e4, seqK_nxt, execs, e5]
  rfl
end MI
end
section
set_option Elab.async false
set_option linter.all false
set_option maxRecDepth 100000
set_option maxHeartbeats 4000000
set_option exponentiation.threshold 20000
namespace MI
open PySem PySem.Spec PyProof.Rows L2
theorem slc_all (μ : Mem) {xs : List MV} {k : Nat} (h : xs.length ≤ k) : evSlc μ (.tup xs) none (some (k : Int)) = some (.tup xs) := by
  have : ¬ ((k : Int) < 0) := by omega
  have e : HT.sIx xs.length xs.length (some (k : Int)) = xs.length := by
    simp [HT.sIx, this]
    omega
  have e0 : HT.sIx xs.length 0 none = 0 := by simp [HT.sIx]
  simp [evSlc, cut, e, e0]
theorem ev_mid {W : Wd} (X Y Z : E) : True := trivial
def sn0 : S := (.asg (.nm 3) (.app false 21 (.cons (.var 0) (.cons (.bin .add (.var 1) (.con (.int 1))) .nil)) []))
def sn1 : S := (.asg (.nm 4) (.blt .min2 (.cons (.var 3) (.cons (.app false 21 (.cons (.var 0) (.cons (.con (.int 5)) .nil)) []) .nil))))
def sn2 : S := (.ite (.orr (.cmp .eq (.var 4) (.con (.int 0))) (.cmp .eq (.app false 21 (.cons (.var 0) (.cons (.con (.int 5)) .nil)) []) (.con (.int 0)))) (.cons (.asg (.nm 5) (.app false 30 (.cons (.var 0) (.cons (.var 3) (.cons (.var 4) (.cons (.var 2) .nil)))) [])) .nil) (.cons (.asg (.nm 5) (.app false 31 (.cons (.var 0) (.cons (.var 3) (.cons (.var 4) (.cons (.var 2) .nil)))) [])) .nil))
def sn3 : S := (.ret (.tup (.cons (.idx (.var 5) (.con (.int 0))) (.cons (.idx (.var 5) (.con (.int 1))) (.cons (.slc (.idx (.var 5) (.con (.int 2))) false (.con .non) true (.var 2)) .nil)))))
def sn : SS := (.cons sn0 (.cons sn1 (.cons sn2 (.cons sn3 .nil))))
theorem r_small (d : Nat) {cs : List Int} (hc : cs.length = 64) {s : Nat} (hs : s < 2 ^ 36) (gs : List Int) :
    ∃ (n p : Nat) (ws : List Wr) (s' : Nat) (gs' : List Int), n ≤ 6 ∧ Good n p ws ∧ ws.length ≤ 8 ∧ s' ≤ s + 900 ∧ gc (List.length (M cs s gs [])) (M cs s gs []) (den subT fldT none prT (d + 5) none 36 [.loc 0, .int 6, .int 8] (M cs s gs [])) = some (.ok (nv n p ws), M cs s' gs' []) := by
  suffices hh : ∃ (n p : Nat) (ws : List Wr) (s' : Nat) (gs' : List Int), n ≤ 6 ∧ Good n p ws ∧ ws.length ≤ 8 ∧ s' ≤ s + 900 ∧ den subT fldT none prT (d + 5) none 36 [.loc 0, .int 6, .int 8] (M cs s gs []) = some (.ok (nv n p ws), M cs s' gs' []) by
    obtain ⟨n, p, ws, s', gs', h1, h2, h3, h4, e⟩ := hh
    refine ⟨n, p, ws, s', gs', h1, h2, h3, h4, ?_⟩
    rw [e]
    exact gc_M cs s gs [] _ (noL_nv _ _ _) s' gs'
  rw [den_at (F := ⟨3, 6, b__law_small_net⟩) rfl rfl (by decide)]
  show ∃ (n p : Nat) (ws : List Wr) (s' : Nat) (gs' : List Int), n ≤ 6 ∧ Good n p ws ∧ ws.length ≤ 8 ∧ s' ≤ s + 900 ∧ outc (execs (wdAt subT fldT none prT (d + 4) none) sn [some (.loc 0), some (.int 6), some (.int 8), none, none, none] (M cs s gs [])) = _
  obtain ⟨v1, g1, p1, q1, e1⟩ := g_draw (d + 2) 7 (by decide) (by decide) hc (show s < 2 ^ 40 by omega) gs []
  obtain ⟨v2, g2, p2, q2, e2⟩ := g_draw (d + 2) 5 (by decide) (by decide) hc (show s + 1 < 2 ^ 40 by omega) g1 []
  obtain ⟨v3, g3, p3, q3, e3⟩ := g_draw (d + 2) 5 (by decide) (by decide) hc (show s + 1 + 1 < 2 ^ 40 by omega) g2 []
  obtain ⟨n, rfl⟩ : ∃ k : Nat, v1 = (k : Int) := ⟨v1.toNat, by omega⟩
  obtain ⟨p0, rfl⟩ : ∃ k : Nat, v2 = (k : Int) := ⟨v2.toNat, by omega⟩
  have m1 := fun μ => min_two μ n p0
  have hp : min n p0 ≤ n ∧ min n p0 ≤ 4 := by omega
  generalize min n p0 = p at *
  have f0 : exec (wdAt subT fldT none prT (d + 4) none) sn0 [some (.loc 0), some (.int 6), some (.int 8), none, none, none] (M cs s gs []) = some (.nxt [some (.loc 0), some (.int 6), some (.int 8), some (.int n), none, none], M cs (s + 1) g1 []) := by simp (implicitDefEqProofs := false) [execs, exec, ev, evs, evIt, asg, asgs, asgK, evCmp, ltD_int, outc, most, evBin, bopI, isCls, isCl, blO, intO, dat_int, eqv_int, gc_int, gc_bl, gc_fr, fx0, fx1, sn0, e1]
  have f1 : exec (wdAt subT fldT none prT (d + 4) none) sn1 [some (.loc 0), some (.int 6), some (.int 8), some (.int n), none, none] (M cs (s + 1) g1 []) = some (.nxt [some (.loc 0), some (.int 6), some (.int 8), some (.int n), some (.int p), none], M cs (s + 1 + 1) g2 []) := by simp (implicitDefEqProofs := false) [execs, exec, ev, evs, evIt, asg, asgs, asgK, evCmp, ltD_int, outc, most, evBin, bopI, isCls, isCl, blO, intO, dat_int, eqv_int, gc_int, gc_bl, gc_fr, fx0, fx1, sn1, e2, m1]
  have f2 : ∃ (ws : List Wr) (s' : Nat) (gs' : List Int), Good n p ws ∧ ws.length ≤ 8 ∧ s' ≤ s + 900 ∧ exec (wdAt subT fldT none prT (d + 4) none) sn2 [some (.loc 0), some (.int 6), some (.int 8), some (.int n), some (.int p), none] (M cs (s + 1 + 1) g2 []) = some (.nxt [some (.loc 0), some (.int 6), some (.int 8), some (.int n), some (.int p), some (nv n p ws)], M cs s' gs' []) := by
    by_cases h0 : p = 0
    · subst h0
      obtain ⟨ws, s', gs', k1, k2, k3, e⟩ := r_lnet d hc (show s + 1 + 1 < 2 ^ 37 by omega) g2 (n := n) (p := 0) (w := 8) (by omega) (by omega) (by omega) (by omega)
      refine ⟨ws, s', gs', k1, k2, by omega, ?_⟩
      have e : gc (List.length (M cs (s + 1 + 1) g2 [])) (M cs (s + 1 + 1) g2 []) (den subT fldT none prT (d + 4) none 30 [.loc 0, .int n, .int 0, .int 8] (M cs (s + 1 + 1) g2 [])) = _ := e
      simp (implicitDefEqProofs := false) [execs, exec, ev, evs, evIt, asg, asgs, asgK, evCmp, ltD_int, outc, most, evBin, bopI, isCls, isCl, blO, intO, dat_int, eqv_int, gc_int, gc_bl, gc_fr, fx0, fx1, sn2, e]
    · have hb : ((p : Int) == 0) = false := by simpa using h0
      by_cases h1 : v3 = 0
      · subst h1
        obtain ⟨ws, s', gs', k1, k2, k3, e⟩ := r_lnet d hc (show s + 1 + 1 + 1 < 2 ^ 37 by omega) g3 (n := n) (p := p) (w := 8) (by omega) (by omega) (by omega) (by omega)
        refine ⟨ws, s', gs', k1, k2, by omega, ?_⟩
        have e : gc (List.length (M cs (s + 1 + 1 + 1) g3 [])) (M cs (s + 1 + 1 + 1) g3 []) (den subT fldT none prT (d + 4) none 30 [.loc 0, .int n, .int p, .int 8] (M cs (s + 1 + 1 + 1) g3 [])) = _ := e
        simp (implicitDefEqProofs := false) [execs, exec, ev, evs, evIt, asg, asgs, asgK, evCmp, ltD_int, outc, most, evBin, bopI, isCls, isCl, blO, intO, dat_int, eqv_int, gc_int, gc_bl, gc_fr, fx0, fx1, sn2, e3, hb, h0, e]
      · have hb1 : (v3 == 0) = false := by simpa using h1
        obtain ⟨ws, s', gs', k1, k2, k3, e⟩ := r_held d hc (show s + 1 + 1 + 1 < 2 ^ 37 by omega) g3 (n := n) (p := p) (w := 8) (by omega) (by omega) (by omega) (by omega) (by omega) (by omega)
        refine ⟨ws, s', gs', k1, k2, by omega, ?_⟩
        have e : gc (List.length (M cs (s + 1 + 1 + 1) g3 [])) (M cs (s + 1 + 1 + 1) g3 []) (den subT fldT none prT (d + 4) none 31 [.loc 0, .int n, .int p, .int 8] (M cs (s + 1 + 1 + 1) g3 [])) = _ := e
        simp (implicitDefEqProofs := false) [execs, exec, ev, evs, evIt, asg, asgs, asgK, evCmp, ltD_int, outc, most, evBin, bopI, isCls, isCl, blO, intO, dat_int, eqv_int, gc_int, gc_bl, gc_fr, fx0, fx1, sn2, e3, hb, hb1, h0, h1, e]
  obtain ⟨ws, s', gs', k1, k2, k3, f2⟩ := f2
  refine ⟨n, p, ws, s', gs', by omega, k1, k2, k3, ?_⟩
  have f3 : exec (wdAt subT fldT none prT (d + 4) none) sn3 [some (.loc 0), some (.int 6), some (.int 8), some (.int n), some (.int p), some (nv n p ws)] (M cs s' gs' []) = some (.ret (nv n p ws), M cs s' gs' []) := by
    have i0 : ∀ μ, evIdx μ (nv n p ws) (.int 0) = some (.int n) := fun μ => ix30 _ _ _ _
    have i1 : ∀ μ, evIdx μ (nv n p ws) (.int 1) = some (.int p) := fun μ => ix31 _ _ _ _
    have i2 : ∀ μ, evIdx μ (nv n p ws) (.int 2) = some (.tup (ws.map wv)) := fun μ => ix32 _ _ _ _
    have i3 := fun μ => slc_all μ (xs := ws.map wv) (k := 8) (by simpa using k2)
    have i3 : ∀ μ, evSlc μ (.tup (ws.map wv)) none (some 8) = some (.tup (ws.map wv)) := i3
    have i4 : nv n p ws = .tup [.int n, .int p, .tup (ws.map wv)] := rfl
    have i5 : exec (wdAt subT fldT none prT (d + 4) none) sn3 [some (.loc 0), some (.int 6), some (.int 8), some (.int n), some (.int p), some (nv n p ws)] (M cs s' gs' []) = some (.ret (.tup [.int n, .int p, .tup (ws.map wv)]), M cs s' gs' []) := by
      generalize nv n p ws = N at *
      simp (implicitDefEqProofs := false) [execs, exec, ev, evs, evIt, asg, asgs, asgK, evCmp, ltD_int, outc, most, evBin, bopI, isCls, isCl, blO, intO, dat_int, eqv_int, gc_int, gc_bl, gc_fr, fx0, fx1, sn3, i0, i1, i2, i3, partO]
    exact i5
  unfold sn
  rw [execs, f0, seqK_nxt, execs, f1, seqK_nxt, execs, f2, seqK_nxt, execs, f3]
  rfl
end MI
end
section
set_option Elab.async false
set_option linter.all false
set_option maxRecDepth 100000
set_option maxHeartbeats 4000000
set_option exponentiation.threshold 20000
namespace MI
open PySem PySem.Spec PyProof.Rows L2
theorem lr_turn {cs : List Int} (hc : cs.length = 64) {s : Nat} (hs : s < 2 ^ 38) (gs : List Int) {n p : Nat} {ws : List Wr} (g : Good n p ws) (x : MV) (o2 o3 o4 o5 o6 : Option MV) :
    ∃ (gs' : List Int) (o3' o4' o5' o6' : Option MV), stp W13 (.nm 2) lrT x [some (.loc 0), some (nv n p ws), o2, o3, o4, o5, o6, none] (M cs s gs []) = some (.nxt [some (.loc 0), some (nv n p ws), some x, o3', o4', o5', o6', none], M cs (s + ws.length) gs' []) := by
  obtain ⟨row, g1, h1, e0⟩ := lr0 hc hs gs n p ws g.hw (some x) o3 o4 o5 o6
  obtain ⟨r1, r2, r3⟩ := row_ok h1
  have hw := g.hw
  have e1 : stp W13 (.nm 2) lrT x [some (.loc 0), some (nv n p ws), o2, o3, o4, o5, o6, none] (M cs s gs []) = execs W13 lrT [some (.loc 0), some (nv n p ws), some x, o3, o4, o5, o6, none] (M cs s gs []) := by
    simp only [stp]
    simp (implicitDefEqProofs := false) [execs, exec, ev, evs, evIt, asg, asgs, asgK, evCmp, ltD_int, outc, most, evBin, bopI, isCls, isCl, blO, intO, dat_int, eqv_int, gc_int, gc_bl, gc_fr, fx0, fx1, ]
  rw [e1]
  unfold lrT
  rw [execs, e0, seqK_nxt]
  cases h : flead n p ws row with
  | none => exact ⟨g1, _, _, _, _, lr_none g r1 (by omega) r3 _ _ _ h o4 o5 o6⟩
  | some l =>
    obtain ⟨a, b, c, e⟩ := lr_some g r1 (by omega) r3 (M cs (s + ws.length) g1 []) (some (.loc 0)) (some x) h o4 o5 o6
    exact ⟨g1, _, a, b, c, e⟩
theorem lr_for {cs : List Int} (hc : cs.length = 64) {n p : Nat} {ws : List Wr} (g : Good n p ws) : ∀ (xs : List MV) (s : Nat) (gs : List Int) (o2 o3 o4 o5 o6 : Option MV), s + 40 * xs.length < 2 ^ 38 →
    ∃ (s' : Nat) (gs' : List Int) (o2' o3' o4' o5' o6' : Option MV), s' ≤ s + 40 * xs.length ∧ forL [] (stp W13 (.nm 2) lrT) xs [some (.loc 0), some (nv n p ws), o2, o3, o4, o5, o6, none] (M cs s gs []) = some (.nxt [some (.loc 0), some (nv n p ws), o2', o3', o4', o5', o6', none], M cs s' gs' [])
  | [], s, gs, o2, o3, o4, o5, o6, _ => ⟨s, gs, o2, o3, o4, o5, o6, by simp, forL_nil rfl⟩
  | x :: xs, s, gs, o2, o3, o4, o5, o6, hs => by
    simp only [List.length_cons] at hs
    have hw := g.hw
    obtain ⟨g1, a3, a4, a5, a6, e⟩ := lr_turn hc (show s < 2 ^ 38 by omega) gs g x o2 o3 o4 o5 o6
    obtain ⟨s', g2, b2, b3, b4, b5, b6, h, e2⟩ := lr_for hc g xs (s + ws.length) g1 (some x) a3 a4 a5 a6 (by omega)
    exact ⟨s', g2, b2, b3, b4, b5, b6, by simp only [List.length_cons]; omega, (forL_nxt rfl e).trans e2⟩
theorem r_right {cs : List Int} (hc : cs.length = 64) {s : Nat} (hs : s < 2 ^ 35) (gs : List Int) :
    ∃ (s' : Nat) (gs' : List Int), s' ≤ s + 2000 ∧ gc (List.length (M cs s gs [])) (M cs s gs []) (den subT fldT none prT 14 none 38 [.loc 0] (M cs s gs [])) = some (.ok (.bl true), M cs s' gs' []) := by
  suffices hh : ∃ (s' : Nat) (gs' : List Int), s' ≤ s + 2000 ∧ den subT fldT none prT 14 none 38 [.loc 0] (M cs s gs []) = some (.ok (.bl true), M cs s' gs' []) by
    obtain ⟨s', gs', h, e⟩ := hh
    refine ⟨s', gs', h, ?_⟩
    rw [e]
    exact gc_M cs s gs [] (.bl true) rfl s' gs'
  obtain ⟨n, p, ws, s1, g1, h1, g, h3, h4, e⟩ := r_small 8 hc (show s < 2 ^ 36 by omega) gs
  obtain ⟨s', g2, b2, b3, b4, b5, b6, h, f⟩ := lr_for hc g (iv (List.range 5)) s1 g1 none none none none none (by simp; omega)
  refine ⟨s', g2, by simp at h; omega, ?_⟩
  rw [den_at (F := ⟨1, 8, b__law_right⟩) rfl rfl (by decide)]
  have e1 : exec W13 (.asg (.nm 1) (.app false 36 (.cons (.var 0) (.cons (.con (.int 6)) (.cons (.con (.int 8)) .nil))) [])) [some (.loc 0), none, none, none, none, none, none, none] (M cs s gs []) = some (.nxt [some (.loc 0), some (nv n p ws), none, none, none, none, none, none], M cs s1 g1 []) := by simp (implicitDefEqProofs := false) [execs, exec, ev, evs, evIt, asg, asgs, asgK, evCmp, ltD_int, outc, most, evBin, bopI, isCls, isCl, blO, intO, dat_int, eqv_int, gc_int, gc_bl, gc_fr, fx0, fx1, e]
  have e2 : exec W13 (.fr (.nm 2) (.rng (.cons (.con (.int 5)) .nil)) lrT) [some (.loc 0), some (nv n p ws), none, none, none, none, none, none] (M cs s1 g1 []) = _ := (fr_ev (g := .nm 2) (b := lrT) (show evIt W13 (.rng (.cons (.con (.int 5)) .nil)) [some (.loc 0), some (nv n p ws), none, none, none, none, none, none] (M cs s1 g1 []) = some (.ok (iv (List.range 5), []), M cs s1 g1 []) by
    have hr : rngOf [.int 5] = some (iv (List.range 5)) := rng_iv (n := 5) (by omega)
    generalize iv (List.range 5) = r at *
    simp (implicitDefEqProofs := false) [execs, exec, ev, evs, evIt, asg, asgs, asgK, evCmp, ltD_int, outc, most, evBin, bopI, isCls, isCl, blO, intO, dat_int, eqv_int, gc_int, gc_bl, gc_fr, fx0, fx1, hr])).trans f
  show outc (execs W13 b__law_right [some (.loc 0), none, none, none, none, none, none, none] (M cs s gs [])) = _
  have hb : b__law_right = .cons (.asg (.nm 1) (.app false 36 (.cons (.var 0) (.cons (.con (.int 6)) (.cons (.con (.int 8)) .nil))) [])) (.cons (.fr (.nm 2) (.rng (.cons (.con (.int 5)) .nil)) lrT) (.cons (.ret (.con (.bl true))) .nil)) := rfl
  rw [hb, execs, e1, seqK_nxt, execs, e2, seqK_nxt]
  simp (implicitDefEqProofs := false) [execs, exec, ev, evs, evIt, asg, asgs, asgK, evCmp, ltD_int, outc, most, evBin, bopI, isCls, isCl, blO, intO, dat_int, eqv_int, gc_int, gc_bl, gc_fr, fx0, fx1, ]
end MI
end
section
set_option Elab.async false
set_option linter.all false
set_option maxRecDepth 100000
set_option maxHeartbeats 4000000
set_option exponentiation.threshold 20000
namespace MI
open PySem PySem.Spec PyProof.Rows L2
abbrev fsI : E := .lcm [6] (.seq (.bin .add (.var 4) (.tup (.cons (.var 2) .nil)))) (.nm 6) (.con (.bl true)) (.slc (.idx (.idx (.var 0) (.con (.int 2))) (.var 6)) false (.con .non) true (.con (.int 2)))
abbrev fsC : E := .cmp .notn (.app false 32 (.cons (.idx (.var 0) (.con (.int 0))) (.cons fsI .nil)) []) (.con .non)
abbrev fsY : E := .bin .add (.var 4) (.tup (.cons (.var 2) .nil))
abbrev fsX : E := .lcm [4] (.seq (.var 1)) (.nm 4) fsC fsY
def fs0 : S := (.asg (.nm 1) (.lst (.cons (.tup .nil) .nil)))
def fsA : SS := (.cons (.asg (.nm 1) (.bin .add (.var 1) fsX)) .nil)
def fs1 : S := (.fr (.nm 2) (.rng (.cons (.blt .len (.cons (.idx (.var 0) (.con (.int 2))) .nil)) .nil)) fsA)
def fs2 : S := (.asg (.nm 3) (.chg (.lst .nil)))
def fsB0 : S := (.asg (.nm 5) (.app false 33 (.cons (.var 0) (.cons (.var 4) .nil)) []))
def fsB1 : S := (.ite (.cmp .notn (.var 5) (.con .non)) (.cons (.ex (.mth .append (.var 3) (.cons (.tup (.cons (.var 4) (.cons (.app false 34 (.cons (.var 0) (.cons (.var 5) .nil)) []) (.cons (.app false 28 (.cons (.lcm [2] (.seq (.var 4)) (.nm 2) (.con (.bl true)) (.idx (.idx (.idx (.var 0) (.con (.int 2))) (.var 2)) (.con (.int 2)))) .nil) []) .nil)))) .nil))) .nil) .nil)
def fsB : SS := (.cons fsB0 (.cons fsB1 .nil))
def fs3 : S := (.fr (.nm 4) (.seq (.blt .srt1 (.cons (.var 1) .nil))) fsB)
def fs4 : S := (.ret (.var 3))
def fs : SS := (.cons fs0 (.cons fs1 (.cons fs2 (.cons fs3 (.cons fs4 .nil)))))
theorem fs_body : b__law_forests = fs := rfl
theorem add_tup (μ : Mem) (xs ys : List MV) (h : xs.length + ys.length ≤ 2000) : evBin μ .add (.tup xs) (.tup ys) = some (.tup (xs ++ ys)) := by
  have : xs.length + ys.length ≤ most := by simp [most]; omega
  simp [evBin, this]
theorem iv_snoc (r : List Nat) (j : Nat) : iv r ++ [.int (j : Nat)] = iv (r ++ [j]) := by simp [iv]
theorem fsY_ev (W : Wd) (o0 o1 o3 o5 o6 : Option MV) (j : Nat) (r : List Nat) (hl : r.length ≤ 1000) (μ : Mem) : ev W fsY [o0, o1, some (.int j), o3, some (.tup (iv r)), o5, o6] μ = some (.ok (.tup (iv (r ++ [j]))), μ) := by
  have h1 := add_tup μ (iv r) [.int j] (by simp; omega)
  rw [iv_snoc] at h1
  have hm : ([MV.int j] : List MV).length ≤ most := by simp [most]
  simp only [fsY, ev, evs, List.getElem?_cons_zero, List.getElem?_cons_succ, Option.bind_some, id, ok_some, bnd_ok, hm, if_true, h1]
section
variable (d : Nat) {n p : Nat} {ws : List Wr} (g : Good n p ws)
include g
theorem fsI_ev (W : Wd) (o1 o3 o5 : Option MV) (j : Nat) (hj : j < ws.length) (r : List Nat) (hr : ∀ k ∈ r, k < ws.length) (hl : r.length ≤ 100) (μ : Mem) : ev W fsI [some (nv n p ws), o1, some (.int j), o3, some (.tup (iv r)), o5, none] μ = some (.ok (.lv ((rowP ws (r ++ [j])).map pv)), μ) := by
  have i2 : evIdx μ (nv n p ws) (.int 2) = some (.tup (ws.map wv)) := ix32 _ _ _ _
  have hr2 : ∀ k ∈ r ++ [j], k < ws.length := fun k hk => by
    rcases List.mem_append.mp hk with h | h
    · exact hr k h
    · simp only [List.mem_singleton] at h; omega
  have q := lcm_iv (gd := []) (step := lcS W [6] (.nm 6) (.con (.bl true)) (.slc (.idx (.idx (.var 0) (.con (.int 2))) (.var 6)) false (.con .non) true (.con (.int 2))) [some (nv n p ws), o1, some (.int j), o3, some (.tup (iv r)), o5, none]) (μ := μ) rfl (r ++ [j]) (fun k => pv ((ws[k]?.map fun w => (w.a, w.b)).getD (0, 0))) (by simp; omega) fun k hk => by
    have hk' := hr2 k hk
    have i3 := ixt_nat μ (show k < (ws.map wv).length by simpa using hk')
    have i4 := slc_wv μ ws[k]
    simp only [List.getElem_map] at i3
    simp (implicitDefEqProofs := false) [execs, exec, ev, evs, evIt, asg, asgs, asgK, evCmp, ltD_int, outc, most, evBin, bopI, isCls, isCl, blO, intO, dat_int, eqv_int, gc_int, gc_bl, gc_fr, fx0, fx1, lcS, wipe, i2, i3, i4, partO, hk']
  rw [lcm_ev (xs := iv (r ++ [j])) (gd := []) (μ1 := μ) ?_ q]
  · simp [rowP]
  · have y := fsY_ev W (some (nv n p ws)) o1 o3 o5 none j r (by omega) μ
    unfold fsY at y
    simp only [evIt, y, bnd_ok, sqOf, Option.map_some, gdOf, ok_some]
theorem fsC_ev (o1 o3 o5 : Option MV) (j : Nat) (hj : j < ws.length) (r : List Nat) (hr : ∀ k ∈ r, k < ws.length) (hl : r.length ≤ 100) (μ : Mem) : ev (wdAt subT fldT none prT (d + 1) none) fsC [some (nv n p ws), o1, some (.int j), o3, some (.tup (iv r)), o5, none] μ = some (.ok (.bl (leads (List.range n) (rowP ws (r ++ [j]))).isSome), μ) := by
  have i0 : evIdx μ (nv n p ws) (.int 0) = some (.int n) := ix30 _ _ _ _
  have e := fsI_ev g (wdAt subT fldT none prT (d + 1) none) o1 o3 o5 j hj r hr hl μ
  have hr2 : ∀ k ∈ r ++ [j], k < ws.length := fun k hk => by
    rcases List.mem_append.mp hk with h | h
    · exact hr k h
    · simp only [List.mem_singleton] at h; omega
  have e2 := r_lleads d n (rowP ws (r ++ [j])) μ (by have := g.hn; omega) (rowP_lt g hr2)
  have e3 := gc_same (μ := μ) (noL_oL (leads (List.range n) (rowP ws (r ++ [j]))))
  unfold fsC
  generalize fsI = X at e ⊢
  cases hL : leads (List.range n) (rowP ws (r ++ [j])) with
  | none =>
    rw [hL] at e2 e3
    simp only [oL] at e2 e3
    simp (implicitDefEqProofs := false) [execs, exec, ev, evs, evIt, asg, asgs, asgK, evCmp, ltD_int, outc, most, evBin, bopI, isCls, isCl, blO, intO, dat_int, eqv_int, gc_int, gc_bl, gc_fr, fx0, fx1, e, e2, e3, i0]
  | some l =>
    rw [hL] at e2 e3
    simp only [oL] at e2 e3
    simp (implicitDefEqProofs := false) [execs, exec, ev, evs, evIt, asg, asgs, asgK, evCmp, ltD_int, outc, most, evBin, bopI, isCls, isCl, blO, intO, dat_int, eqv_int, gc_int, gc_bl, gc_fr, fx0, fx1, e, e2, e3, i0]
end
/-- rows of wires -/
def rvs (rs : List (List Nat)) : List MV := rs.map fun r => .tup (iv r)
def addR (n : Nat) (ws : List Wr) (rs : List (List Nat)) (j : Nat) : List (List Nat) := rs ++ (rs.filter fun r => (leads (List.range n) (rowP ws (r ++ [j]))).isSome).map fun r => r ++ [j]
structure RsOk (L j : Nat) (rs : List (List Nat)) : Prop where
  hd : rs.head? = some []
  len : rs.length ≤ 2 ^ j
  ok : ∀ r ∈ rs, (∀ k ∈ r, k < j) ∧ r.Pairwise (· < ·) ∧ r.length ≤ j
theorem RsOk.add {L j n : Nat} {ws : List Wr} {rs : List (List Nat)} (h : RsOk L j rs) : RsOk L (j + 1) (addR n ws rs j) := by
  refine ⟨?_, ?_, ?_⟩
  · unfold addR
    rw [List.head?_append, h.hd]; rfl
  · unfold addR
    rw [List.length_append, List.length_map]
    have := List.length_filter_le (fun r => (leads (List.range n) (rowP ws (r ++ [j]))).isSome) rs
    have := h.len
    rw [Nat.pow_succ]
    omega
  · intro r hr
    unfold addR at hr
    rcases List.mem_append.mp hr with hr | hr
    · obtain ⟨a, b, c⟩ := h.ok r hr
      exact ⟨fun k hk => by have := a k hk; omega, b, by omega⟩
    · obtain ⟨r', hr', rfl⟩ := List.mem_map.mp hr
      obtain ⟨a, b, c⟩ := h.ok r' (List.mem_filter.mp hr').1
      refine ⟨fun k hk => ?_, ?_, by simp; omega⟩
      · rcases List.mem_append.mp hk with hk | hk
        · have := a k hk; omega
        · simp only [List.mem_singleton] at hk; omega
      · rw [List.pairwise_append]
        refine ⟨b, by simp, fun x hx y hy => ?_⟩
        simp only [List.mem_singleton] at hy
        have := a x hx
        omega
theorem fmap_rows (n : Nat) (ws : List Wr) (j : Nat) : ∀ rs : List (List Nat), (rs.filterMap fun r => if (leads (List.range n) (rowP ws (r ++ [j]))).isSome = true then some (MV.tup (iv (r ++ [j]))) else none) = rvs ((rs.filter fun r => (leads (List.range n) (rowP ws (r ++ [j]))).isSome).map fun r => r ++ [j])
  | [] => rfl
  | r :: rs => by
    have ih := fmap_rows n ws j rs
    by_cases h : (leads (List.range n) (rowP ws (r ++ [j]))).isSome = true
    · rw [List.filterMap_cons_some (by rw [if_pos h]), List.filter_cons_of_pos (p := fun r => (leads (List.range n) (rowP ws (r ++ [j]))).isSome) h, ih]; rfl
    · rw [List.filterMap_cons_none (by rw [if_neg h]), List.filter_cons_of_neg (p := fun r => (leads (List.range n) (rowP ws (r ++ [j]))).isSome) h, ih]
theorem fsA_step (d : Nat) {n p : Nat} {ws : List Wr} (g : Good n p ws) (j : Nat) (hj : j < ws.length) (hj8 : j ≤ 8) {rs : List (List Nat)} (hr : RsOk ws.length j rs) (o2 : Option MV) (μ : Mem) :
    stp (wdAt subT fldT none prT (d + 1) none) (.nm 2) fsA (.int j) [some (nv n p ws), some (.lv (rvs rs)), o2, none, none, none, none] μ = some (.nxt [some (nv n p ws), some (.lv (rvs (addR n ws rs j))), some (.int j), none, none, none, none], μ) := by
  have hlen : rs.length ≤ 256 := Nat.le_trans hr.len (show 2 ^ j ≤ 2 ^ 8 from Nat.pow_le_pow_right (by decide) hj8)
  have q := lcmL_gen (f := fun r : List Nat => MV.tup (iv r)) (g := fun r => if (leads (List.range n) (rowP ws (r ++ [j]))).isSome = true then some (MV.tup (iv (r ++ [j]))) else none) (gd := []) (step := lcS (wdAt subT fldT none prT (d + 1) none) [4] (.nm 4) fsC fsY [some (nv n p ws), some (.lv (rvs rs)), some (.int j), none, none, none, none]) (μ := μ) rfl rs [] (fun r hrr => by
    obtain ⟨a, b, c⟩ := hr.ok r hrr
    have e1 := fsC_ev d g (some (.lv (rvs rs))) none none j hj r (fun k hk => by have := a k hk; omega) (by omega) μ
    have e2 := fsY_ev (wdAt subT fldT none prT (d + 1) none) (some (nv n p ws)) (some (.lv (rvs rs))) none none none j r (by omega) μ
    generalize fsC = C at e1 ⊢
    generalize fsY = Y at e2 ⊢
    cases hL : (leads (List.range n) (rowP ws (r ++ [j]))).isSome with
    | true => rw [hL] at e1; simp (implicitDefEqProofs := false) [execs, exec, ev, evs, evIt, asg, asgs, asgK, evCmp, ltD_int, outc, most, evBin, bopI, isCls, isCl, blO, intO, dat_int, eqv_int, gc_int, gc_bl, gc_fr, fx0, fx1, lcS, wipe, e1, e2]
    | false => rw [hL] at e1; simp (implicitDefEqProofs := false) [execs, exec, ev, evs, evIt, asg, asgs, asgK, evCmp, ltD_int, outc, most, evBin, bopI, isCls, isCl, blO, intO, dat_int, eqv_int, gc_int, gc_bl, gc_fr, fx0, fx1, lcS, wipe, e1]) (by simp [most]; omega)
  rw [fmap_rows, List.nil_append] at q
  have e := lcm_ev (W := wdAt subT fldT none prT (d + 1) none) (it := .seq (.var 1)) (ρ := [some (nv n p ws), some (.lv (rvs rs)), some (.int j), none, none, none, none]) (xs := rs.map fun r => MV.tup (iv r)) (gd := []) (μ := μ) (μ1 := μ) (by simp (implicitDefEqProofs := false) [execs, exec, ev, evs, evIt, asg, asgs, asgK, evCmp, ltD_int, outc, most, evBin, bopI, isCls, isCl, blO, intO, dat_int, eqv_int, gc_int, gc_bl, gc_fr, fx0, fx1, sqOf, gdOf, rvs]) q
  have hl2 : (rvs rs).length + (rvs ((rs.filter fun r => (leads (List.range n) (rowP ws (r ++ [j]))).isSome).map fun r => r ++ [j])).length ≤ 16000000 := by
    have := List.length_filter_le (fun r => (leads (List.range n) (rowP ws (r ++ [j]))).isSome) rs
    simp only [rvs, List.length_map]
    omega
  have ea : rvs (addR n ws rs j) = rvs rs ++ rvs ((rs.filter fun r => (leads (List.range n) (rowP ws (r ++ [j]))).isSome).map fun r => r ++ [j]) := by simp only [rvs, addR, List.map_append]
  rw [ea]
  unfold fsA fsX
  generalize (E.lcm [4] (It.seq (E.var 1)) (G.nm 4) fsC fsY) = X at e ⊢
  generalize rvs ((rs.filter fun r => (leads (List.range n) (rowP ws (r ++ [j]))).isSome).map fun r => r ++ [j]) = B at *
  generalize rvs rs = A at *
  simp only [stp]
  simp (implicitDefEqProofs := false) [execs, exec, ev, evs, evIt, asg, asgs, asgK, evCmp, ltD_int, outc, most, evBin, bopI, isCls, isCl, blO, intO, dat_int, eqv_int, gc_int, gc_bl, gc_fr, fx0, fx1, e, hl2, lsOf]
theorem fsA_for (d : Nat) {n p : Nat} {ws : List Wr} (g : Good n p ws) (h8 : ws.length ≤ 8) (μ : Mem) : ∀ (m j : Nat) (rs : List (List Nat)) (o2 : Option MV), j + m = ws.length → RsOk ws.length j rs →
    ∃ (rs' : List (List Nat)) (o2' : Option MV), RsOk ws.length ws.length rs' ∧ forL [] (stp (wdAt subT fldT none prT (d + 1) none) (.nm 2) fsA) (iv (List.range' j m)) [some (nv n p ws), some (.lv (rvs rs)), o2, none, none, none, none] μ = some (.nxt [some (nv n p ws), some (.lv (rvs rs')), o2', none, none, none, none], μ)
  | 0, j, rs, o2, hj, hr => ⟨rs, o2, by rw [show j = ws.length by omega] at hr; exact hr, forL_nil rfl⟩
  | m + 1, j, rs, o2, hj, hr => by
    obtain ⟨rs', o2', h, e⟩ := fsA_for d g h8 μ m (j + 1) (addR n ws rs j) (some (.int j)) (by omega) hr.add
    refine ⟨rs', o2', h, ?_⟩
    rw [List.range'_succ]
    exact (forL_nxt rfl (fsA_step d g j (by omega) (by omega) hr o2 μ)).trans e
theorem toDs_iv (l : List Nat) : MV.toDs (iv l) = some ((l.map fun (k : Nat) => (k : Int)).map .int) := by rw [iv_ints]; exact toDs_ints _
theorem toDs_rvs : ∀ rs : List (List Nat), MV.toDs (rvs rs) = some (rs.map fun r => .tuple ((r.map fun (k : Nat) => (k : Int)).map .int))
  | [] => rfl
  | r :: rs => by
    have ih := toDs_rvs rs
    simp only [rvs] at ih
    simp only [rvs, List.map_cons, MV.toDs, MV.toD, toDs_iv, ih, Option.map_some, Option.bind_some]
theorem alike_ints : ∀ xs ys : List Int, W.alikeAll (xs.map .int) (ys.map .int) = true
  | [], [] => by simp [W.alikeAll]
  | [], _ :: _ => by simp [W.alikeAll]
  | _ :: _, [] => by simp [W.alikeAll]
  | x :: xs, y :: ys => by simp [W.alikeAll, W.alike, alike_ints xs ys]
theorem srt_rvs {rs : List (List Nat)} (h : rs.head? = some []) (hl : rs.length ≤ 1000) : srtOk (rvs rs) = true ∧ ∃ rs' : List (List Nat), rs'.Perm rs ∧ srt (rvs rs) = rvs rs' := by
  constructor
  · unfold srtOk
    rw [toDs_rvs]
    have h1 : (rvs rs).length ≤ most := by simp [most, rvs]; omega
    simp only [h1, decide_true, Bool.true_and, Bool.and_eq_true]
    constructor
    · simp only [List.all_eq_true, List.mem_map]
      rintro d ⟨r, _, rfl⟩
      have h2 := depth_ints (r.map fun (k : Nat) => (k : Int))
      have h3 : PyData.depth (.tuple ((r.map fun (k : Nat) => (k : Int)).map .int)) ≤ 50 := by simp only [PyData.depth]; omega
      simp only [h3, decide_true, noNone, Bool.true_and, List.all_eq_true, List.mem_map]
      rintro e ⟨r', _, rfl⟩
      simp only [W.alike]
      exact alike_ints _ _
    · unfold srtK
      simp only [Bool.or_eq_true]
      right
      cases rs with
      | nil => simp at h
      | cons r rs =>
        simp only [List.head?_cons, Option.some.injEq] at h
        subst h
        rfl
  · refine ⟨rs.mergeSort fun a b => !ltM (.tup (iv b)) (.tup (iv a)), List.mergeSort_perm _ _, ?_⟩
    unfold srt rvs
    exact (List.map_mergeSort (f := fun r : List Nat => MV.tup (iv r)) fun a _ b _ => rfl).symm
end MI
end
section
set_option Elab.async false
set_option linter.all false
set_option maxRecDepth 100000
set_option maxHeartbeats 4000000
set_option exponentiation.threshold 20000
namespace MI
open PySem PySem.Spec PyProof.Rows L2
/-- a forest that is found: its wires, lots and weight -/
def itv (p : Nat) (ws : List Wr) (i : List Nat × List Nat) : MV := .tup [.tup (iv i.1), plotsV i.2 p, fr (prod (rowQ ws i.1) 1)]
theorem noL_itv (p : Nat) (ws : List Wr) (i : List Nat × List Nat) : (itv p ws i).noL = true := by
  simp only [itv, MV.noL, MV.noLs, noL_ivs, noL_plots, noL_fr, Bool.and_self]
theorem noL_itvs (p : Nat) (ws : List Wr) : ∀ its : List (List Nat × List Nat), MV.noLs (its.map (itv p ws)) = true
  | [] => rfl
  | i :: its => by simp only [List.map_cons, MV.noLs, noL_itv, noL_itvs p ws its, Bool.and_self]
def ItOk (n p : Nat) (ws : List Wr) (its : List (List Nat × List Nat)) : Prop := ∀ i ∈ its, (∀ k ∈ i.1, k < ws.length) ∧ i.1.Pairwise (· < ·) ∧ i.1.length ≤ 40 ∧ flead n p ws i.1 = some i.2
theorem fsB_step (d : Nat) {n p : Nat} {ws : List Wr} (g : Good n p ws) (r : List Nat) (hr : ∀ k ∈ r, k < ws.length) (hp : r.Pairwise (· < ·)) (hl : r.length ≤ 40) (its : List (List Nat × List Nat)) (hi : ItOk n p ws its) (hil : its.length ≤ 1000) (o1 o2 o4 o5 : Option MV) (μ : Mem) :
    ∃ (its' : List (List Nat × List Nat)) (o5' : Option MV), ItOk n p ws its' ∧ its'.length ≤ its.length + 1 ∧ stp (wdAt subT fldT none prT (d + 3) none) (.nm 4) fsB (.tup (iv r)) [some (nv n p ws), o1, o2, some (.loc μ.length), o4, o5, none] (F' μ (its.map (itv p ws))) = some (.nxt [some (nv n p ws), o1, o2, some (.loc μ.length), some (.tup (iv r)), o5', none], F' μ (its'.map (itv p ws))) := by
  have hp8 := g.hp8
  have e1 := r_lflead (d + 1) g hr (by omega) (F' μ (its.map (itv p ws)))
  have e2 := gc_same (μ := F' μ (its.map (itv p ws))) (noL_oL (flead n p ws r))
  cases h : flead n p ws r with
  | none =>
    rw [h] at e1 e2
    simp only [oL] at e1 e2
    refine ⟨its, some .non, hi, by omega, ?_⟩
    generalize F' μ (its.map (itv p ws)) = ν at *
    simp only [stp, fsB]
    simp (implicitDefEqProofs := false) [execs, exec, ev, evs, evIt, asg, asgs, asgK, evCmp, ltD_int, outc, most, evBin, bopI, isCls, isCl, blO, intO, dat_int, eqv_int, gc_int, gc_bl, gc_fr, fx0, fx1, fsB0, fsB1, e1, e2]
  | some l =>
    rw [h] at e1 e2
    simp only [oL] at e1 e2
    have hlen := flead_len h
    have b1 := r_plots (d + 2) n p ws l (by rw [hlen]; exact g.hp) (by omega) (F' μ (its.map (itv p ws)))
    have b2 := gc_Fv (F' μ (its.map (itv p ws))) ((plotsL l p).map fun k => .tup (iv (lotL l p k))) (noL_plots l p)
    have b3 := q_ev (wdAt subT fldT none prT (d + 3) none) 0 4 [some (nv n p ws), o1, o2, some (.loc μ.length), some (.tup (iv r)), some (.lv (iv l)), none] n p ws r 2 2 (by decide) rfl rfl (by simp) hr (by omega) (F' μ (its.map (itv p ws)))
    have b4 := r_ltimes d (rowQ ws r) (F' μ (its.map (itv p ws))) (rowQ_bd g r) (by simp only [rowQ, List.length_map]; omega)
    have b5 := F_ls μ (its.map (itv p ws))
    have b6 := F_app μ (its.map (itv p ws)) (itv p ws (r, l)) (by simp [most]; omega)
    refine ⟨its ++ [(r, l)], some (.lv (iv l)), ?_, by simp, ?_⟩
    · intro i hi'
      rcases List.mem_append.mp hi' with h' | h'
      · exact hi i h'
      · simp only [List.mem_singleton] at h'; subst h'
        exact ⟨hr, hp, hl, h⟩
    · have e3 : F' μ ((its ++ [(r, l)]).map (itv p ws)) = F' μ (its.map (itv p ws) ++ [itv p ws (r, l)]) := by simp
      rw [e3]
      simp only [itv] at b6 ⊢
      generalize F' μ (_ ++ _) = ν2 at *
      generalize F' μ _ = ν at *
      unfold fsB
      rw [show stp (wdAt subT fldT none prT (d + 3) none) (.nm 4) (.cons fsB0 (.cons fsB1 .nil)) (.tup (iv r)) [some (nv n p ws), o1, o2, some (.loc μ.length), o4, o5, none] ν = execs (wdAt subT fldT none prT (d + 3) none) (.cons fsB0 (.cons fsB1 .nil)) [some (nv n p ws), o1, o2, some (.loc μ.length), some (.tup (iv r)), o5, none] ν by simp only [stp]; simp [asg]]
      have s0 : exec (wdAt subT fldT none prT (d + 3) none) fsB0 [some (nv n p ws), o1, o2, some (.loc μ.length), some (.tup (iv r)), o5, none] ν = some (.nxt [some (nv n p ws), o1, o2, some (.loc μ.length), some (.tup (iv r)), some (.lv (iv l)), none], ν) := by simp (implicitDefEqProofs := false) [execs, exec, ev, evs, evIt, asg, asgs, asgK, evCmp, ltD_int, outc, most, evBin, bopI, isCls, isCl, blO, intO, dat_int, eqv_int, gc_int, gc_bl, gc_fr, fx0, fx1, fsB0, e1, e2]
      rw [execs, s0, seqK_nxt]
      unfold fsB1
      generalize (E.lcm [2] _ _ _ _) = X at b3 ⊢
      generalize plotsV l p = pl at *
      simp (implicitDefEqProofs := false) [execs, exec, ev, evs, evIt, asg, asgs, asgK, evCmp, ltD_int, outc, most, evBin, bopI, isCls, isCl, blO, intO, dat_int, eqv_int, gc_int, gc_bl, gc_fr, fx0, fx1, b1, b2, b3, b4, b5, b6]
theorem fsB_for (d : Nat) {n p : Nat} {ws : List Wr} (g : Good n p ws) (o1 o2 : Option MV) (μ : Mem) : ∀ (rs : List (List Nat)) (its : List (List Nat × List Nat)) (o4 o5 : Option MV), (∀ r ∈ rs, (∀ k ∈ r, k < ws.length) ∧ r.Pairwise (· < ·) ∧ r.length ≤ 40) → ItOk n p ws its → its.length + rs.length ≤ 1000 →
    ∃ (its' : List (List Nat × List Nat)) (o4' o5' : Option MV), ItOk n p ws its' ∧ its'.length ≤ its.length + rs.length ∧ forL [] (stp (wdAt subT fldT none prT (d + 3) none) (.nm 4) fsB) (rvs rs) [some (nv n p ws), o1, o2, some (.loc μ.length), o4, o5, none] (F' μ (its.map (itv p ws))) = some (.nxt [some (nv n p ws), o1, o2, some (.loc μ.length), o4', o5', none], F' μ (its'.map (itv p ws)))
  | [], its, o4, o5, _, hi, _ => ⟨its, o4, o5, hi, by simp, forL_nil rfl⟩
  | r :: rs, its, o4, o5, hr, hi, hl => by
    simp only [List.length_cons] at hl
    obtain ⟨a, b, c⟩ := hr r List.mem_cons_self
    obtain ⟨its1, p5, h1, h2, e1⟩ := fsB_step d g r a b c its hi (by omega) o1 o2 o4 o5 μ
    obtain ⟨its2, q4, q5, k1, k2, e2⟩ := fsB_for d g o1 o2 μ rs its1 (some (.tup (iv r))) p5 (fun r hr' => hr r (List.mem_cons_of_mem _ hr')) h1 (by omega)
    exact ⟨its2, q4, q5, k1, by simp only [List.length_cons]; omega, (forL_nxt rfl e1).trans e2⟩
theorem gc_its {μ : Mem} {xs : List MV} (h : MV.noLs xs = true) : gc (List.length μ) μ (some (.ok (.loc μ.length), F' μ xs)) = some (.ok (.lv xs), μ) := by
  have r : frz μ.length (F' μ xs) (.loc μ.length) = some (.lv xs) := by
    unfold frz
    rw [MV.rd]
    exact look_lst (by omega) (by simp [F']) (rds_noL h)
  simp only [gc, F_take, gcOk_self, if_true, r, Option.map_some]
theorem r_forests (d : Nat) {n p : Nat} {ws : List Wr} (g : Good n p ws) (h8 : ws.length ≤ 8) (μ : Mem) :
    ∃ its : List (List Nat × List Nat), ItOk n p ws its ∧ its.length ≤ 256 ∧ gc (List.length μ) μ (den subT fldT none prT (d + 4) none 35 [nv n p ws] μ) = some (.ok (.lv (its.map (itv p ws))), μ) := by
  rw [den_at (F := ⟨1, 7, b__law_forests⟩) rfl rfl (by decide)]
  have i2 : evIdx μ (nv n p ws) (.int 2) = some (.tup (ws.map wv)) := ix32 _ _ _ _
  obtain ⟨rs, o2, h1, f1⟩ := fsA_for (d + 2) g h8 μ ws.length 0 [[]] none (by omega) ⟨rfl, by simp, fun r hr => by simp only [List.mem_singleton] at hr; subst hr; simp⟩
  have hlen : rs.length ≤ 256 := Nat.le_trans h1.len (show 2 ^ ws.length ≤ 2 ^ 8 from Nat.pow_le_pow_right (by decide) h8)
  obtain ⟨s1, rs', s2, s3⟩ := srt_rvs h1.hd (by omega)
  obtain ⟨its, o4, o5, k1, k2, f3⟩ := fsB_for d g (some (.lv (rvs rs))) o2 μ rs' [] none none (fun r hr => by
    obtain ⟨a, b, c⟩ := h1.ok r (s2.mem_iff.mp hr)
    exact ⟨a, b, by omega⟩) (by simp [ItOk]) (by rw [s2.length_eq]; simp; omega)
  refine ⟨its, k1, by rw [s2.length_eq] at k2; simp at k2; omega, ?_⟩
  have e0 : exec (wdAt subT fldT none prT (d + 3) none) fs0 [some (nv n p ws), none, none, none, none, none, none] μ = some (.nxt [some (nv n p ws), some (.lv (rvs [[]])), none, none, none, none, none], μ) := by simp (implicitDefEqProofs := false) [execs, exec, ev, evs, evIt, asg, asgs, asgK, evCmp, ltD_int, outc, most, evBin, bopI, isCls, isCl, blO, intO, dat_int, eqv_int, gc_int, gc_bl, gc_fr, fx0, fx1, fs0, rvs, iv]
  have e1 : exec (wdAt subT fldT none prT (d + 3) none) fs1 [some (nv n p ws), some (.lv (rvs [[]])), none, none, none, none, none] μ = _ := (fr_ev (g := .nm 2) (b := fsA) (show evIt (wdAt subT fldT none prT (d + 3) none) (.rng (.cons (.blt .len (.cons (.idx (.var 0) (.con (.int 2))) .nil)) .nil)) [some (nv n p ws), some (.lv (rvs [[]])), none, none, none, none, none] μ = some (.ok (iv (List.range' 0 ws.length), []), μ) by
    have hr := rng_iv (show ws.length ≤ 1000 by omega)
    rw [List.range_eq_range'] at hr
    generalize iv (List.range' 0 ws.length) = r at *
    simp (implicitDefEqProofs := false) [execs, exec, ev, evs, evIt, asg, asgs, asgK, evCmp, ltD_int, outc, most, evBin, bopI, isCls, isCl, blO, intO, dat_int, eqv_int, gc_int, gc_bl, gc_fr, fx0, fx1, i2, len_tv, hr])).trans f1
  have e2 : exec (wdAt subT fldT none prT (d + 3) none) fs2 [some (nv n p ws), some (.lv (rvs rs)), o2, none, none, none, none] μ = some (.nxt [some (nv n p ws), some (.lv (rvs rs)), o2, some (.loc μ.length), none, none, none], F' μ []) := by simp (implicitDefEqProofs := false) [execs, exec, ev, evs, evIt, asg, asgs, asgK, evCmp, ltD_int, outc, most, evBin, bopI, isCls, isCl, blO, intO, dat_int, eqv_int, gc_int, gc_bl, gc_fr, fx0, fx1, fs2, F']
  have e3 : exec (wdAt subT fldT none prT (d + 3) none) fs3 [some (nv n p ws), some (.lv (rvs rs)), o2, some (.loc μ.length), none, none, none] (F' μ []) = _ := (fr_ev (g := .nm 4) (b := fsB) (show evIt (wdAt subT fldT none prT (d + 3) none) (.seq (.blt .srt1 (.cons (.var 1) .nil))) [some (nv n p ws), some (.lv (rvs rs)), o2, some (.loc μ.length), none, none, none] (F' μ []) = some (.ok (rvs rs', []), F' μ []) by
    have hb : evBi (F' μ []) .srt1 [.lv (rvs rs)] = some (.lv (rvs rs')) := by
      have hd : dcOf (F' μ []) (.lv (rvs rs)) = none := rfl
      have hs : sqOf (F' μ []) (.lv (rvs rs)) = some (rvs rs) := rfl
      simp only [evBi, hd, hs, Option.bind_some, s1, if_true, s3]
    generalize rvs rs' = A at *
    generalize rvs rs = B at *
    simp (implicitDefEqProofs := false) [execs, exec, ev, evs, evIt, asg, asgs, asgK, evCmp, ltD_int, outc, most, evBin, bopI, isCls, isCl, blO, intO, dat_int, eqv_int, gc_int, gc_bl, gc_fr, fx0, fx1, hb, sqOf, gdOf])).trans f3
  have e4 : exec (wdAt subT fldT none prT (d + 3) none) fs4 [some (nv n p ws), some (.lv (rvs rs)), o2, some (.loc μ.length), o4, o5, none] (F' μ (its.map (itv p ws))) = some (.ret (.loc μ.length), F' μ (its.map (itv p ws))) := by simp (implicitDefEqProofs := false) [execs, exec, ev, evs, evIt, asg, asgs, asgK, evCmp, ltD_int, outc, most, evBin, bopI, isCls, isCl, blO, intO, dat_int, eqv_int, gc_int, gc_bl, gc_fr, fx0, fx1, fs4]
  show gc _ _ (outc (execs (wdAt subT fldT none prT (d + 3) none) b__law_forests [some (nv n p ws), none, none, none, none, none, none] μ)) = _
  rw [fs_body]
  unfold fs
  rw [execs, e0, seqK_nxt, execs, e1, seqK_nxt, execs, e2, seqK_nxt, execs, e3, seqK_nxt, execs, e4, seqK_ret]
  exact gc_its (noL_itvs p ws its)
end MI
end
section
set_option Elab.async false
set_option linter.all false
set_option maxRecDepth 100000
set_option maxHeartbeats 4000000
set_option exponentiation.threshold 20000
namespace MI
open PySem PySem.Spec PyProof.Rows L2
theorem toDs_mem {n : Nat} (ih : ∀ v, Pl n v → ∃ d, v.toD = some d ∧ d.canLay0 = true ∧ d.depth ≤ n + 2 ∧ v.noL = true) : ∀ xs : List MV, (∀ x ∈ xs, Pl n x) → ∃ ds, MV.toDs xs = some ds ∧ PyData.canLayAll0 ds = true ∧ PyData.depthAll ds ≤ n + 2 ∧ ds.length = xs.length ∧ MV.noLs xs = true
  | [], _ => ⟨[], rfl, rfl, by simp [PyData.depthAll], rfl, rfl⟩
  | x :: xs, h => by
    obtain ⟨d, a1, a2, a3, a4⟩ := ih x (h x List.mem_cons_self)
    obtain ⟨ds, b1, b2, b3, b4, b5⟩ := toDs_mem ih xs fun y hy => h y (List.mem_cons_of_mem _ hy)
    refine ⟨d :: ds, by simp only [MV.toDs, a1, b1, Option.bind_some, Option.map_some], by simp only [PyData.canLayAll0, a2, b2, Bool.and_self], by simp only [PyData.depthAll]; omega, by simp [b4], by simp only [MV.noLs, a4, b5, Bool.and_self]⟩
theorem toD_pl : ∀ (n : Nat) (v : MV), Pl n v → ∃ d, v.toD = some d ∧ d.canLay0 = true ∧ d.depth ≤ n + 2 ∧ v.noL = true
  | n, .non, _ => ⟨.none, rfl, rfl, by simp [PyData.depth], rfl⟩
  | n, .bl b, _ => ⟨.bool b, rfl, rfl, by simp [PyData.depth], rfl⟩
  | n, .int i, _ => ⟨.int i, rfl, rfl, by simp [PyData.depth], rfl⟩
  | n, .str s, h => ⟨.str s, rfl, by cases n <;> exact h, by simp [PyData.depth], rfl⟩
  | 0, .tup xs, h => h.elim
  | 0, .lv xs, h => h.elim
  | n + 1, .tup xs, h => by
    obtain ⟨ds, b1, b2, b3, b4, b5⟩ := toDs_mem (toD_pl n) xs h.2
    exact ⟨.tuple ds, by simp only [MV.toD, b1, Option.map_some], by simp only [PyData.canLay0, b2], by simp only [PyData.depth]; omega, by simp only [MV.noL, b5]⟩
  | n + 1, .lv xs, h => by
    obtain ⟨ds, b1, b2, b3, b4, b5⟩ := toDs_mem (toD_pl n) xs h.2
    exact ⟨.list ds, by simp only [MV.toD, b1, Option.map_some], by simp only [PyData.canLay0, b2], by simp only [PyData.depth]; omega, by simp only [MV.noL, b5]⟩
  | n, .loc _, h => by cases n <;> exact h.elim
  | n, .exo _ _, h => by cases n <;> exact h.elim
  | n, .thk _, h => by cases n <;> exact h.elim
  | n, .fl _, h => by cases n <;> exact h.elim
theorem dat_pl {n : Nat} {v : MV} (h : Pl n v) (hn : n ≤ 50) (μ : Mem) : ∃ d, v.toD = some d ∧ dat μ v = some d := by
  obtain ⟨d, a1, a2, a3, a4⟩ := toD_pl n v h
  have h3 : d.depth ≤ 64 := by omega
  refine ⟨d, a1, ?_⟩
  simp only [dat, frz, rd_noL a4, Option.bind_some, a1, SeqAt.shaped, a2, h3, decide_true, Bool.and_self, if_true]
/-- some things are not none -/
theorem ne_nil {n : Nat} {xs : List MV} (h : Pl n (.lv xs)) (hn : n ≤ 50) (μ : Mem) : ∃ d, dat μ (.lv xs) = some d ∧ PyData.eqv d (.list []) = decide (xs = []) := by
  obtain ⟨d, a1, a2⟩ := dat_pl h hn μ
  refine ⟨d, a2, ?_⟩
  cases xs with
  | nil => simp [MV.toD, MV.toDs] at a1; subst a1; simp [PyData.eqv, PyData.eqvAll]
  | cons x xs =>
    simp only [MV.toD, MV.toDs] at a1
    cases hx : x.toD with
    | none => simp [hx] at a1
    | some y =>
      cases hxs : MV.toDs xs with
      | none => simp [hx, hxs] at a1
      | some ys =>
        simp [hx, hxs] at a1
        subst a1
        simp [PyData.eqv, PyData.eqvAll]
theorem Pl_itv {n p : Nat} {ws : List Wr} {i : List Nat × List Nat} (h : i.1.length ≤ 1000) (hp : p ≤ 60) : Pl 3 (itv p ws i) := ⟨by simp, fun x hx => by
  simp at hx
  rcases hx with rfl | rfl | rfl
  · exact Pl_up (Pl_iv _ h)
  · exact Pl_plots _ _ hp
  · exact Pl_up (Pl_fr _)⟩
theorem Pl_itvs {n p : Nat} {ws : List Wr} {its : List (List Nat × List Nat)} (hi : ItOk n p ws its) (hl : its.length ≤ 1000) (hp : p ≤ 60) : Pl 4 (.lv (its.map (itv p ws))) := ⟨by simpa using hl, fun x hx => by
  obtain ⟨i, hi', rfl⟩ := List.mem_map.mp hx
  exact Pl_itv (n := n) (by have := (hi i hi').2.2.1; omega) hp⟩
/-- one of some -/
theorem r_of (d : Nat) {cs : List Int} (hc : cs.length = 64) {s : Nat} (hs : s < 2 ^ 38) (gs : List Int) (xs : List MV) (h0 : xs ≠ []) (hl : xs.length ≤ 1000) (hn : MV.noLs xs = true) :
    ∃ (k : Nat) (hk : k < xs.length) (gs' : List Int), gc (List.length (M cs s gs [])) (M cs s gs []) (den subT fldT none prT (d + 3) none 23 [.loc 0, .lv xs] (M cs s gs [])) = some (.ok xs[k], M cs (s + 1) gs' []) := by
  have h1 : 0 < xs.length := List.length_pos_iff.mpr h0
  rw [den_at (F := ⟨2, 2, b__law_of⟩) rfl rfl (by decide)]
  obtain ⟨v, g1, p1, q1, e1⟩ := g_draw d (xs.length : Int) (by omega) (Nat.lt_of_le_of_lt (show ((xs.length : Int)).natAbs ≤ 2 ^ 10 by omega) (Nat.pow_lt_pow_right (by decide) (by decide))) hc (show s < 2 ^ 40 by omega) gs []
  obtain ⟨k, rfl⟩ : ∃ k : Nat, v = (k : Int) := ⟨v.toNat, by omega⟩
  have hk : k < xs.length := by omega
  refine ⟨k, hk, g1, ?_⟩
  have hx : xs[k].noL = true := by
    have : ∀ (ys : List MV), MV.noLs ys = true → ∀ y ∈ ys, y.noL = true := by
      intro ys
      induction ys with
      | nil => intro _ y hy; cases hy
      | cons z zs ih =>
        intro h y hy
        simp only [MV.noLs, Bool.and_eq_true] at h
        rcases List.mem_cons.mp hy with rfl | hy
        · exact h.1
        · exact ih h.2 y hy
    exact this xs hn _ (List.getElem_mem hk)
  have g2 := gc_M cs s gs [] xs[k] hx (s + 1) g1
  have i1 := ixl_nat (M cs (s + 1) g1 []) hk
  have l1 := len_lv (M cs s gs []) xs
  rw [← g2]
  congr 1
  generalize xs[k] = y at *
  simp (implicitDefEqProofs := false) [execs, exec, ev, evs, evIt, asg, asgs, asgK, evCmp, ltD_int, outc, most, evBin, bopI, isCls, isCl, blO, intO, dat_int, eqv_int, gc_int, gc_bl, gc_fr, fx0, fx1, b__law_of, e1, i1, l1]
def td0 : S := (.asg (.nm 1) (.app false 31 (.cons (.var 0) (.cons (.bin .add (.con (.int 1)) (.app false 21 (.cons (.var 0) (.cons (.con (.int 5)) .nil)) [])) (.cons (.con (.int 1)) (.cons (.con (.int 6)) .nil)))) []))
def td1 : S := (.asg (.nm 2) (.app false 35 (.cons (.tup (.cons (.idx (.var 1) (.con (.int 0))) (.cons (.idx (.var 1) (.con (.int 1))) (.cons (.slc (.idx (.var 1) (.con (.int 2))) false (.con .non) true (.con (.int 8))) .nil)))) .nil) []))
def td2 : S := (.ite (.cmp .eq (.var 2) (.lst .nil)) (.cons (.ret (.con (.bl true))) .nil) .nil)
def td3 : S := (.asg (.tp (.cons (.nm 3) (.cons (.nm 4) (.cons (.nm 5) .nil)))) (.app false 23 (.cons (.var 0) (.cons (.var 2) .nil)) []))
def td4 : S := (.ret (.app false 24 (.cons (.lst (.cons (.app false 16 (.cons (.var 1) (.cons (.var 3) .nil)) []) (.cons (.app false 17 (.cons (.var 1) (.cons (.var 3) .nil)) []) (.cons (.app false 18 (.cons (.var 1) (.cons (.var 3) .nil)) []) .nil)))) (.cons (.lst (.cons (.con (.bl true)) (.cons (.var 4) (.cons (.var 5) .nil)))) .nil)) []))
def td : SS := (.cons td0 (.cons td1 (.cons td2 (.cons td3 (.cons td4 .nil)))))
theorem td_body : b__law_told_right = td := rfl
theorem r_told {cs : List Int} (hc : cs.length = 64) {s : Nat} (hs : s < 2 ^ 35) (gs : List Int) :
    ∃ (s' : Nat) (gs' : List Int), s' ≤ s + 2000 ∧ gc (List.length (M cs s gs [])) (M cs s gs []) (den subT fldT none prT 14 none 39 [.loc 0] (M cs s gs [])) = some (.ok (.bl true), M cs s' gs' []) := by
  suffices hh : ∃ (s' : Nat) (gs' : List Int), s' ≤ s + 2000 ∧ den subT fldT none prT 14 none 39 [.loc 0] (M cs s gs []) = some (.ok (.bl true), M cs s' gs' []) by
    obtain ⟨s', gs', h, e⟩ := hh
    refine ⟨s', gs', h, ?_⟩
    rw [e]
    exact gc_M cs s gs [] (.bl true) rfl s' gs'
  rw [den_at (F := ⟨1, 6, b__law_told_right⟩) rfl rfl (by decide)]
  show ∃ (s' : Nat) (gs' : List Int), s' ≤ s + 2000 ∧ outc (execs W13 b__law_told_right [some (.loc 0), none, none, none, none, none] (M cs s gs [])) = _
  rw [td_body]
  obtain ⟨v1, g1, p1, q1, z1⟩ := g_draw 11 5 (by decide) (by decide) hc (show s < 2 ^ 40 by omega) gs []
  obtain ⟨n0, rfl⟩ : ∃ k : Nat, v1 = (k : Int) := ⟨v1.toNat, by omega⟩
  obtain ⟨ws, s1, g2, g, k2, k3, e1⟩ := r_held 9 hc (show s + 1 < 2 ^ 37 by omega) g1 (n := 1 + n0) (p := 1) (w := 6) (by omega) (by omega) (by omega) (by omega) (by omega) (by omega)
  have hn0 : ((1 + n0 : Nat) : Int) = 1 + (n0 : Int) := by omega
  have f0 : exec W13 td0 [some (.loc 0), none, none, none, none, none] (M cs s gs []) = some (.nxt [some (.loc 0), some (nv (1 + n0) 1 ws), none, none, none, none], M cs s1 g2 []) := by
    rw [hn0] at e1
    generalize nv (1 + n0) 1 ws = N at *
    have e1 : gc (List.length (M cs (s + 1) g1 [])) (M cs (s + 1) g1 []) (den subT fldT none prT (9 + 4) none 31 [.loc 0, .int (1 + n0), .int 1, .int 6] (M cs (s + 1) g1 [])) = _ := e1
    simp (implicitDefEqProofs := false) [execs, exec, ev, evs, evIt, asg, asgs, asgK, evCmp, ltD_int, outc, most, evBin, bopI, isCls, isCl, blO, intO, dat_int, eqv_int, gc_int, gc_bl, gc_fr, fx0, fx1, td0, z1, e1]
  obtain ⟨its, j1, j2, e2⟩ := r_forests 9 g (by omega) (M cs s1 g2 [])
  have f1 : exec W13 td1 [some (.loc 0), some (nv (1 + n0) 1 ws), none, none, none, none] (M cs s1 g2 []) = some (.nxt [some (.loc 0), some (nv (1 + n0) 1 ws), some (.lv (its.map (itv 1 ws))), none, none, none], M cs s1 g2 []) := by
    have i0 : ∀ μ, evIdx μ (nv (1 + n0) 1 ws) (.int 0) = some (.int (1 + n0 : Nat)) := fun μ => ix30 _ _ _ _
    have i1 : ∀ μ, evIdx μ (nv (1 + n0) 1 ws) (.int 1) = some (.int (1 : Nat)) := fun μ => ix31 _ _ _ _
    have i2 : ∀ μ, evIdx μ (nv (1 + n0) 1 ws) (.int 2) = some (.tup (ws.map wv)) := fun μ => ix32 _ _ _ _
    have i3 : ∀ μ, evSlc μ (.tup (ws.map wv)) none (some 8) = some (.tup (ws.map wv)) := fun μ => slc_all μ (xs := ws.map wv) (k := 8) (by simp; omega)
    have e3 : gc (List.length (M cs s1 g2 [])) (M cs s1 g2 []) (den subT fldT none prT (9 + 4) none 35 [.tup [.int (1 + n0 : Nat), .int (1 : Nat), .tup (ws.map wv)]] (M cs s1 g2 [])) = _ := e2
    generalize nv (1 + n0) 1 ws = N at *
    generalize ((1 + n0 : Nat) : Int) = nn at *
    generalize ((1 : Nat) : Int) = pp at *
    generalize its.map (itv 1 ws) = I at *
    simp (implicitDefEqProofs := false) [execs, exec, ev, evs, evIt, asg, asgs, asgK, evCmp, ltD_int, outc, most, evBin, bopI, isCls, isCl, blO, intO, dat_int, eqv_int, gc_int, gc_bl, gc_fr, fx0, fx1, td1, i0, i1, i2, i3, partO, e3]
  obtain ⟨dd, d1, d2⟩ := ne_nil (Pl_itvs j1 (by omega) (by omega)) (by omega) (M cs s1 g2 [])
  by_cases hI : its = []
  · subst hI
    have f2 : exec W13 td2 [some (.loc 0), some (nv (1 + n0) 1 ws), some (.lv []), none, none, none] (M cs s1 g2 []) = some (.ret (.bl true), M cs s1 g2 []) := by simp (implicitDefEqProofs := false) [execs, exec, ev, evs, evIt, asg, asgs, asgK, evCmp, ltD_int, outc, most, evBin, bopI, isCls, isCl, blO, intO, dat_int, eqv_int, gc_int, gc_bl, gc_fr, fx0, fx1, td2, dat_nil, eqv_ll]
    refine ⟨s1, g2, by omega, ?_⟩
    unfold td
    rw [execs, f0, seqK_nxt, execs, f1, seqK_nxt, execs]
    rw [show exec W13 td2 [some (.loc 0), some (nv (1 + n0) 1 ws), some (.lv (([] : List (List Nat × List Nat)).map (itv 1 ws))), none, none, none] (M cs s1 g2 []) = _ from f2]
    rfl
  · have hd2 : PyData.eqv dd (.list []) = false := by rw [d2]; simpa using hI
    have f2 : exec W13 td2 [some (.loc 0), some (nv (1 + n0) 1 ws), some (.lv (its.map (itv 1 ws))), none, none, none] (M cs s1 g2 []) = some (.nxt [some (.loc 0), some (nv (1 + n0) 1 ws), some (.lv (its.map (itv 1 ws))), none, none, none], M cs s1 g2 []) := by
      generalize its.map (itv 1 ws) = I at *
      simp (implicitDefEqProofs := false) [execs, exec, ev, evs, evIt, asg, asgs, asgK, evCmp, ltD_int, outc, most, evBin, bopI, isCls, isCl, blO, intO, dat_int, eqv_int, gc_int, gc_bl, gc_fr, fx0, fx1, td2, dat_nil, d1, hd2]
    obtain ⟨k, hk, g3, e3⟩ := r_of 10 hc (show s1 < 2 ^ 38 by omega) g2 (its.map (itv 1 ws)) (by simpa using hI) (by simp; omega) (noL_itvs _ _ _)
    have hk' : k < its.length := by simpa using hk
    have hit := j1 its[k] (List.getElem_mem hk')
    rw [List.getElem_map] at e3
    obtain ⟨r1, r2, r3, r4⟩ := hit
    generalize hij : its[k] = ij at e3 r1 r2 r3 r4
    obtain ⟨row, l⟩ := ij
    simp only at r1 r2 r3 r4
    have f3 : exec W13 td3 [some (.loc 0), some (nv (1 + n0) 1 ws), some (.lv (its.map (itv 1 ws))), none, none, none] (M cs s1 g2 []) = some (.nxt [some (.loc 0), some (nv (1 + n0) 1 ws), some (.lv (its.map (itv 1 ws))), some (.tup (iv row)), some (plotsV l 1), some (fr (prod (rowQ ws row) 1))], M cs (s1 + 1) g3 []) := by
      simp only [itv] at e3
      generalize its.map (itv 1 ws) = I at *
      generalize plotsV l 1 = pl at *
      simp (implicitDefEqProofs := false) [execs, exec, ev, evs, evIt, asg, asgs, asgK, evCmp, ltD_int, outc, most, evBin, bopI, isCls, isCl, blO, intO, dat_int, eqv_int, gc_int, gc_bl, gc_fr, fx0, fx1, td3, e3]
    have a1 := r_isf g r1 (by omega) r2 7 (M cs (s1 + 1) g3 [])
    rw [r4] at a1
    have a2 := r_lots 6 g r1 (by omega) r2 (M cs (s1 + 1) g3 []) r4
    rw [lots_eq g r1 r4] at a2
    have a2' := gc_same (μ := M cs (s1 + 1) g3 []) (noL_plots l 1)
    have a3 := r_weight 6 g r1 (by omega) r2 (M cs (s1 + 1) g3 []) r4
    have k1 := r_like 3 (.lv [.bl true, plotsV l 1, fr (prod (rowQ ws row) 1)]) (Pl_l3 (plBo 2 _) (Pl_plots l 1 (by omega)) (Pl_up (Pl_fr _))) 12 (M cs (s1 + 1) g3 []) (by decide)
    refine ⟨s1 + 1, g3, by omega, ?_⟩
    unfold td
    rw [execs, f0, seqK_nxt, execs, f1, seqK_nxt, execs, f2, seqK_nxt, execs, f3, seqK_nxt]
    generalize plotsV l 1 = pl at *
    generalize M cs (s1 + 1) g3 [] = μ at *
    generalize nv (1 + n0) 1 ws = N at *
    simp (implicitDefEqProofs := false) [execs, exec, ev, evs, evIt, asg, asgs, asgK, evCmp, ltD_int, outc, most, evBin, bopI, isCls, isCl, blO, intO, dat_int, eqv_int, gc_int, gc_bl, gc_fr, fx0, fx1, td4, a1, a2, a2', a3, k1]
end MI
end
section
set_option Elab.async false
set_option linter.all false
set_option maxRecDepth 100000
set_option maxHeartbeats 4000000
set_option exponentiation.threshold 20000
namespace MI
open PySem PySem.Spec PyProof.Rows L2
/-- no tuple -/
def noT : MV → Bool
  | .non | .bl _ | .int _ | .str _ | .lv _ => true
  | _ => false
theorem r_rowN (d : Nat) (v l : MV) (h : noT v = true) (μ : Mem) : den subT fldT none prT (d + 1) none 1 [v, l] μ = some (.ok (.bl false), μ) := by
  rw [den_at (F := ⟨2, 2, b_is_row⟩) rfl rfl (by decide)]
  cases v <;> first | (simp [noT] at h; done) | simp (implicitDefEqProofs := false) [execs, exec, ev, evs, evIt, asg, asgs, asgK, evCmp, ltD, outc, most, evBi, evBin, bopI, dcOf, sqOf, isCls, isCl, blO, intO, dat_int, eqv_int, gc_int, gc_bl, gc_fr, fx0, fx1, b_is_row]
theorem r_wholesN (d : Nat) (v a b : MV) (h : noT v = true) (μ : Mem) : den subT fldT none prT (d + 2) none 2 [v, a, b] μ = some (.ok (.bl false), μ) := by
  rw [den_at (F := ⟨3, 4, b_are_wholes⟩) rfl rfl (by decide)]
  have e := r_rowN d v .non h μ
  simp (implicitDefEqProofs := false) [execs, exec, ev, evs, evIt, asg, asgs, asgK, evCmp, ltD, outc, most, evBi, evBin, bopI, dcOf, sqOf, isCls, isCl, blO, intO, dat_int, eqv_int, gc_int, gc_bl, gc_fr, fx0, fx1, b_are_wholes, e]
theorem r_ascN (d : Nat) (v a b : MV) (μ : Mem) (h : den subT fldT none prT (d + 2) none 2 [v, a, b] μ = some (.ok (.bl false), μ)) : den subT fldT none prT (d + 3) none 10 [v, a, b] μ = some (.ok (.bl false), μ) := by
  rw [den_at (F := ⟨3, 5, b_is_ascending⟩) rfl rfl (by decide)]
  simp (implicitDefEqProofs := false) [execs, exec, ev, evs, evIt, asg, asgs, asgK, evCmp, ltD, outc, most, evBi, evBin, bopI, dcOf, sqOf, isCls, isCl, blO, intO, dat_int, eqv_int, gc_int, gc_bl, gc_fr, fx0, fx1, b_is_ascending, h]
/-- odd rows -/
def oddL : List MV := [.non, .lv [.int 0], .tup [.int 0, .int 0], .tup [.int 1, .int 0], .tup [.int 3], .tup [.int (-1)], .tup [.bl true], .tup [.int 0, .non], .str "0", .int 1]
theorem gc_bt (μ : Mem) : gc (List.length μ) μ (some (.ok (.bl true), μ)) = some (.ok (.bl true), μ) := gc_bl μ true
theorem r_wholeO (d : Nat) (v a b : MV) (h : v = .bl true ∨ v = .non) (μ : Mem) : den subT fldT none prT (d + 1) none 0 [v, a, b] μ = some (.ok (.bl false), μ) := by
  rw [den_at (F := ⟨3, 3, b_is_whole⟩) rfl rfl (by decide)]
  rcases h with rfl | rfl <;> simp (implicitDefEqProofs := false) [execs, exec, ev, evs, evIt, asg, asgs, asgK, evCmp, ltD, outc, most, evBi, evBin, bopI, dcOf, sqOf, isCls, isCl, blO, intO, dat_int, eqv_int, gc_int, gc_bl, gc_fr, fx0, fx1, b_is_whole]
theorem all_lv (μ : Mem) (b : Bool) : evBi μ .all1 [.lv [.bl b]] = some (.bl b) := by have := all_bl μ [b]; simpa using this
theorem all_lv2 (μ : Mem) (a b : Bool) : evBi μ .all1 [.lv [.bl a, .bl b]] = some (.bl (a && b)) := by have := all_bl μ [a, b]; simpa using this
theorem asc_dec (d : Nat) (a b : Nat) (μ : Mem) (ha : a ≤ 2) (hb : b ≤ 2) (h : b ≤ a) : den subT fldT none prT (d + 3) none 10 [.tup [.int a, .int b], .int 0, .int 2] μ = some (.ok (.bl false), μ) := by
  rw [den_at (F := ⟨3, 5, b_is_ascending⟩) rfl rfl (by decide)]
  have e := r_wholes d [a, b] 2 μ (by simp)
  have h1 : ([a, b].all fun k => decide ((k : Int) ≤ 2)) = true := by simp; omega
  rw [h1] at e
  have e : den subT fldT none prT (d + 2) none 2 [.tup [.int a, .int b], .int 0, .int 2] μ = _ := e
  have h2 : ¬ ((a : Int) < b) := by omega
  have h3 : evSlc μ (.tup [.int (a : Nat), .int (b : Nat)]) (some 1) none = some (.tup [.int (b : Nat)]) := slc_tl μ [.int a, .int b]
  have h4 := all_lv μ false
  simp (implicitDefEqProofs := false) [execs, exec, ev, evs, evIt, asg, asgs, asgK, evCmp, ltD_int, outc, most, evBin, bopI, isCls, isCl, blO, intO, dat_int, eqv_int, gc_int, gc_bl, gc_fr, fx0, fx1, b_is_ascending, e, h3, partO, lcmL, gdOk, wipe, h2, h4]
theorem r_odd (d : Nat) (o : MV) (ho : o ∈ oddL) (μ : Mem) : den subT fldT none prT (d + 3) none 10 [o, .int 0, .int 2] μ = some (.ok (.bl false), μ) := by
  simp only [oddL, List.mem_cons, List.not_mem_nil, or_false] at ho
  rcases ho with rfl | rfl | rfl | rfl | rfl | rfl | rfl | rfl | rfl | rfl
  · exact r_ascN d _ _ _ μ (r_wholesN d _ _ _ rfl μ)
  · exact r_ascN d _ _ _ μ (r_wholesN d _ _ _ rfl μ)
  · exact asc_dec d 0 0 μ (by omega) (by omega) (by omega)
  · exact asc_dec d 1 0 μ (by omega) (by omega) (by omega)
  · exact r_ascN d _ _ _ μ (r_wholes d [3] 2 μ (by simp))
  · refine r_ascN d _ _ _ μ ?_
    rw [den_at (F := ⟨3, 4, b_are_wholes⟩) rfl rfl (by decide)]
    have e1 := r_row0 d [.int (-1)] μ
    have e2 := r_whole2 d (-1) 0 2 μ
    have e3 : (decide ((0 : Int) ≤ -1) && decide ((-1 : Int) ≤ 2)) = false := by decide
    rw [e3] at e2
    have h4 := all_lv μ false
    simp (implicitDefEqProofs := false) [execs, exec, ev, evs, evIt, asg, asgs, asgK, evCmp, ltD_int, outc, most, evBin, bopI, isCls, isCl, blO, intO, dat_int, eqv_int, gc_int, gc_bl, gc_fr, fx0, fx1, b_are_wholes, e1, e2, sqOf, gdOf, lcmL, gdOk, wipe, h4]
  · refine r_ascN d _ _ _ μ ?_
    rw [den_at (F := ⟨3, 4, b_are_wholes⟩) rfl rfl (by decide)]
    have e1 := r_row0 d [.bl true] μ
    have e2 := r_wholeO d (.bl true) (.int 0) (.int 2) (.inl rfl) μ
    have h4 := all_lv μ false
    simp (implicitDefEqProofs := false) [execs, exec, ev, evs, evIt, asg, asgs, asgK, evCmp, ltD_int, outc, most, evBin, bopI, isCls, isCl, blO, intO, dat_int, eqv_int, gc_int, gc_bl, gc_fr, fx0, fx1, b_are_wholes, e1, e2, sqOf, gdOf, lcmL, gdOk, wipe, h4]
  · refine r_ascN d _ _ _ μ ?_
    rw [den_at (F := ⟨3, 4, b_are_wholes⟩) rfl rfl (by decide)]
    have e1 := r_row0 d [.int 0, .non] μ
    have e2 := r_wholeO d .non (.int 0) (.int 2) (.inr rfl) μ
    have e3 := r_whole2 d 0 0 2 μ
    have e4 : (decide ((0 : Int) ≤ 0) && decide ((0 : Int) ≤ 2)) = true := by decide
    rw [e4] at e3
    have h4 := all_lv2 μ true false
    simp (implicitDefEqProofs := false) [execs, exec, ev, evs, evIt, asg, asgs, asgK, evCmp, ltD_int, outc, most, evBin, bopI, isCls, isCl, blO, intO, dat_int, eqv_int, gc_int, gc_bl, gc_fr, fx0, fx1, b_are_wholes, e1, e2, e3, sqOf, gdOf, lcmL, gdOk, wipe, h4]
  · exact r_ascN d _ _ _ μ (r_wholesN d _ _ _ rfl μ)
  · exact r_ascN d _ _ _ μ (r_wholesN d _ _ _ rfl μ)
theorem r_needO (d : Nat) (n p : Nat) (ws : List Wr) (h3 : ws.length = 3) (o : MV) (ho : o ∈ oddL) (μ : Mem) : den subT fldT none prT (d + 4) none 11 [nv n p ws, o] μ = some (.error (3, o), μ) := by
  rw [den_at (F := ⟨2, 2, b_need_wires⟩) rfl rfl (by decide)]
  have r0 := r_odd d o ho μ
  have i2 : evIdx μ (nv n p ws) (.int 2) = some (.tup (ws.map wv)) := ix32 _ _ _ _
  have i3 := len_tv μ (ws.map wv)
  rw [List.length_map, h3] at i3
  have i3 : evBi μ .len [.tup (ws.map wv)] = some (.int 3) := i3
  generalize ws.map wv = W at *
  simp (implicitDefEqProofs := false) [execs, exec, ev, evs, evIt, asg, asgs, asgK, evCmp, ltD_int, outc, most, evBin, bopI, isCls, isCl, blO, intO, dat_int, eqv_int, gc_int, gc_bl, gc_fr, fx0, fx1, b_need_wires, r0, i2, i3]
end MI
end
section
set_option Elab.async false
set_option linter.all false
set_option maxRecDepth 100000
set_option maxHeartbeats 4000000
set_option exponentiation.threshold 20000
namespace MI
open PySem PySem.Spec PyProof.Rows L2
def bad1 : MV := .tup [.int 1, .int 2, .tup []]
def bad2 : MV := .tup [.int 2, .int 1, .tup [.tup [.int 0, .int 1, .tup [.int 2, .int 2]]]]
def bad3 : MV := .tup [.int 2, .int 1, .lv [.tup [.int 0, .int 1, .tup [.int 1, .int 1]]]]
theorem str_form : (PyData.str "form").canLay0 = true := by decide +kernel
theorem str_ports : (PyData.str "ports").canLay0 = true := by decide +kernel
theorem str_0 : (PyData.str "0").canLay0 = true := by decide +kernel
theorem str_net : (PyData.str "net").canLay0 = true := by decide +kernel
theorem str_number : (PyData.str "number").canLay0 = true := by decide +kernel
theorem r_need_bad (d : Nat) (b f : MV) (μ : Mem) (hf : Pl 0 f) (h : den subT fldT none prT (d + 4) none 8 [b] μ = some (.ok (.tup [f]), μ)) : den subT fldT none prT (d + 5) none 9 [b] μ = some (.error (2, f), μ) := by
  rw [den_at (F := ⟨1, 2, b_need_net⟩) rfl rfl (by decide)]
  have hp : Pl 1 (.tup [f]) := ⟨by simp, fun x hx => by simp at hx; subst hx; exact hf⟩
  obtain ⟨dd, h1, h2⟩ := dat_pl hp (by omega) μ
  obtain ⟨d1, a1, _, _, a4⟩ := toD_pl 1 _ hp
  have hn : gc (List.length μ) μ (some (.ok (.tup [f]), μ)) = some (.ok (.tup [f]), μ) := gc_same a4
  have h3 : PyData.eqv dd (.tuple []) = false := by
    simp only [MV.toD, MV.toDs] at h1
    cases hx : f.toD with
    | none => simp [hx] at h1
    | some y => simp [hx] at h1; subst h1; simp [PyData.eqv, PyData.eqvAll]
  have h4 : evIdx μ (.tup [f]) (.int 0) = some f := by simp [evIdx, dcOf, sqOf, L2.atI, L2.ixN]
  simp (implicitDefEqProofs := false) [execs, exec, ev, evs, evIt, asg, asgs, asgK, evCmp, ltD_int, outc, most, evBin, bopI, isCls, isCl, blO, intO, dat_int, eqv_int, gc_int, gc_bl, gc_fr, fx0, fx1, b_need_net, h, hn, h2, dat_tn, h3, h4]
theorem nf_0 (d : Nat) (μ : Mem) : den subT fldT none prT (d + 4) none 8 [.non] μ = some (.ok (.tup [.str "form"]), μ) := by
  rw [den_at (F := ⟨1, 3, b_net_fault⟩) rfl rfl (by decide)]
  have e := r_rowN (d + 2) .non (.int 3) rfl μ
  simp (implicitDefEqProofs := false) [execs, exec, ev, evs, evIt, asg, asgs, asgK, evCmp, ltD_int, outc, most, evBin, bopI, isCls, isCl, blO, intO, dat_int, eqv_int, gc_int, gc_bl, gc_fr, fx0, fx1, b_net_fault, e]
theorem nf_1 (d : Nat) (μ : Mem) : den subT fldT none prT (d + 4) none 8 [bad1] μ = some (.ok (.tup [.str "ports"]), μ) := by
  rw [den_at (F := ⟨1, 3, b_net_fault⟩) rfl rfl (by decide)]
  have e1 := r_row (d + 2) [.int 1, .int 2, .tup []] 3 μ
  have e2 := r_row0 (d + 2) [] μ
  have e3 := r_whole2 (d + 2) 1 0 48 μ
  have e4 := r_whole2 (d + 2) 2 0 1 μ
  have m : evBi μ .min2 [.int 1, .int 8] = some (.int 1) := min_two μ 1 8
  simp (implicitDefEqProofs := false) [execs, exec, ev, evs, evIt, asg, asgs, asgK, evCmp, ltD_int, outc, most, evBin, bopI, isCls, isCl, blO, intO, dat_int, eqv_int, gc_int, gc_bl, gc_fr, fx0, fx1, b_net_fault, bad1, e1, e2, e3, e4, ix30, ix31, ix32, m]
theorem nf_3 (d : Nat) (μ : Mem) : den subT fldT none prT (d + 4) none 8 [bad3] μ = some (.ok (.tup [.str "form"]), μ) := by
  rw [den_at (F := ⟨1, 3, b_net_fault⟩) rfl rfl (by decide)]
  have e1 := r_row (d + 2) [.int 2, .int 1, .lv [.tup [.int 0, .int 1, .tup [.int 1, .int 1]]]] 3 μ
  have e2 := r_rowN (d + 2) (.lv [.tup [.int 0, .int 1, .tup [.int 1, .int 1]]]) .non rfl μ
  simp (implicitDefEqProofs := false) [execs, exec, ev, evs, evIt, asg, asgs, asgK, evCmp, ltD_int, outc, most, evBin, bopI, isCls, isCl, blO, intO, dat_int, eqv_int, gc_int, gc_bl, gc_fr, fx0, fx1, b_net_fault, bad3, e1, e2, ix32]
theorem fr22 (d : Nat) (μ : Mem) : den subT fldT none prT (d + 2) none 4 [.tup [.int 2, .int 2]] μ = some (.ok (.bl false), μ) := by
  rw [den_at (F := ⟨1, 1, b_is_fraction⟩) rfl rfl (by decide)]
  have e1 := r_row d [.int 2, .int 2] 2 μ
  have e2 := r_gcd d 2 2 μ
  have e3 : ((Int.gcd 2 2 : Nat) : Int) = 2 := by decide
  rw [e3] at e2
  have e4 := r_whole d 2 μ
  have e5 := r_whole1 d 2 1 μ
  simp (implicitDefEqProofs := false) [execs, exec, ev, evs, evIt, asg, asgs, asgK, evCmp, ltD_int, outc, most, evBin, bopI, isCls, isCl, blO, intO, dat_int, eqv_int, gc_int, gc_bl, gc_fr, fx0, fx1, b_is_fraction, e1, e2, e4, e5, idx_p0, idx_p1]
theorem wi22 (d : Nat) (μ : Mem) : den subT fldT none prT (d + 3) none 7 [.int 2, .tup [.int 0, .int 1, .tup [.int 2, .int 2]]] μ = some (.ok (.bl false), μ) := by
  rw [den_at (F := ⟨2, 2, b_is_wire⟩) rfl rfl (by decide)]
  have e1 := r_row (d + 1) [.int 0, .int 1, .tup [.int 2, .int 2]] 3 μ
  have e2 := r_whole2 (d + 1) 0 0 1 μ
  have e3 := r_whole2 (d + 1) 1 0 1 μ
  have e4 := fr22 d μ
  simp (implicitDefEqProofs := false) [execs, exec, ev, evs, evIt, asg, asgs, asgK, evCmp, ltD_int, outc, most, evBin, bopI, isCls, isCl, blO, intO, dat_int, eqv_int, gc_int, gc_bl, gc_fr, fx0, fx1, b_is_wire, e1, e2, e3, e4, ix30, ix31, ix32]
theorem nf_2 (d : Nat) (μ : Mem) : den subT fldT none prT (d + 4) none 8 [bad2] μ = some (.ok (.tup [.int 0]), μ) := by
  rw [den_at (F := ⟨1, 3, b_net_fault⟩) rfl rfl (by decide)]
  have e1 := r_row (d + 2) [.int 2, .int 1, .tup [.tup [.int 0, .int 1, .tup [.int 2, .int 2]]]] 3 μ
  have e2 := r_row0 (d + 2) [.tup [.int 0, .int 1, .tup [.int 2, .int 2]]] μ
  have e3 := r_whole2 (d + 2) 2 0 48 μ
  have e4 := r_whole2 (d + 2) 1 0 2 μ
  have m : evBi μ .min2 [.int 2, .int 8] = some (.int 2) := min_two μ 2 8
  have e5 := wi22 d μ
  have l := len_tv μ [.tup [.int 0, .int 1, .tup [.int 2, .int 2]]]
  simp (implicitDefEqProofs := false) [execs, exec, ev, evs, evIt, asg, asgs, asgK, evCmp, ltD_int, outc, most, evBin, bopI, isCls, isCl, blO, intO, dat_int, eqv_int, gc_int, gc_bl, gc_fr, fx0, fx1, b_net_fault, bad2, e1, e2, e3, e4, e5, ix30, ix31, ix32, m, l, sqOf, gdOf, enumF, forL, gdOk]
/-- bad nets and their faults -/
def badF : List (MV × MV) := [(.non, .str "form"), (bad1, .str "ports"), (bad2, .int 0), (bad3, .str "form")]
theorem r_bad (d : Nat) (b f : MV) (h : (b, f) ∈ badF) (μ : Mem) : den subT fldT none prT (d + 5) none 9 [b] μ = some (.error (2, f), μ) := by
  simp only [badF, List.mem_cons, List.not_mem_nil, or_false, Prod.mk.injEq] at h
  rcases h with ⟨rfl, rfl⟩ | ⟨rfl, rfl⟩ | ⟨rfl, rfl⟩ | ⟨rfl, rfl⟩
  · exact r_need_bad d _ _ μ (plS 0 _ str_form) (nf_0 d μ)
  · exact r_need_bad d _ _ μ (plS 0 _ str_ports) (nf_1 d μ)
  · exact r_need_bad d _ _ μ (plIn 0 _) (nf_2 d μ)
  · exact r_need_bad d _ _ μ (plS 0 _ str_form) (nf_3 d μ)
theorem pl_badF {b f : MV} (h : (b, f) ∈ badF) : Pl 0 f := by
  simp only [badF, List.mem_cons, List.not_mem_nil, or_false, Prod.mk.injEq] at h
  rcases h with ⟨rfl, rfl⟩ | ⟨rfl, rfl⟩ | ⟨rfl, rfl⟩ | ⟨rfl, rfl⟩
  · exact plS 0 _ str_form
  · exact plS 0 _ str_ports
  · exact plIn 0 _
  · exact plS 0 _ str_form
theorem pl_odd {o : MV} (h : o ∈ oddL) : Pl 1 o := by
  simp only [oddL, List.mem_cons, List.not_mem_nil, or_false] at h
  rcases h with rfl | rfl | rfl | rfl | rfl | rfl | rfl | rfl | rfl | rfl
  · trivial
  · exact ⟨by simp, fun x hx => by simp at hx; subst hx; trivial⟩
  · exact ⟨by simp, fun x hx => by simp at hx; subst hx; trivial⟩
  · exact ⟨by simp, fun x hx => by simp at hx; rcases hx with rfl | rfl <;> trivial⟩
  · exact ⟨by simp, fun x hx => by simp at hx; subst hx; trivial⟩
  · exact ⟨by simp, fun x hx => by simp at hx; subst hx; trivial⟩
  · exact ⟨by simp, fun x hx => by simp at hx; subst hx; trivial⟩
  · exact ⟨by simp, fun x hx => by simp at hx; rcases hx with rfl | rfl <;> trivial⟩
  · exact plS 1 _ str_0
  · trivial
theorem noL_pl {n : Nat} {v : MV} (h : Pl n v) : v.noL = true := (toD_pl n v h).choose_spec.2.2.2
section
variable (d : Nat) (μ : Mem)
theorem isf_e1 {b f o : MV} (h : den subT fldT none prT (d + 5) none 9 [b] μ = some (.error (2, f), μ)) (hf : f.noL = true) : den subT fldT none prT (d + 6) none 16 [b, o] μ = some (.error (2, f), μ) := by
  rw [den_at (F := ⟨2, 2, b_is_forest⟩) rfl rfl (by decide)]
  have g1 : gc (List.length μ) μ (some (.error (2, f), μ)) = some (.error (2, f), μ) := gc_er hf
  simp (implicitDefEqProofs := false) [execs, exec, ev, evs, evIt, asg, asgs, asgK, evCmp, ltD_int, outc, most, evBin, bopI, isCls, isCl, blO, intO, dat_int, eqv_int, gc_int, gc_bl, gc_fr, fx0, fx1, b_is_forest, h, g1]
theorem nf_e1 {b f o : MV} (h : den subT fldT none prT (d + 5) none 9 [b] μ = some (.error (2, f), μ)) (hf : f.noL = true) : den subT fldT none prT (d + 6) none 15 [b, o] μ = some (.error (2, f), μ) := by
  rw [den_at (F := ⟨2, 3, b_need_forest⟩) rfl rfl (by decide)]
  have g1 : gc (List.length μ) μ (some (.error (2, f), μ)) = some (.error (2, f), μ) := gc_er hf
  simp (implicitDefEqProofs := false) [execs, exec, ev, evs, evIt, asg, asgs, asgK, evCmp, ltD_int, outc, most, evBin, bopI, isCls, isCl, blO, intO, dat_int, eqv_int, gc_int, gc_bl, gc_fr, fx0, fx1, b_need_forest, h, g1]
theorem lots_e {b o v : MV} {c : Nat} (h : den subT fldT none prT (d + 6) none 15 [b, o] μ = some (.error (c, v), μ)) (hf : v.noL = true) : den subT fldT none prT (d + 7) none 17 [b, o] μ = some (.error (c, v), μ) := by
  rw [den_at (F := ⟨2, 2, b_forest_lots⟩) rfl rfl (by decide)]
  have g1 : gc (List.length μ) μ (some (.error (c, v), μ)) = some (.error (c, v), μ) := gc_er hf
  simp (implicitDefEqProofs := false) [execs, exec, ev, evs, evIt, asg, asgs, asgK, evCmp, ltD_int, outc, most, evBin, bopI, isCls, isCl, blO, intO, dat_int, eqv_int, gc_int, gc_bl, gc_fr, fx0, fx1, b_forest_lots, h, g1]
theorem weight_e {b o v : MV} {c : Nat} (h : den subT fldT none prT (d + 6) none 15 [b, o] μ = some (.error (c, v), μ)) (hf : v.noL = true) : den subT fldT none prT (d + 7) none 18 [b, o] μ = some (.error (c, v), μ) := by
  rw [den_at (F := ⟨2, 4, b_forest_weight⟩) rfl rfl (by decide)]
  have g1 : gc (List.length μ) μ (some (.error (c, v), μ)) = some (.error (c, v), μ) := gc_er hf
  simp (implicitDefEqProofs := false) [execs, exec, ev, evs, evIt, asg, asgs, asgK, evCmp, ltD_int, outc, most, evBin, bopI, isCls, isCl, blO, intO, dat_int, eqv_int, gc_int, gc_bl, gc_fr, fx0, fx1, b_forest_weight, h, g1]
section
variable {n p : Nat} {ws : List Wr} (g : Good n p ws) (h3 : ws.length = 3) {o : MV} (ho : o ∈ oddL)
include g h3 ho
theorem isf_e3 : den subT fldT none prT (d + 6) none 16 [nv n p ws, o] μ = some (.error (3, o), μ) := by
  rw [den_at (F := ⟨2, 2, b_is_forest⟩) rfl rfl (by decide)]
  have e1 := r_need_net d g μ
  have g1 := gc_same (μ := μ) (noL_nv n p ws)
  have e2 := r_needO (d + 1) n p ws h3 o ho μ
  have g2 : gc (List.length μ) μ (some (.error (3, o), μ)) = some (.error (3, o), μ) := gc_er (noL_pl (pl_odd ho))
  simp (implicitDefEqProofs := false) [execs, exec, ev, evs, evIt, asg, asgs, asgK, evCmp, ltD_int, outc, most, evBin, bopI, isCls, isCl, blO, intO, dat_int, eqv_int, gc_int, gc_bl, gc_fr, fx0, fx1, b_is_forest, e1, g1, e2, g2]
theorem nf_e3 : den subT fldT none prT (d + 6) none 15 [nv n p ws, o] μ = some (.error (3, o), μ) := by
  rw [den_at (F := ⟨2, 3, b_need_forest⟩) rfl rfl (by decide)]
  have e1 := r_need_net d g μ
  have g1 := gc_same (μ := μ) (noL_nv n p ws)
  have e2 := r_needO (d + 1) n p ws h3 o ho μ
  have g2 : gc (List.length μ) μ (some (.error (3, o), μ)) = some (.error (3, o), μ) := gc_er (noL_pl (pl_odd ho))
  simp (implicitDefEqProofs := false) [execs, exec, ev, evs, evIt, asg, asgs, asgK, evCmp, ltD_int, outc, most, evBin, bopI, isCls, isCl, blO, intO, dat_int, eqv_int, gc_int, gc_bl, gc_fr, fx0, fx1, b_need_forest, e1, g1, e2, g2]
end
end
end MI
end
section
set_option Elab.async false
set_option linter.all false
set_option maxRecDepth 100000
set_option maxHeartbeats 4000000
set_option exponentiation.threshold 20000
namespace MI
open PySem PySem.Spec PyProof.Rows L2
def od0 : S := (.asg (.nm 1) (.tup (.cons (.con (.int 3)) (.cons (.con (.int 2)) (.cons (.tup (.cons (.tup (.cons (.con (.int 0)) (.cons (.con (.int 1)) (.cons (.tup (.cons (.con (.int 1)) (.cons (.con (.int 2)) .nil))) .nil)))) (.cons (.tup (.cons (.con (.int 0)) (.cons (.con (.int 2)) (.cons (.tup (.cons (.con (.int 1)) (.cons (.con (.int 1)) .nil))) .nil)))) (.cons (.tup (.cons (.con (.int 1)) (.cons (.con (.int 2)) (.cons (.tup (.cons (.con (.int 2)) (.cons (.con (.int 1)) .nil))) .nil)))) .nil)))) .nil)))))
def od1 : S := (.asg (.nm 2) (.app false 23 (.cons (.var 0) (.cons (.lst (.cons (.con .non) (.cons (.lst (.cons (.con (.int 0)) .nil)) (.cons (.tup (.cons (.con (.int 0)) (.cons (.con (.int 0)) .nil))) (.cons (.tup (.cons (.con (.int 1)) (.cons (.con (.int 0)) .nil))) (.cons (.tup (.cons (.con (.int 3)) .nil)) (.cons (.tup (.cons (.neg (.con (.int 1))) .nil)) (.cons (.tup (.cons (.con (.bl true)) .nil)) (.cons (.tup (.cons (.con (.int 0)) (.cons (.con .non) .nil))) (.cons (.con (.str "0")) (.cons (.con (.int 1)) .nil))))))))))) .nil)) []))
def od2 : S := (.asg (.nm 3) (.app false 23 (.cons (.var 0) (.cons (.lst (.cons (.con .non) (.cons (.tup (.cons (.con (.int 1)) (.cons (.con (.int 2)) (.cons (.tup .nil) .nil)))) (.cons (.tup (.cons (.con (.int 2)) (.cons (.con (.int 1)) (.cons (.tup (.cons (.tup (.cons (.con (.int 0)) (.cons (.con (.int 1)) (.cons (.tup (.cons (.con (.int 2)) (.cons (.con (.int 2)) .nil))) .nil)))) .nil)) .nil)))) (.cons (.tup (.cons (.con (.int 2)) (.cons (.con (.int 1)) (.cons (.lst (.cons (.tup (.cons (.con (.int 0)) (.cons (.con (.int 1)) (.cons (.tup (.cons (.con (.int 1)) (.cons (.con (.int 1)) .nil))) .nil)))) .nil)) .nil)))) .nil))))) .nil)) []))
def od3 : S := (.asg (.nm 4) (.ife (.cmp .eq (.var 3) (.tup (.cons (.con (.int 1)) (.cons (.con (.int 2)) (.cons (.tup .nil) .nil))))) (.con (.str "ports")) (.ife (.cmp .eq (.var 3) (.tup (.cons (.con (.int 2)) (.cons (.con (.int 1)) (.cons (.tup (.cons (.tup (.cons (.con (.int 0)) (.cons (.con (.int 1)) (.cons (.tup (.cons (.con (.int 2)) (.cons (.con (.int 2)) .nil))) .nil)))) .nil)) .nil))))) (.con (.int 0)) (.con (.str "form")))))
abbrev odH0 : E := .hrd 37 (.app false 16 (.cons (.var 3) (.cons (.var 2) .nil)) [])
abbrev odH1 : E := .hrd 37 (.app false 16 (.cons (.var 1) (.cons (.var 2) .nil)) [])
abbrev odH2 : E := .hrd 37 (.app false 17 (.cons (.var 3) (.cons (.var 2) .nil)) [])
abbrev odH3 : E := .hrd 37 (.app false 17 (.cons (.var 1) (.cons (.var 2) .nil)) [])
abbrev odH4 : E := .hrd 37 (.app false 18 (.cons (.var 1) (.cons (.var 2) .nil)) [])
abbrev odH5 : E := .hrd 37 (.app false 18 (.cons (.var 1) (.cons (.tup .nil) .nil)) [])
abbrev odH6 : E := .hrd 37 (.app false 16 (.cons (.tup (.cons (.con (.int 0)) (.cons (.con (.int 0)) (.cons (.tup .nil) .nil)))) (.cons (.tup .nil) .nil)) [])
abbrev odH7 : E := .hrd 37 (.app false 17 (.cons (.tup (.cons (.con (.int 2)) (.cons (.con (.int 2)) (.cons (.tup .nil) .nil)))) (.cons (.tup .nil) .nil)) [])
def od4 : S := (.asg (.nm 5) (.lst (.cons odH0 (.cons odH1 (.cons odH2 (.cons odH3 (.cons odH4 (.cons odH5 (.cons odH6 (.cons odH7 .nil))))))))))
def od5 : S := (.asg (.nm 6) (.lst (.cons (.tup (.cons (.con (.str "net")) (.cons (.var 4) .nil))) (.cons (.tup (.cons (.con (.str "number")) (.cons (.var 2) .nil))) (.cons (.tup (.cons (.con (.str "net")) (.cons (.var 4) .nil))) (.cons (.tup (.cons (.con (.str "number")) (.cons (.var 2) .nil))) (.cons (.tup (.cons (.con (.str "number")) (.cons (.var 2) .nil))) (.cons (.tup (.cons (.con (.str "paper")) (.cons (.con (.str "forest")) .nil))) (.cons (.tup (.cons (.con (.str "told")) (.cons (.con (.bl true)) .nil))) .nil)))))))))
def od6 : S := (.ret (.app false 24 (.cons (.var 5) (.cons (.bin .add (.var 6) (.lst (.cons (.tup (.cons (.con (.str "told")) (.cons (.tup (.cons (.tup (.cons (.con (.int 0)) .nil)) (.cons (.tup (.cons (.con (.int 1)) .nil)) .nil))) .nil))) .nil))) .nil)) []))
def od : SS := (.cons od0 (.cons od1 (.cons od2 (.cons od3 (.cons od4 (.cons od5 (.cons od6 .nil)))))))
theorem od_body : b__law_odd_right = od := rfl
def oW : List Wr := [⟨0, 1, ⟨1, 2, by decide, by decide⟩⟩, ⟨0, 2, 1⟩, ⟨1, 2, 2⟩]
theorem wlt_no {u w : Wr} (h : u.a < w.a ∨ (u.a = w.a ∧ u.b < w.b)) : wlt w u = false := by
  have e1 := ltD_wv [] w u
  have e2 := lt_wr [] (a := u.a) (b := u.b) (a' := w.a) (b' := w.b) (q := u.q) (q' := w.q) (by omega)
  have e3 : some (wlt w u) = some false := e1.symm.trans e2
  exact Option.some.inj e3
theorem oW_good : Good 3 2 oW := ⟨by omega, by omega, by omega, by decide, fun w hw => by
  simp only [oW, List.mem_cons, List.not_mem_nil, or_false] at hw
  rcases hw with rfl | rfl | rfl
  · exact ⟨by decide, by decide, by rw [Rat.lt_iff]; decide, ⟨by decide, by decide⟩⟩
  · exact ⟨by decide, by decide, by decide, ⟨by decide, by decide⟩⟩
  · exact ⟨by decide, by decide, by decide, ⟨by decide, by decide⟩⟩, by
  simp only [oW, List.pairwise_cons, List.mem_cons, List.not_mem_nil, or_false, List.Pairwise.nil, and_true]
  refine ⟨fun w hw => ?_, fun w hw => ?_, fun w hw => by cases hw⟩
  · rcases hw with rfl | rfl
    · exact wlt_no (.inr ⟨rfl, by decide⟩)
    · exact wlt_no (.inl (by decide))
  · subst hw
    exact wlt_no (.inl (by decide))⟩
theorem good_none (n : Nat) (h : n ≤ 8) : Good n n [] := ⟨by omega, by omega, h, by simp, by simp, by simp⟩
theorem od3_ok {b f : MV} (h : (b, f) ∈ badF) (W : Wd) (o0 o1 o2 : Option MV) (μ : Mem) : exec W od3 [o0, o1, o2, some b, none, none, none] μ = some (.nxt [o0, o1, o2, some b, some f, none, none], μ) := by
  have hd1 : dat μ bad1 = some (.tuple [.int 1, .int 2, .tuple []]) := by
    simp [bad1, dat, frz, MV.rd, MV.rds, MV.toD, MV.toDs, SeqAt.shaped, PyData.canLay0, PyData.canLayAll0, PyData.depth, PyData.depthAll]
  have hd2 : dat μ bad2 = some (.tuple [.int 2, .int 1, .tuple [.tuple [.int 0, .int 1, .tuple [.int 2, .int 2]]]]) := by
    simp [bad2, dat, frz, MV.rd, MV.rds, MV.toD, MV.toDs, SeqAt.shaped, PyData.canLay0, PyData.canLayAll0, PyData.depth, PyData.depthAll]
  have hd3 : dat μ bad3 = some (.tuple [.int 2, .int 1, .list [.tuple [.int 0, .int 1, .tuple [.int 1, .int 1]]]]) := by
    simp [bad3, dat, frz, MV.rd, MV.rds, MV.toD, MV.toDs, SeqAt.shaped, PyData.canLay0, PyData.canLayAll0, PyData.depth, PyData.depthAll]
  have hd0 : dat μ .non = some .none := by
    simp [dat, frz, MV.rd, MV.toD, SeqAt.shaped, PyData.canLay0, PyData.depth]
  have q1 : ∀ (a b c : MV) (ρ : Env), True := fun _ _ _ _ => trivial
  unfold bad1 at hd1
  unfold bad2 at hd2
  unfold bad3 at hd3
  simp only [badF, List.mem_cons, List.not_mem_nil, or_false, Prod.mk.injEq] at h
  rcases h with ⟨rfl, rfl⟩ | ⟨rfl, rfl⟩ | ⟨rfl, rfl⟩ | ⟨rfl, rfl⟩
  · simp (implicitDefEqProofs := false) [execs, exec, ev, evs, evIt, asg, asgs, asgK, evCmp, ltD_int, outc, most, evBin, bopI, isCls, isCl, blO, intO, dat_int, eqv_int, gc_int, gc_bl, gc_fr, fx0, fx1, od3, hd0, hd1, hd2, PyData.eqv, PyData.eqvAll]
  · simp (implicitDefEqProofs := false) [execs, exec, ev, evs, evIt, asg, asgs, asgK, evCmp, ltD_int, outc, most, evBin, bopI, isCls, isCl, blO, intO, dat_int, eqv_int, gc_int, gc_bl, gc_fr, fx0, fx1, od3, bad1, hd0, hd1, hd2, PyData.eqv, PyData.eqvAll]
  · simp (implicitDefEqProofs := false) [execs, exec, ev, evs, evIt, asg, asgs, asgK, evCmp, ltD_int, outc, most, evBin, bopI, isCls, isCl, blO, intO, dat_int, eqv_int, gc_int, gc_bl, gc_fr, fx0, fx1, od3, bad2, hd0, hd1, hd2, PyData.eqv, PyData.eqvAll]
  · simp (implicitDefEqProofs := false) [execs, exec, ev, evs, evIt, asg, asgs, asgK, evCmp, ltD_int, outc, most, evBin, bopI, isCls, isCl, blO, intO, dat_int, eqv_int, gc_int, gc_bl, gc_fr, fx0, fx1, od3, bad3, hd0, hd1, hd2, hd3, PyData.eqv, PyData.eqvAll]
theorem od4_ok {b f : MV} (h : (b, f) ∈ badF) {o : MV} (ho : o ∈ oddL) (o0 : Option MV) (μ : Mem) : exec W13 od4 [o0, some (nv 3 2 oW), some o, some b, some f, none, none] μ = some (.nxt [o0, some (nv 3 2 oW), some o, some b, some f, some (.lv [.tup [.str "net", f], .tup [.str "number", o], .tup [.str "net", f], .tup [.str "number", o], .tup [.str "number", o], .tup [.str "paper", .str "forest"], .tup [.str "told", .bl true], .tup [.str "told", .tup [.tup [.int 0], .tup [.int 1]]]]), none], μ) := by
  have hf := noL_pl (pl_badF h)
  have hn := noL_pl (pl_odd ho)
  have hb := r_bad 8 b f h μ
  have hb7 := r_bad 7 b f h μ
  have hbb := r_bad 6 b f h μ
  have ea : ∀ (i j : Nat) (x y : MV) (ρ : Env), ρ[i]? = some (some x) → ρ[j]? = some (some y) → evs W13 (.cons (.var i) (.cons (.var j) .nil)) ρ μ = some (.ok [x, y], μ) := fun i j x y ρ z1 z2 => by simp [evs, ev, z1, z2]
  have x0 := hrd_2 12 (.app false 16 (.cons (.var 3) (.cons (.var 2) .nil)) []) [o0, some (nv 3 2 oW), some o, some b, some f, none, none] μ (v := f) hf (app_err _ _ _ _ _ _ hf (ea 3 2 b o _ rfl rfl) (isf_e1 7 μ hb7 hf))
  have x1 := hrd_3 12 (.app false 16 (.cons (.var 1) (.cons (.var 2) .nil)) []) [o0, some (nv 3 2 oW), some o, some b, some f, none, none] μ (v := o) hn (app_err _ _ _ _ _ _ hn (ea 1 2 (nv 3 2 oW) o _ rfl rfl) (isf_e3 7 μ oW_good rfl ho))
  have x2 := hrd_2 12 (.app false 17 (.cons (.var 3) (.cons (.var 2) .nil)) []) [o0, some (nv 3 2 oW), some o, some b, some f, none, none] μ (v := f) hf (app_err _ _ _ _ _ _ hf (ea 3 2 b o _ rfl rfl) (lots_e 6 μ (nf_e1 6 μ hbb hf) hf))
  have x3 := hrd_3 12 (.app false 17 (.cons (.var 1) (.cons (.var 2) .nil)) []) [o0, some (nv 3 2 oW), some o, some b, some f, none, none] μ (v := o) hn (app_err _ _ _ _ _ _ hn (ea 1 2 (nv 3 2 oW) o _ rfl rfl) (lots_e 6 μ (nf_e3 6 μ oW_good rfl ho) hn))
  have x4 := hrd_3 12 (.app false 18 (.cons (.var 1) (.cons (.var 2) .nil)) []) [o0, some (nv 3 2 oW), some o, some b, some f, none, none] μ (v := o) hn (app_err _ _ _ _ _ _ hn (ea 1 2 (nv 3 2 oW) o _ rfl rfl) (weight_e 6 μ (nf_e3 6 μ oW_good rfl ho) hn))
  have w5 := r_weight_no 6 oW_good (row := []) (by simp) (by simp) (by simp) μ rfl
  have x5 := hrd_4 12 (.app false 18 (.cons (.var 1) (.cons (.tup .nil) .nil)) []) [o0, some (nv 3 2 oW), some o, some b, some f, none, none] μ (v := .str "forest") rfl (app_err _ _ _ _ _ [nv 3 2 oW, .tup []] rfl (by simp [evs, ev, most]) w5)
  have w6 := r_isf (good_none 0 (by omega)) (row := []) (by simp) (by simp) (by simp) 7 μ
  have x6 := hrd_ok 12 (.app false 16 (.cons (.tup (.cons (.con (.int 0)) (.cons (.con (.int 0)) (.cons (.tup .nil) .nil)))) (.cons (.tup .nil) .nil)) []) [o0, some (nv 3 2 oW), some o, some b, some f, none, none] μ (v := .bl true) rfl (app_ok _ _ _ _ _ [.tup [.int 0, .int 0, .tup []], .tup []] rfl (by simp [evs, ev, most]) w6)
  have w7 := r_lots 6 (good_none 2 (by omega)) (row := []) (by simp) (by simp) (by simp) μ (l := [0, 1]) rfl
  rw [lots_eq (l := [0, 1]) (good_none 2 (by omega)) (row := []) (by simp) rfl] at w7
  have x7 := hrd_ok 12 (.app false 17 (.cons (.tup (.cons (.con (.int 2)) (.cons (.con (.int 2)) (.cons (.tup .nil) .nil)))) (.cons (.tup .nil) .nil)) []) [o0, some (nv 3 2 oW), some o, some b, some f, none, none] μ (v := .tup [.tup [.int 0], .tup [.int 1]]) rfl (app_ok _ _ _ _ _ [.tup [.int 2, .int 2, .tup []], .tup []] rfl (by simp [evs, ev, most]) w7)
  have x0 : ev W13 odH0 [o0, some (nv 3 2 oW), some o, some b, some f, none, none] μ = _ := x0
  have x1 : ev W13 odH1 [o0, some (nv 3 2 oW), some o, some b, some f, none, none] μ = _ := x1
  have x2 : ev W13 odH2 [o0, some (nv 3 2 oW), some o, some b, some f, none, none] μ = _ := x2
  have x3 : ev W13 odH3 [o0, some (nv 3 2 oW), some o, some b, some f, none, none] μ = _ := x3
  have x4 : ev W13 odH4 [o0, some (nv 3 2 oW), some o, some b, some f, none, none] μ = _ := x4
  have x5 : ev W13 odH5 [o0, some (nv 3 2 oW), some o, some b, some f, none, none] μ = _ := x5
  have x6 : ev W13 odH6 [o0, some (nv 3 2 oW), some o, some b, some f, none, none] μ = _ := x6
  have x7 : ev W13 odH7 [o0, some (nv 3 2 oW), some o, some b, some f, none, none] μ = _ := x7
  unfold od4
  generalize odH0 = X0 at x0 ⊢
  generalize odH1 = X1 at x1 ⊢
  generalize odH2 = X2 at x2 ⊢
  generalize odH3 = X3 at x3 ⊢
  generalize odH4 = X4 at x4 ⊢
  generalize odH5 = X5 at x5 ⊢
  generalize odH6 = X6 at x6 ⊢
  generalize odH7 = X7 at x7 ⊢
  generalize nv 3 2 oW = N at *
  simp (implicitDefEqProofs := false) [execs, exec, ev, evs, evIt, asg, asgs, asgK, evCmp, ltD_int, outc, most, evBin, bopI, isCls, isCl, blO, intO, dat_int, eqv_int, gc_int, gc_bl, gc_fr, fx0, fx1, x0, x1, x2, x3, x4, x5, x6, x7]
theorem r_oddR {cs : List Int} (hc : cs.length = 64) {s : Nat} (hs : s < 2 ^ 35) (gs : List Int) :
    ∃ (s' : Nat) (gs' : List Int), s' ≤ s + 2000 ∧ gc (List.length (M cs s gs [])) (M cs s gs []) (den subT fldT none prT 14 none 41 [.loc 0] (M cs s gs [])) = some (.ok (.bl true), M cs s' gs' []) := by
  suffices hh : ∃ (s' : Nat) (gs' : List Int), s' ≤ s + 2000 ∧ den subT fldT none prT 14 none 41 [.loc 0] (M cs s gs []) = some (.ok (.bl true), M cs s' gs' []) by
    obtain ⟨s', gs', h, e⟩ := hh
    refine ⟨s', gs', h, ?_⟩
    rw [e]
    exact gc_M cs s gs [] (.bl true) rfl s' gs'
  rw [den_at (F := ⟨1, 7, b__law_odd_right⟩) rfl rfl (by decide)]
  show ∃ (s' : Nat) (gs' : List Int), s' ≤ s + 2000 ∧ outc (execs W13 b__law_odd_right [some (.loc 0), none, none, none, none, none, none] (M cs s gs [])) = _
  rw [od_body]
  have f0 : ∀ μ, exec W13 od0 [some (.loc 0), none, none, none, none, none, none] μ = some (.nxt [some (.loc 0), some (nv 3 2 oW), none, none, none, none, none], μ) := fun μ => by
    rw [show nv 3 2 oW = .tup [.int 3, .int 2, .tup [.tup [.int 0, .int 1, .tup [.int 1, .int 2]], .tup [.int 0, .int 2, .tup [.int 1, .int 1]], .tup [.int 1, .int 2, .tup [.int 2, .int 1]]]] from rfl]
    simp (implicitDefEqProofs := false) [execs, exec, ev, evs, evIt, asg, asgs, asgK, evCmp, ltD_int, outc, most, evBin, bopI, isCls, isCl, blO, intO, dat_int, eqv_int, gc_int, gc_bl, gc_fr, fx0, fx1, od0]
  obtain ⟨k, hk, g1, e1⟩ := r_of 10 hc (show s < 2 ^ 38 by omega) gs oddL (by simp [oddL]) (by simp [oddL]) rfl
  have ho : oddL[k] ∈ oddL := List.getElem_mem hk
  generalize oddL[k] = o at e1 ho
  have f1 : exec W13 od1 [some (.loc 0), some (nv 3 2 oW), none, none, none, none, none] (M cs s gs []) = some (.nxt [some (.loc 0), some (nv 3 2 oW), some o, none, none, none, none], M cs (s + 1) g1 []) := by
    unfold oddL at e1
    generalize nv 3 2 oW = N
    simp (implicitDefEqProofs := false) [execs, exec, ev, evs, evIt, asg, asgs, asgK, evCmp, ltD_int, outc, most, evBin, bopI, isCls, isCl, blO, intO, dat_int, eqv_int, gc_int, gc_bl, gc_fr, fx0, fx1, od1, e1]
  obtain ⟨j, hj, g2, e2⟩ := r_of 10 hc (show s + 1 < 2 ^ 38 by omega) g1 (badF.map (·.1)) (by simp [badF]) (by simp [badF]) rfl
  have hj' : j < badF.length := by simpa using hj
  have hb : (badF[j].1, badF[j].2) ∈ badF := List.getElem_mem hj'
  rw [List.getElem_map] at e2
  generalize badF[j].1 = b at e2 hb
  generalize badF[j].2 = f at hb
  have f2 : exec W13 od2 [some (.loc 0), some (nv 3 2 oW), some o, none, none, none, none] (M cs (s + 1) g1 []) = some (.nxt [some (.loc 0), some (nv 3 2 oW), some o, some b, none, none, none], M cs (s + 1 + 1) g2 []) := by
    have e2 : gc (List.length (M cs (s + 1) g1 [])) (M cs (s + 1) g1 []) (den subT fldT none prT (10 + 3) none 23 [.loc 0, .lv [.non, .tup [.int 1, .int 2, .tup []], .tup [.int 2, .int 1, .tup [.tup [.int 0, .int 1, .tup [.int 2, .int 2]]]], .tup [.int 2, .int 1, .lv [.tup [.int 0, .int 1, .tup [.int 1, .int 1]]]]]] (M cs (s + 1) g1 [])) = _ := e2
    generalize nv 3 2 oW = N
    simp (implicitDefEqProofs := false) [execs, exec, ev, evs, evIt, asg, asgs, asgK, evCmp, ltD_int, outc, most, evBin, bopI, isCls, isCl, blO, intO, dat_int, eqv_int, gc_int, gc_bl, gc_fr, fx0, fx1, od2, e2]
  have f3 := od3_ok hb W13 (some (.loc 0)) (some (nv 3 2 oW)) (some o) (M cs (s + 1 + 1) g2 [])
  have f4 := od4_ok hb ho (some (.loc 0)) (M cs (s + 1 + 1) g2 [])
  have hp1 : Pl 2 (.tup [.str "net", f]) := Pl_pair (plS 1 _ str_net) (Pl_up (pl_badF hb))
  have hp2 : Pl 2 (.tup [.str "number", o]) := Pl_pair (plS 1 _ str_number) (pl_odd ho)
  have hp3 : Pl 2 (.tup [.str "paper", .str "forest"]) := Pl_pair (plS 1 _ str_paper) (plS 1 _ str_forest)
  have hp4 : Pl 2 (.tup [.str "told", .bl true]) := Pl_pair (plS 1 _ str_told) (plBo 1 _)
  have hp5 : Pl 3 (.tup [.str "told", .tup [.tup [.int 0], .tup [.int 1]]]) := Pl_pair (plS 2 _ str_told) (Pl_pair (Pl_iv [0] (by simp)) (Pl_iv [1] (by simp)))
  have hp : Pl 4 (.lv [.tup [.str "net", f], .tup [.str "number", o], .tup [.str "net", f], .tup [.str "number", o], .tup [.str "number", o], .tup [.str "paper", .str "forest"], .tup [.str "told", .bl true], .tup [.str "told", .tup [.tup [.int 0], .tup [.int 1]]]]) := ⟨by simp, fun x hx => by
    simp only [List.mem_cons, List.not_mem_nil, or_false] at hx
    rcases hx with rfl | rfl | rfl | rfl | rfl | rfl | rfl | rfl
    · exact Pl_up hp1
    · exact Pl_up hp2
    · exact Pl_up hp1
    · exact Pl_up hp2
    · exact Pl_up hp2
    · exact Pl_up hp3
    · exact Pl_up hp4
    · exact hp5⟩
  have kk := r_like 4 _ hp 12 (M cs (s + 1 + 1) g2 []) (by decide)
  refine ⟨s + 1 + 1, g2, by omega, ?_⟩
  unfold od
  rw [execs, f0, seqK_nxt, execs, f1, seqK_nxt, execs, f2, seqK_nxt, execs, f3, seqK_nxt, execs, f4, seqK_nxt]
  generalize nv 3 2 oW = N at *
  generalize M cs (s + 1 + 1) g2 [] = μ at *
  have ha : ∀ xs ys : List MV, xs.length + ys.length ≤ 2000 → evBin μ .add (.lv xs) (.lv ys) = some (.lv (xs ++ ys)) := add_lv μ
  simp (implicitDefEqProofs := false) [execs, exec, ev, evs, evIt, asg, asgs, asgK, evCmp, ltD_int, outc, most, evBin, bopI, isCls, isCl, blO, intO, dat_int, eqv_int, gc_int, gc_bl, gc_fr, fx0, fx1, od5, od6, kk, lsOf]
end MI
end
section
set_option Elab.async false
set_option linter.all false
set_option maxRecDepth 100000
set_option maxHeartbeats 4000000
set_option exponentiation.threshold 20000
namespace MI
open PySem PySem.Spec PyProof.Rows L2
/-- each node hangs on a lower one: leaders are nodes that hang on none -/
theorem leads_tree {n : Nat} : ∀ (ps : List (Nat × Nat)) (l dn : List Nat), l.length = n → (∀ v, v < n → v ∉ dn → l.getD v 0 = v) → (∀ i, i < n → l.getD i 0 ∉ dn ∧ l.getD i 0 ≤ i) → (∀ p ∈ ps, p.1 < p.2 ∧ p.2 < n) → (dn ++ ps.map (·.2)).Nodup →
    ∃ l', leads l ps = some l' ∧ l'.length = n ∧ (∀ v, v < n → v ∉ dn ++ ps.map (·.2) → l'.getD v 0 = v) ∧ ∀ i, i < n → l'.getD i 0 ∉ dn ++ ps.map (·.2) ∧ l'.getD i 0 ≤ i
  | [], l, dn, h0, h1, h2, _, _ => ⟨l, rfl, h0, by simpa using h1, by simpa using h2⟩
  | (a, b) :: ps, l, dn, h0, h1, h2, hp, hd => by
    obtain ⟨ab, bn⟩ := hp (a, b) List.mem_cons_self
    simp only at ab bn
    have hd' : ((dn ++ [b]) ++ ps.map (·.2)).Nodup := by
      rw [List.append_assoc]; exact hd
    have hb : b ∉ dn := fun hm => by
      have := (List.nodup_append.mp hd).2.2 b hm b (by simp)
      exact this rfl
    have hy := h1 b bn hb
    obtain ⟨x1, x2⟩ := h2 a (by omega)
    have hne : l.getD a 0 ≠ l.getD b 0 := by rw [hy]; omega
    have hmx : max (l.getD a 0) (l.getD b 0) = b := by rw [hy]; omega
    have hmn : min (l.getD a 0) (l.getD b 0) = l.getD a 0 := by rw [hy]; omega
    have hj : ∀ i, i < n → (joinL l (l.getD a 0) (l.getD b 0)).getD i 0 = if l.getD i 0 = b then l.getD a 0 else l.getD i 0 := fun i hi => by
      rw [join_at (by omega), hmx, hmn]
    obtain ⟨l', e, k1, k2, k3⟩ := leads_tree ps (joinL l (l.getD a 0) (l.getD b 0)) (dn ++ [b]) (by simp [joinL, h0]) (fun v hv hvn => by
      simp only [List.mem_append, List.mem_singleton, not_or] at hvn
      rw [hj v hv, h1 v hv hvn.1, if_neg hvn.2]) (fun i hi => by
      rw [hj i hi]
      obtain ⟨z1, z2⟩ := h2 i hi
      by_cases hc : l.getD i 0 = b
      · rw [if_pos hc]
        refine ⟨?_, by omega⟩
        simp only [List.mem_append, List.mem_singleton, not_or]
        exact ⟨x1, by omega⟩
      · rw [if_neg hc]
        refine ⟨?_, z2⟩
        simp only [List.mem_append, List.mem_singleton, not_or]
        exact ⟨z1, hc⟩) (fun p hp' => hp p (List.mem_cons_of_mem _ hp')) hd'
    rw [List.append_assoc] at k2 k3
    exact ⟨l', by simp only [leads, hne, if_false]; exact e, k1, k2, k3⟩
theorem leads_tree0 {n : Nat} {ps : List (Nat × Nat)} (hp : ∀ p ∈ ps, p.1 < p.2 ∧ p.2 < n) (hd : (ps.map (·.2)).Nodup) :
    ∃ l', leads (List.range n) ps = some l' ∧ l'.length = n ∧ (∀ v, v < n → v ∉ ps.map (·.2) → l'.getD v 0 = v) ∧ ∀ i, i < n → l'.getD i 0 ∉ ps.map (·.2) ∧ l'.getD i 0 ≤ i := by
  have hg : ∀ i, i < n → (List.range n).getD i 0 = i := fun i hi => by simp [List.getD, hi]
  have := leads_tree ps (List.range n) [] (by simp) (fun v hv _ => hg v hv) (fun i hi => ⟨by simp, by rw [hg i hi]; exact Nat.le_refl _⟩) hp (by simpa using hd)
  simpa using this
theorem rowP_range (ws : List Wr) : rowP ws (List.range ws.length) = ws.map fun w => (w.a, w.b) := by
  refine List.ext_getElem (by simp [rowP]) fun i h1 h2 => ?_
  simp only [List.length_map] at h2
  simp [rowP, h2]
theorem rowQ_range (ws : List Wr) : rowQ ws (List.range ws.length) = ws.map (·.q) := by
  refine List.ext_getElem (by simp [rowQ]) fun i h1 h2 => ?_
  simp only [List.length_map] at h2
  simp [rowQ, h2]
theorem prod_perm {l l' : List Rat} (h : l.Perm l') : ∀ acc, prod l acc = prod l' acc := by
  induction h with
  | nil => intro acc; rfl
  | cons x _ ih => intro acc; exact ih (acc * x)
  | swap x y l =>
    intro acc
    show prod l (acc * y * x) = prod l (acc * x * y)
    rw [Rat.mul_assoc, Rat.mul_comm y x, ← Rat.mul_assoc]
  | trans _ _ ih1 ih2 => intro acc; rw [ih1, ih2]
section
variable {n p : Nat} {ws : List Wr} (hw : WOk n ws) (hb : (ws.map (·.b)).Perm ((List.range (n - p)).map (p + ·))) (hpn : p ≤ n)
include hw hb hpn
theorem bs_mem {v : Nat} : v ∈ ws.map (·.b) ↔ p ≤ v ∧ v < n := by
  rw [hb.mem_iff, List.mem_map]
  constructor
  · rintro ⟨k, hk, rfl⟩
    have := List.mem_range.mp hk
    omega
  · rintro ⟨h1, h2⟩
    exact ⟨v - p, List.mem_range.mpr (by omega), by omega⟩
theorem bs_nodup : (ws.map (·.b)).Nodup := by
  refine hb.nodup_iff.mpr ?_
  rw [List.nodup_iff_pairwise_ne]
  exact List.pairwise_map.mpr ((List.nodup_iff_pairwise_ne.mp List.nodup_range).imp fun h e => h (by omega))
theorem whole_lead : ∃ l, flead n p ws (List.range ws.length) = some l ∧ l.length = n ∧ ∀ v, v < p → l.getD v 0 = v := by
  have e0 : (rowP ws (List.range ws.length)).map (·.2) = ws.map (·.b) := by rw [rowP_range, List.map_map]; rfl
  obtain ⟨l, e, k1, k2, k3⟩ := leads_tree0 (n := n) (ps := rowP ws (List.range ws.length)) (by
    rw [rowP_range]
    intro q hq
    obtain ⟨w, hw', rfl⟩ := List.mem_map.mp hq
    exact ⟨(hw w hw').1, (hw w hw').2.1⟩) (by rw [e0]; exact bs_nodup hw hb hpn)
  rw [e0] at k2 k3
  refine ⟨l, ?_, k1, fun v hv => k2 v (by omega) fun hm => by
    have := (bs_mem hw hb hpn).mp hm; omega⟩
  unfold flead
  rw [e, Option.bind_some]
  have ha : (l.all fun k => decide (k < p)) = true := by
    simp only [List.all_eq_true, decide_eq_true_eq]
    intro x hx
    obtain ⟨i, hi, rfl⟩ := List.mem_iff_getElem.mp hx
    obtain ⟨z1, z2⟩ := k3 i (by omega)
    have eg : l.getD i 0 = l[i] := by simp [List.getD, hi]
    rw [eg] at z1 z2
    by_cases hlt : l[i] < p
    · exact hlt
    · exact absurd ((bs_mem hw hb hpn).mpr ⟨by omega, by omega⟩) z1
  rw [if_pos ha]
theorem rest_lead {t : Nat} (ht : t < ws.length) : flead n p ws ((List.range ws.length).eraseIdx t) = none := by
  have e1 : rowP ws ((List.range ws.length).eraseIdx t) = (ws.map fun w => (w.a, w.b)).eraseIdx t := by
    rw [← rowP_range]; unfold rowP; rw [eraseIdx_mp]
  have e0 : (rowP ws ((List.range ws.length).eraseIdx t)).map (·.2) = (ws.map (·.b)).eraseIdx t := by
    rw [e1, ← eraseIdx_mp, List.map_map]; rfl
  have htb : t < (ws.map (·.b)).length := by simpa using ht
  have hnd : ((ws.map (·.b))[t] :: (ws.map (·.b)).eraseIdx t).Nodup := (erase_perm htb).nodup_iff.mpr (bs_nodup hw hb hpn)
  rw [List.nodup_cons] at hnd
  obtain ⟨l, e, k1, k2, k3⟩ := leads_tree0 (n := n) (ps := rowP ws ((List.range ws.length).eraseIdx t)) (by
    rw [e1]
    intro q hq
    obtain ⟨w, hw', rfl⟩ := List.mem_map.mp (List.mem_of_mem_eraseIdx hq)
    exact ⟨(hw w hw').1, (hw w hw').2.1⟩) (by rw [e0]; exact hnd.2)
  rw [e0] at k2
  have hv := (bs_mem hw hb hpn).mp (List.getElem_mem htb)
  have h2 := k2 _ hv.2 hnd.1
  unfold flead
  rw [e, Option.bind_some]
  have ha : (l.all fun k => decide (k < p)) = false := by
    rw [List.all_eq_false]
    have hvl : (ws.map (·.b))[t] < l.length := by omega
    have eg : l.getD ((ws.map (·.b))[t]) 0 = l[(ws.map (·.b))[t]] := by simp only [List.getD, hvl, List.getElem?_eq_getElem, Option.getD_some]
    refine ⟨l[(ws.map (·.b))[t]], List.getElem_mem hvl, ?_⟩
    rw [← eg, h2]
    simp only [decide_eq_true_eq]
    omega
  rw [if_neg (by rw [ha]; decide)]
end
theorem plots_id {l : List Nat} {p : Nat} (h : ∀ v, v < p → l.getD v 0 = v) : plotsV l p = .tup ((List.range p).map fun (k : Nat) => MV.tup [.int k]) := by
  have h1 : plotsL l p = List.range p := by
    unfold plotsL
    rw [List.filter_eq_self]
    intro q hq
    simpa using h q (List.mem_range.mp hq)
  have h2 : ∀ k, k < p → lotL l p k = [k] := by
    intro k hk
    unfold lotL
    have e1 : (List.range p).filter (fun q => decide (l.getD q 0 = k)) = (List.range p).filter (fun q => q == k) := by
      refine List.filter_congr fun q hq => ?_
      rw [h q (List.mem_range.mp hq)]
      by_cases hqk : q = k <;> simp [hqk]
    rw [e1, List.filter_beq, List.count_range, if_pos hk]
    rfl
  unfold plotsV
  rw [h1]
  congr 1
  refine List.map_congr_left fun k hk => ?_
  rw [h2 k (List.mem_range.mp hk)]
  rfl
end MI
end
section
set_option Elab.async false
set_option linter.all false
set_option maxRecDepth 100000
set_option maxHeartbeats 4000000
set_option exponentiation.threshold 20000
namespace MI
open PySem PySem.Spec PyProof.Rows L2
/-- a changed list and a settled one, alike -/
theorem r_like_at (n : Nat) (k : Nat) (xs : List MV) (d : Nat) (μ : Mem) (hk : μ[k]? = some (.lst xs)) (hl : xs.length ≤ 1000) (hx : ∀ x ∈ xs, Pl n x) (hd : n + 1 ≤ d) : den subT fldT none prT (d + 1) none 24 [.loc k, .lv xs] μ = some (.ok (.bl true), μ) := by
  obtain ⟨d, rfl⟩ : ∃ e, d = e + 1 := ⟨d - 1, by omega⟩
  rw [den_at (F := ⟨2, 3, b__law_like⟩) rfl rfl (by decide)]
  show outc (execs (wdAt subT fldT none prT (d + 1) none) b__law_like [some (.loc k), some (.lv xs), none] μ) = _
  rw [lik_body]
  have hdc : dcOf μ (.loc k) = none := by simp only [dcOf, hk]
  have hsq : sqOf μ (.loc k) = some xs := by simp only [sqOf, hk]
  have hi : ∀ j, (h : j < xs.length) → evIdx μ (.loc k) (.int j) = some xs[j] := fun j h => by
    simp only [evIdx, hdc, hsq, Option.bind_some, atI_nat h]
  have hlen : evBi μ .len [.loc k] = some (.int xs.length) := by simp only [evBi, hdc, hsq, Option.map_some]
  have hlen2 := len_lv μ xs
  have hc1 : isCls μ subT (.loc k) [.list] = some true := by simp [isCls, hk]
  have f := forL_all (step := stp (wdAt subT fldT none prT (d + 1) none) (.nm 2) likB) (μ := μ) (P := fun ρ => ∃ o, ρ = [some (.loc k), some (.lv xs), o]) (xs := (List.range xs.length).map fun (k : Nat) => MV.int k) (fun x hx' ρ hρ => by
    obtain ⟨j, hj, rfl⟩ := List.mem_map.mp hx'
    obtain ⟨o, rfl⟩ := hρ
    have hj := List.mem_range.mp hj
    have e1 := hi j hj
    have e0 := ixl_nat μ hj
    have e2 := r_like n xs[j] (hx _ (List.getElem_mem hj)) d μ (by omega)
    refine ⟨_, ?_, ⟨some (.int j), rfl⟩⟩
    simp (implicitDefEqProofs := false) [execs, exec, ev, evs, evIt, asg, asgs, asgK, evCmp, ltD_int, outc, most, evBin, bopI, isCls, isCl, blO, intO, dat_int, eqv_int, gc_int, gc_bl, gc_fr, fx0, fx1, stp, e0, e1, e2]) (ρ := [some (.loc k), some (.lv xs), none]) ⟨none, rfl⟩
  obtain ⟨ρ', f1, o, rfl⟩ := f
  have f2 : exec (wdAt subT fldT none prT (d + 1) none) (.fr (.nm 2) (.rng (.cons (.blt .len (.cons (.var 1) .nil)) .nil)) likB) [some (.loc k), some (.lv xs), none] μ = some (.nxt [some (.loc k), some (.lv xs), o], μ) := (fr_ev (g := .nm 2) (b := likB) (xs := (List.range xs.length).map fun (k : Nat) => MV.int k) (gd := []) (by
    have hr : rngOf [.int (xs.length : Nat)] = some ((List.range xs.length).map fun (k : Nat) => MV.int k) := rng_iv hl
    simp (implicitDefEqProofs := false) [execs, exec, ev, evs, evIt, asg, asgs, asgK, evCmp, ltD_int, outc, most, evBin, bopI, isCls, isCl, blO, intO, dat_int, eqv_int, gc_int, gc_bl, gc_fr, fx0, fx1, hlen2, hr])).trans f1
  have f3 : execs (wdAt subT fldT none prT (d + 1) none) likT [some (.loc k), some (.lv xs), none] μ = some (.ret (.bl true), μ) := by
    unfold likT
    rw [execs, f2, seqK_nxt]
    simp (implicitDefEqProofs := false) [execs, exec, ev, evs, evIt, asg, asgs, asgK, evCmp, ltD_int, outc, most, evBin, bopI, isCls, isCl, blO, intO, dat_int, eqv_int, gc_int, gc_bl, gc_fr, fx0, fx1, ]
  simp (implicitDefEqProofs := false) [execs, exec, ev, evs, evIt, asg, asgs, asgK, evCmp, ltD_int, outc, most, evBin, bopI, isCls, isCl, blO, intO, dat_int, eqv_int, gc_int, gc_bl, gc_fr, fx0, fx1, hlen, hlen2, hk, f3]
def gr0 : S := (.asg (.tp (.cons (.nm 8) (.cons (.nm 9) .nil))) (.tup (.cons (.bin .add (.con (.int 11)) (.app false 21 (.cons (.var 0) (.cons (.con (.int 30)) .nil)) [])) (.cons (.bin .add (.con (.int 1)) (.app false 21 (.cons (.var 0) (.cons (.con (.int 8)) .nil)) [])) .nil))))
abbrev grT : E := (.tup (.cons (.app false 21 (.cons (.var 0) (.cons (.var 10) .nil)) []) (.cons (.var 10) (.cons (.app false 29 (.cons (.var 0) .nil) []) .nil))))
def gr1 : S := (.asg (.nm 1) (.lcm [10] (.rng (.cons (.var 9) (.cons (.var 8) .nil))) (.nm 10) (.con (.bl true)) grT))
def gr2 : S := (.asg (.nm 2) (.tup (.cons (.var 8) (.cons (.var 9) (.cons (.blt .tup1 (.cons (.blt .srt1 (.cons (.var 1) .nil)) .nil)) .nil)))))
def gr3 : S := (.asg (.nm 3) (.lrg true (.cons (.blt .len (.cons (.var 1) .nil)) .nil)))
def gr4 : S := (.asg (.nm 4) (.app false 21 (.cons (.var 0) (.cons (.blt .len (.cons (.var 1) .nil)) .nil)) []))
def gr5 : S := (.asg (.nm 5) (.bin .add (.slc (.var 3) false (.con .non) true (.var 4)) (.slc (.var 3) true (.bin .add (.var 4) (.con (.int 1))) false (.con .non))))
def gr6 : S := (.asg (.nm 6) (.chg (.lst (.cons (.app false 16 (.cons (.var 2) (.cons (.var 3) .nil)) []) (.cons (.app false 17 (.cons (.var 2) (.cons (.var 3) .nil)) []) (.cons (.app false 18 (.cons (.var 2) (.cons (.var 3) .nil)) []) (.cons (.app false 16 (.cons (.var 2) (.cons (.var 5) .nil)) []) .nil)))))))
def gr7 : S := (.ex (.mth .append (.var 6) (.cons (.hrd 37 (.app false 18 (.cons (.var 2) (.cons (.var 5) .nil)) [])) .nil)))
abbrev grL : E := (.lcm [11] (.rng (.cons (.var 9) .nil)) (.nm 11) (.con (.bl true)) (.tup (.cons (.var 11) .nil)))
abbrev grQ : E := (.lcm [12] (.seq (.var 1)) (.nm 12) (.con (.bl true)) (.idx (.var 12) (.con (.int 2))))
def gr8 : S := (.asg (.nm 7) (.lst (.cons (.con (.bl true)) (.cons (.blt .tup1 (.cons grL .nil)) (.cons (.app false 28 (.cons grQ .nil) []) (.cons (.con (.bl false)) (.cons (.tup (.cons (.con (.str "paper")) (.cons (.con (.str "forest")) .nil))) .nil)))))))
def gr9 : S := (.ret (.app false 24 (.cons (.var 6) (.cons (.var 7) .nil)) []))
def gr : SS := (.cons gr0 (.cons gr1 (.cons gr2 (.cons gr3 (.cons gr4 (.cons gr5 (.cons gr6 (.cons gr7 (.cons gr8 (.cons gr9 .nil))))))))))
theorem gr_body : b__law_great_right = gr := rfl
abbrev grE (n p : Nat) (o1 o2 o3 o4 o5 o6 o7 : Option MV) : Env := [some (.loc 0), o1, o2, o3, o4, o5, o6, o7, some (.int n), some (.int p), none, none, none]
theorem gr_step {cs : List Int} (hc : cs.length = 64) {s : Nat} (hs : s < 2 ^ 38) (gs : List Int) {n p k : Nat} (hk : 0 < k) (hk2 : k < n) (hn : n ≤ 1000) : ∃ (a : Nat) (q : Rat) (s' : Nat) (gs' : List Int), a < k ∧ 0 < q ∧ Bd 20 20 q ∧ s' ≤ s + 5 ∧ lcS W13 [10] (.nm 10) (.con (.bl true)) grT (grE n p none none none none none none none) (.int k) (M cs s gs []) = some (.ok (some (wv ⟨a, k, q⟩)), M cs s' gs' []) := by
  have hp : (2 : Nat) ^ 9000 > 1000 := Nat.lt_of_lt_of_le (show 1000 < 2 ^ 10 by decide) (Nat.pow_le_pow_right (by decide) (by decide))
  obtain ⟨v1, g1, p1, q1, e1⟩ := g_draw 11 (k : Int) (by omega) (by omega) hc (show s < 2 ^ 40 by omega) gs []
  obtain ⟨q, s3, g3, pq, bq, h3, e3⟩ := r_strength 10 hc (show s + 1 < 2 ^ 39 by omega) g1 []
  have e3' := gc_M cs (s + 1) g1 [] (fr q) (noL_fr q) s3 g3
  obtain ⟨a, rfl⟩ : ∃ k : Nat, v1 = (k : Int) := ⟨v1.toNat, by omega⟩
  refine ⟨a, q, s3, g3, by omega, pq, bq, by omega, ?_⟩
  simp only [wv, wr]
  simp (implicitDefEqProofs := false) [execs, exec, ev, evs, evIt, asg, asgs, asgK, evCmp, ltD_int, outc, most, evBin, bopI, isCls, isCl, blO, intO, dat_int, eqv_int, gc_int, gc_bl, gc_fr, fx0, fx1, lcS, wipe, grT, e1, e3, e3']
theorem gr_for {cs : List Int} (hc : cs.length = 64) {n p : Nat} (hn : n ≤ 1000) : ∀ (ks : List Nat) (acc : List MV) (s : Nat) (gs : List Int), (∀ k ∈ ks, 0 < k ∧ k < n) → s + 5 * ks.length < 2 ^ 38 → acc.length + ks.length ≤ 1000 →
    ∃ (ws : List Wr) (s' : Nat) (gs' : List Int), WOk n ws ∧ ws.map (·.b) = ks ∧ s' ≤ s + 5 * ks.length ∧ lcmL [] (lcS W13 [10] (.nm 10) (.con (.bl true)) grT (grE n p none none none none none none none)) (iv ks) acc (M cs s gs []) = some (.ok (acc ++ ws.map wv), M cs s' gs' [])
  | [], acc, s, gs, _, _, _ => ⟨[], s, gs, by simp [WOk], rfl, by simp, by simp [lcmL, gdOk]⟩
  | k :: ks, acc, s, gs, hk, hs, hl => by
    simp only [List.length_cons] at hs hl
    have hk1 := hk k List.mem_cons_self
    obtain ⟨a, q, s1, g1, h1, h2, h3, h4, e⟩ := gr_step hc (show s < 2 ^ 38 by omega) gs (p := p) hk1.1 hk1.2 hn
    obtain ⟨ws, s2, g2, k1, k2, k3, e2⟩ := gr_for hc (p := p) hn ks (acc ++ [wv ⟨a, k, q⟩]) s1 g1 (fun k hk' => hk k (List.mem_cons_of_mem _ hk')) (by omega) (by simp; omega)
    refine ⟨⟨a, k, q⟩ :: ws, s2, g2, ?_, by simp [k2], by simp only [List.length_cons]; omega, ?_⟩
    · intro w hw
      rcases List.mem_cons.mp hw with rfl | hw
      · exact ⟨h1, hk1.2, h2, h3⟩
      · exact k1 w hw
    · rw [iv, List.map_cons, lcmL, if_pos ⟨rfl, by simp [most]; omega⟩, e]
      show lcmL [] _ (iv ks) (acc ++ [wv ⟨a, k, q⟩]) (M cs s1 g1 []) = _
      rw [e2]
      simp
end MI
end
section
set_option Elab.async false
set_option linter.all false
set_option maxRecDepth 100000
set_option maxHeartbeats 4000000
set_option exponentiation.threshold 20000
namespace MI
open PySem PySem.Spec PyProof.Rows L2
theorem slc_take (μ : Mem) {xs : List MV} {k : Nat} (h : k ≤ xs.length) : evSlc μ (.tup xs) none (some (k : Int)) = some (.tup (xs.take k)) := by
  have : ¬ ((k : Int) < 0) := by omega
  have e : HT.sIx xs.length xs.length (some (k : Int)) = k := by
    simp [HT.sIx, this]
    omega
  have e0 : HT.sIx xs.length 0 none = 0 := by simp [HT.sIx]
  simp [evSlc, cut, e, e0]
theorem slc_drop (μ : Mem) {xs : List MV} {k : Nat} (h : k ≤ xs.length) : evSlc μ (.tup xs) (some (k : Int)) none = some (.tup (xs.drop k)) := by
  have : ¬ ((k : Int) < 0) := by omega
  have e : HT.sIx xs.length 0 (some (k : Int)) = k := by
    simp [HT.sIx, this]
    omega
  have e0 : HT.sIx xs.length xs.length none = xs.length := by simp [HT.sIx]
  have e1 : (xs.drop k).take (xs.length - k) = xs.drop k := List.take_of_length_le (by simp)
  simp [evSlc, cut, e, e0, e1]
theorem bi_srt (μ : Mem) (ws : List Wr) (h : ws.length ≤ 1000) : evBi μ .srt1 [.lv (ws.map wv)] = some (.lv ((sortW ws).map wv)) := by
  obtain ⟨h1, h2⟩ := srt_wvs ws h
  have hd : dcOf μ (.lv (ws.map wv)) = none := rfl
  have hs : sqOf μ (.lv (ws.map wv)) = some (ws.map wv) := rfl
  simp only [evBi, hd, hs, Option.bind_some, h1, if_true, h2]
theorem grL_ev (W : Wd) (n p : Nat) (hp : p ≤ 60) (o1 o2 o3 o4 o5 o6 o7 : Option MV) (μ : Mem) : ev W grL (grE n p o1 o2 o3 o4 o5 o6 o7) μ = some (.ok (.lv ((List.range p).map fun (k : Nat) => MV.tup [.int k])), μ) := by
  have hr := rng_iv (show p ≤ 1000 by omega)
  have q := lcm_iv (gd := []) (step := lcS W [11] (.nm 11) (.con (.bl true)) (.tup (.cons (.var 11) .nil)) (grE n p o1 o2 o3 o4 o5 o6 o7)) (μ := μ) rfl (List.range p) (fun k => MV.tup [.int k]) (by simp; omega) fun k hk => by
    simp (implicitDefEqProofs := false) [execs, exec, ev, evs, evIt, asg, asgs, asgK, evCmp, ltD_int, outc, most, evBin, bopI, isCls, isCl, blO, intO, dat_int, eqv_int, gc_int, gc_bl, gc_fr, fx0, fx1, lcS, wipe]
  refine lcm_ev (xs := iv (List.range p)) (gd := []) (μ1 := μ) ?_ q
  generalize iv (List.range p) = r at *
  simp (implicitDefEqProofs := false) [execs, exec, ev, evs, evIt, asg, asgs, asgK, evCmp, ltD_int, outc, most, evBin, bopI, isCls, isCl, blO, intO, dat_int, eqv_int, gc_int, gc_bl, gc_fr, fx0, fx1, hr]
theorem grQ_ev (W : Wd) (n p : Nat) (ws : List Wr) (hl : ws.length ≤ 1000) (o2 o3 o4 o5 o6 o7 : Option MV) (μ : Mem) : ev W grQ (grE n p (some (.lv (ws.map wv))) o2 o3 o4 o5 o6 o7) μ = some (.ok (.lv ((ws.map (·.q)).map fr)), μ) := by
  have q := lcmL_gen (gd := []) (f := wv) (g := fun w => some (fr w.q)) (step := lcS W [12] (.nm 12) (.con (.bl true)) (.idx (.var 12) (.con (.int 2))) (grE n p (some (.lv (ws.map wv))) o2 o3 o4 o5 o6 o7)) (μ := μ) rfl ws [] (fun w hw => by
    have i4 : evIdx μ (wv w) (.int 2) = some (fr w.q) := wx2 _ _ _ _
    generalize wv w = y at *
    generalize ws.map wv = Y at *
    simp (implicitDefEqProofs := false) [execs, exec, ev, evs, evIt, asg, asgs, asgK, evCmp, ltD_int, outc, most, evBin, bopI, isCls, isCl, blO, intO, dat_int, eqv_int, gc_int, gc_bl, gc_fr, fx0, fx1, lcS, wipe, i4]) (by simp [most]; omega)
  have hx : ([] ++ List.filterMap (fun w : Wr => some (fr w.q)) ws) = (ws.map (·.q)).map fr := by
    rw [List.nil_append, List.filterMap_eq_map', List.map_map]; rfl
  rw [hx] at q
  refine lcm_ev (xs := ws.map wv) (gd := []) (μ1 := μ) ?_ q
  simp (implicitDefEqProofs := false) [execs, exec, ev, evs, evIt, asg, asgs, asgK, evCmp, ltD_int, outc, most, evBin, bopI, isCls, isCl, blO, intO, dat_int, eqv_int, gc_int, gc_bl, gc_fr, fx0, fx1, sqOf, gdOf]
theorem r_great {cs : List Int} (hc : cs.length = 64) {s : Nat} (hs : s < 2 ^ 35) (gs : List Int) :
    ∃ (s' : Nat) (gs' : List Int), s' ≤ s + 2000 ∧ gc (List.length (M cs s gs [])) (M cs s gs []) (den subT fldT none prT 14 none 40 [.loc 0] (M cs s gs [])) = some (.ok (.bl true), M cs s' gs' []) := by
  suffices hh : ∃ (s' : Nat) (gs' : List Int) (rest : Mem), s' ≤ s + 2000 ∧ den subT fldT none prT 14 none 40 [.loc 0] (M cs s gs []) = some (.ok (.bl true), M cs s' gs' rest) by
    obtain ⟨s', gs', rest, h, e⟩ := hh
    refine ⟨s', gs', h, ?_⟩
    rw [e]
    exact gc_Mg cs s gs rest (.bl true) rfl s' gs'
  rw [den_at (F := ⟨1, 13, b__law_great_right⟩) rfl rfl (by decide)]
  show ∃ (s' : Nat) (gs' : List Int) (rest : Mem), s' ≤ s + 2000 ∧ outc (execs W13 b__law_great_right [some (.loc 0), none, none, none, none, none, none, none, none, none, none, none, none] (M cs s gs [])) = _
  rw [gr_body]
  obtain ⟨v1, g1, p1, q1, e1⟩ := g_draw 11 30 (by decide) (by decide) hc (show s < 2 ^ 40 by omega) gs []
  obtain ⟨v2, g2, p2, q2, e2⟩ := g_draw 11 8 (by decide) (by decide) hc (show s + 1 < 2 ^ 40 by omega) g1 []
  obtain ⟨n0, rfl⟩ : ∃ k : Nat, v1 = (k : Int) := ⟨v1.toNat, by omega⟩
  obtain ⟨p0, rfl⟩ : ∃ k : Nat, v2 = (k : Int) := ⟨v2.toNat, by omega⟩
  have hn' : (11 : Int) + (n0 : Int) = ((11 + n0 : Nat) : Int) := by omega
  have hp' : (1 : Int) + (p0 : Int) = ((1 + p0 : Nat) : Int) := by omega
  have f0 : exec W13 gr0 [some (.loc 0), none, none, none, none, none, none, none, none, none, none, none, none] (M cs s gs []) = some (.nxt (grE (11 + n0) (1 + p0) none none none none none none none), M cs (s + 1 + 1) g2 []) := by
    simp only [grE, ← hn', ← hp']
    simp (implicitDefEqProofs := false) [execs, exec, ev, evs, evIt, asg, asgs, asgK, evCmp, ltD_int, outc, most, evBin, bopI, isCls, isCl, blO, intO, dat_int, eqv_int, gc_int, gc_bl, gc_fr, fx0, fx1, gr0, e1, e2]
  have hn2 : 11 ≤ 11 + n0 ∧ 11 + n0 ≤ 40 := by omega
  have hp2 : 1 ≤ 1 + p0 ∧ 1 + p0 ≤ 8 := by omega
  clear hn' hp' e1 e2
  generalize 11 + n0 = n at *
  generalize 1 + p0 = p at *
  obtain ⟨ws0, s3, g3, w1, w2, w3, e3⟩ := gr_for hc (n := n) (p := p) (by omega) ((List.range (n - p)).map (p + ·)) [] (s + 1 + 1) g2 (fun k hk => by
    obtain ⟨j, hj, rfl⟩ := List.mem_map.mp hk
    have := List.mem_range.mp hj
    omega) (by simp; omega) (by simp; omega)
  simp only [List.nil_append, List.length_map, List.length_range] at w3 e3
  have hL0 : ws0.length = n - p := by have := congrArg List.length w2; simpa using this
  have hL : (sortW ws0).length = n - p := by rw [(sortW_perm ws0).length_eq]; exact hL0
  have hw : WOk n (sortW ws0) := fun w hw => w1 w ((sortW_perm ws0).mem_iff.mp hw)
  have hb : ((sortW ws0).map (·.b)).Perm ((List.range (n - p)).map (p + ·)) := by rw [← w2]; exact (sortW_perm ws0).map _
  have g := good_sort (p := p) w1 (by omega) (by omega) (by omega) (by omega)
  have hpr : prod (rowQ (sortW ws0) (List.range (sortW ws0).length)) 1 = prod (ws0.map (·.q)) 1 := by
    rw [rowQ_range]
    exact prod_perm ((sortW_perm ws0).map _) 1
  have hbi := fun μ => bi_srt μ ws0 (by omega)
  have hq := fun (o2 o3 o4 o5 o6 o7 : Option MV) (μ : Mem) => grQ_ev W13 n p ws0 (by omega) o2 o3 o4 o5 o6 o7 μ
  have hqb : ∀ q ∈ ws0.map (·.q), Bd 20 20 q := fun q hq => by
    obtain ⟨w, hw, rfl⟩ := List.mem_map.mp hq
    exact (w1 w hw).2.2.2
  have hlen0 := fun μ => len_lv μ (ws0.map wv)
  simp only [List.length_map, hL0] at hlen0
  have hql : (ws0.map (·.q)).length ≤ 300 := by simp; omega
  have f1 : exec W13 gr1 (grE n p none none none none none none none) (M cs (s + 1 + 1) g2 []) = some (.nxt (grE n p (some (.lv (ws0.map wv))) none none none none none none), M cs s3 g3 []) := by
    have hr := rng_iv2 (show p ≤ 1000 by omega) (show n ≤ 1000 by omega)
    have z := lcm_ev (W := W13) (it := .rng (.cons (.var 9) (.cons (.var 8) .nil))) (ρ := grE n p none none none none none none none) (xs := iv ((List.range (n - p)).map (p + ·))) (gd := []) (μ := M cs (s + 1 + 1) g2 []) (μ1 := M cs (s + 1 + 1) g2 []) (by
      generalize iv ((List.range (n - p)).map (p + ·)) = r at *
      simp (implicitDefEqProofs := false) [execs, exec, ev, evs, evIt, asg, asgs, asgK, evCmp, ltD_int, outc, most, evBin, bopI, isCls, isCl, blO, intO, dat_int, eqv_int, gc_int, gc_bl, gc_fr, fx0, fx1, hr]) e3
    unfold gr1
    generalize (E.lcm [10] _ _ _ _) = X at z ⊢
    simp (implicitDefEqProofs := false) [execs, exec, ev, evs, evIt, asg, asgs, asgK, evCmp, ltD_int, outc, most, evBin, bopI, isCls, isCl, blO, intO, dat_int, eqv_int, gc_int, gc_bl, gc_fr, fx0, fx1, z]
  generalize sortW ws0 = ws at *
  generalize hqs : ws0.map (·.q) = qs at *
  generalize hWv : ws0.map wv = Wv at *
  have f2 : ∀ μ, exec W13 gr2 (grE n p (some (.lv Wv)) none none none none none none) μ = some (.nxt (grE n p (some (.lv Wv)) (some (nv n p ws)) none none none none none), μ) := fun μ => by
    simp (implicitDefEqProofs := false) [execs, exec, ev, evs, evIt, asg, asgs, asgK, evCmp, ltD_int, outc, most, evBin, bopI, isCls, isCl, blO, intO, dat_int, eqv_int, gc_int, gc_bl, gc_fr, fx0, fx1, gr2, hbi, bi_tup, nv]
  obtain ⟨l, l1, l2, l3⟩ := whole_lead hw hb (by omega)
  have row1 : ∀ k ∈ List.range ws.length, k < ws.length := fun k hk => List.mem_range.mp hk
  have row1l : (List.range ws.length).length ≤ 40 := by simp; omega
  have row1p : (List.range ws.length).Pairwise (· < ·) := List.pairwise_lt_range
  have f3 : ∀ μ, exec W13 gr3 (grE n p (some (.lv Wv)) (some (nv n p ws)) none none none none none) μ = some (.nxt (grE n p (some (.lv Wv)) (some (nv n p ws)) (some (.tup (iv (List.range ws.length)))) none none none none), μ) := fun μ => by
    have hr := rng_iv (show n - p ≤ 1000 by omega)
    have hm : (iv (List.range ws.length)).length ≤ 16000000 := by simp; omega
    rw [← hL] at hr hlen0
    generalize iv (List.range ws.length) = r at *
    generalize nv n p ws = N at *
    simp (implicitDefEqProofs := false) [execs, exec, ev, evs, evIt, asg, asgs, asgK, evCmp, ltD_int, outc, most, evBin, bopI, isCls, isCl, blO, intO, dat_int, eqv_int, gc_int, gc_bl, gc_fr, fx0, fx1, gr3, hlen0, hr, hm]
  obtain ⟨v4, g4, p4, q4, e4⟩ := g_draw 11 ((n - p : Nat) : Int) (by omega) (Nat.lt_of_le_of_lt (show (((n - p : Nat) : Int)).natAbs ≤ 2 ^ 10 by omega) (Nat.pow_lt_pow_right (by decide) (by decide))) hc (show s3 < 2 ^ 40 by omega) g3 []
  obtain ⟨t, rfl⟩ : ∃ k : Nat, v4 = (k : Int) := ⟨v4.toNat, by omega⟩
  have ht : t < ws.length := by omega
  have f4 : exec W13 gr4 (grE n p (some (.lv Wv)) (some (nv n p ws)) (some (.tup (iv (List.range ws.length)))) none none none none) (M cs s3 g3 []) = some (.nxt (grE n p (some (.lv Wv)) (some (nv n p ws)) (some (.tup (iv (List.range ws.length)))) (some (.int t)) none none none), M cs (s3 + 1) g4 []) := by
    generalize iv (List.range ws.length) = r at *
    generalize nv n p ws = N at *
    generalize ((n - p : Nat) : Int) = np at *
    simp (implicitDefEqProofs := false) [execs, exec, ev, evs, evIt, asg, asgs, asgK, evCmp, ltD_int, outc, most, evBin, bopI, isCls, isCl, blO, intO, dat_int, eqv_int, gc_int, gc_bl, gc_fr, fx0, fx1, gr4, hlen0, e4]
  have f5 : ∀ μ, exec W13 gr5 (grE n p (some (.lv Wv)) (some (nv n p ws)) (some (.tup (iv (List.range ws.length)))) (some (.int t)) none none none) μ = some (.nxt (grE n p (some (.lv Wv)) (some (nv n p ws)) (some (.tup (iv (List.range ws.length)))) (some (.int t)) (some (.tup (iv ((List.range ws.length).eraseIdx t)))) none none), μ) := fun μ => by
    have t1 := slc_take μ (xs := iv (List.range ws.length)) (k := t) (by simp; omega)
    have t2 := slc_drop μ (xs := iv (List.range ws.length)) (k := t + 1) (by simp; omega)
    have t3 : (((t + 1 : Nat)) : Int) = (t : Int) + 1 := by omega
    rw [t3] at t2
    have t4 : iv ((List.range ws.length).eraseIdx t) = (iv (List.range ws.length)).take t ++ (iv (List.range ws.length)).drop (t + 1) := by
      rw [iv, ← eraseIdx_mp, List.eraseIdx_eq_take_drop_succ]
    have t5 : ((iv (List.range ws.length)).take t).length + ((iv (List.range ws.length)).drop (t + 1)).length ≤ 16000000 := by
      simp; omega
    rw [t4]
    generalize (iv (List.range ws.length)).take t = A at *
    generalize (iv (List.range ws.length)).drop (t + 1) = B at *
    generalize iv (List.range ws.length) = r at *
    generalize nv n p ws = N at *
    simp (implicitDefEqProofs := false) [execs, exec, ev, evs, evIt, asg, asgs, asgK, evCmp, ltD_int, outc, most, evBin, bopI, isCls, isCl, blO, intO, dat_int, eqv_int, gc_int, gc_bl, gc_fr, fx0, fx1, gr5, t1, t2, t5, partO]
  have r1 := rest_lead hw hb (by omega) ht
  have row2 : ∀ k ∈ (List.range ws.length).eraseIdx t, k < ws.length := fun k hk => List.mem_range.mp (List.mem_of_mem_eraseIdx hk)
  have row2l : ((List.range ws.length).eraseIdx t).length ≤ 40 := Nat.le_trans (List.length_eraseIdx_le _ _) row1l
  have row2p : ((List.range ws.length).eraseIdx t).Pairwise (· < ·) := row1p.sublist (List.eraseIdx_sublist _ _)
  have a1 := fun μ => r_isf g row1 (by omega) row1p 7 μ
  rw [l1] at a1
  have a2 := fun μ => r_lots 6 g row1 (by omega) row1p μ l1
  rw [lots_eq g row1 l1, plots_id l3] at a2
  have a2n : (MV.tup ((List.range p).map fun (k : Nat) => MV.tup [.int k])).noL = true := by
    rw [← plots_id l3]; exact noL_plots l p
  have a2p : Pl 2 (MV.tup ((List.range p).map fun (k : Nat) => MV.tup [.int k])) := by
    rw [← plots_id l3]; exact Pl_plots l p (by omega)
  have a3 := fun μ => r_weight 6 g row1 (by omega) row1p μ l1
  rw [hpr] at a3
  have a4 := fun μ => r_isf g row2 (by omega) row2p 7 μ
  rw [r1] at a4
  have a5 := fun μ => r_weight_no 6 g row2 (by omega) row2p μ r1
  have a6 := fun μ => r_ltimes 10 qs μ hqb hql
  have hgl := fun (o1 o2 o3 o4 o5 o6 o7 : Option MV) (μ : Mem) => grL_ev W13 n p (by omega) o1 o2 o3 o4 o5 o6 o7 μ
  generalize iv ((List.range ws.length).eraseIdx t) = R2 at *
  generalize iv (List.range ws.length) = R1 at *
  generalize nv n p ws = N at *
  generalize ((List.range p).map fun (k : Nat) => MV.tup [.int k]) = pl at *
  generalize prod qs 1 = pq at *
  have a2g := fun μ => gc_same (μ := μ) a2n
  have f6 : exec W13 gr6 (grE n p (some (.lv Wv)) (some N) (some (.tup R1)) (some (.int t)) (some (.tup R2)) none none) (M cs (s3 + 1) g4 []) = some (.nxt (grE n p (some (.lv Wv)) (some N) (some (.tup R1)) (some (.int t)) (some (.tup R2)) (some (.loc 2)) none), M cs (s3 + 1) g4 [.lst [.bl true, .tup pl, fr pq, .bl false]]) := by
    have hM : M cs (s3 + 1) g4 [] ++ [.lst [.bl true, .tup pl, fr pq, .bl false]] = M cs (s3 + 1) g4 [.lst [.bl true, .tup pl, fr pq, .bl false]] := rfl
    have hN : (M cs (s3 + 1) g4 []).length = 2 := rfl
    have b1 := a1 (M cs (s3 + 1) g4 [])
    have b2 := a2 (M cs (s3 + 1) g4 [])
    have b2' := a2g (M cs (s3 + 1) g4 [])
    have b3 := a3 (M cs (s3 + 1) g4 [])
    have b4 := a4 (M cs (s3 + 1) g4 [])
    rw [← hM, show MV.loc 2 = MV.loc (M cs (s3 + 1) g4 []).length from rfl]
    generalize M cs (s3 + 1) g4 [] = μ at *
    simp (implicitDefEqProofs := false) [execs, exec, ev, evs, evIt, asg, asgs, asgK, evCmp, ltD_int, outc, most, evBin, bopI, isCls, isCl, blO, intO, dat_int, eqv_int, gc_int, gc_bl, gc_fr, fx0, fx1, gr6, b1, b2, b2', b3, b4]
  have f7 : exec W13 gr7 (grE n p (some (.lv Wv)) (some N) (some (.tup R1)) (some (.int t)) (some (.tup R2)) (some (.loc 2)) none) (M cs (s3 + 1) g4 [.lst [.bl true, .tup pl, fr pq, .bl false]]) = some (.nxt (grE n p (some (.lv Wv)) (some N) (some (.tup R1)) (some (.int t)) (some (.tup R2)) (some (.loc 2)) none), M cs (s3 + 1) g4 [.lst [.bl true, .tup pl, fr pq, .bl false, .tup [.str "paper", .str "forest"]]]) := by
    have x := hrd_4 12 (.app false 18 (.cons (.var 2) (.cons (.var 5) .nil)) []) (grE n p (some (.lv Wv)) (some N) (some (.tup R1)) (some (.int t)) (some (.tup R2)) (some (.loc 2)) none) (M cs (s3 + 1) g4 [.lst [.bl true, .tup pl, fr pq, .bl false]]) (v := .str "forest") rfl (app_err _ _ _ _ _ [N, .tup R2] rfl (by simp [evs, ev]) (a5 _))
    have y := M_app cs (s3 + 1) g4 [.bl true, .tup pl, fr pq, .bl false] (.tup [.str "paper", .str "forest"]) (by simp)
    have z := M_ls cs (s3 + 1) g4 [.bl true, .tup pl, fr pq, .bl false]
    simp only [List.cons_append, List.nil_append] at y
    unfold gr7
    generalize (E.hrd 37 (.app false 18 (.cons (.var 2) (.cons (.var 5) .nil)) [])) = X at x ⊢
    generalize M cs (s3 + 1) g4 [.lst [.bl true, .tup pl, fr pq, .bl false]] = μ1 at *
    generalize M cs (s3 + 1) g4 _ = μ2 at *
    simp (implicitDefEqProofs := false) [execs, exec, ev, evs, evIt, asg, asgs, asgK, evCmp, ltD_int, outc, most, evBin, bopI, isCls, isCl, blO, intO, dat_int, eqv_int, gc_int, gc_bl, gc_fr, fx0, fx1, x, y, z]
  have hμ : (M cs (s3 + 1) g4 [.lst [.bl true, .tup pl, fr pq, .bl false, .tup [.str "paper", .str "forest"]]])[2]? = some (.lst [.bl true, .tup pl, fr pq, .bl false, .tup [.str "paper", .str "forest"]]) := rfl
  have kk := r_like_at 2 2 [.bl true, .tup pl, fr pq, .bl false, .tup [.str "paper", .str "forest"]] 12 _ hμ (by simp) (fun x hx => by
    simp only [List.mem_cons, List.not_mem_nil, or_false] at hx
    rcases hx with rfl | rfl | rfl | rfl | rfl
    · exact plBo 2 _
    · exact a2p
    · exact Pl_up (Pl_fr _)
    · exact plBo 2 _
    · exact Pl_pair (plS 1 _ str_paper) (plS 1 _ str_forest)) (by decide)
  refine ⟨s3 + 1, g4, [.lst [.bl true, .tup pl, fr pq, .bl false, .tup [.str "paper", .str "forest"]]], by omega, ?_⟩
  generalize M cs (s3 + 1) g4 [.lst [.bl true, .tup pl, fr pq, .bl false, .tup [.str "paper", .str "forest"]]] = μ at *
  have f8 : exec W13 gr8 (grE n p (some (.lv Wv)) (some N) (some (.tup R1)) (some (.int t)) (some (.tup R2)) (some (.loc 2)) none) μ = some (.nxt (grE n p (some (.lv Wv)) (some N) (some (.tup R1)) (some (.int t)) (some (.tup R2)) (some (.loc 2)) (some (.lv [.bl true, .tup pl, fr pq, .bl false, .tup [.str "paper", .str "forest"]]))), μ) := by
    have b1 := hgl (some (.lv Wv)) (some N) (some (.tup R1)) (some (.int t)) (some (.tup R2)) (some (.loc 2)) none μ
    have b2 := hq (some N) (some (.tup R1)) (some (.int t)) (some (.tup R2)) (some (.loc 2)) none μ
    have b3 := a6 μ
    have b4 := bi_tup μ pl
    unfold gr8
    generalize qs.map fr = Q at *
    generalize grL = X1 at b1 ⊢
    generalize grQ = X2 at b2 ⊢
    simp (implicitDefEqProofs := false) [execs, exec, ev, evs, evIt, asg, asgs, asgK, evCmp, ltD_int, outc, most, evBin, bopI, isCls, isCl, blO, intO, dat_int, eqv_int, gc_int, gc_bl, gc_fr, fx0, fx1, b1, b2, b3, b4]
  have f9 : exec W13 gr9 (grE n p (some (.lv Wv)) (some N) (some (.tup R1)) (some (.int t)) (some (.tup R2)) (some (.loc 2)) (some (.lv [.bl true, .tup pl, fr pq, .bl false, .tup [.str "paper", .str "forest"]]))) μ = some (.ret (.bl true), μ) := by
    simp (implicitDefEqProofs := false) [execs, exec, ev, evs, evIt, asg, asgs, asgK, evCmp, ltD_int, outc, most, evBin, bopI, isCls, isCl, blO, intO, dat_int, eqv_int, gc_int, gc_bl, gc_fr, fx0, fx1, gr9, kk]
  unfold gr
  rw [execs, f0, seqK_nxt, execs, f1, seqK_nxt, execs, f2, seqK_nxt, execs, f3, seqK_nxt, execs, f4, seqK_nxt, execs, f5, seqK_nxt, execs, f6, seqK_nxt, execs, f7, seqK_nxt, execs, f8, seqK_nxt, execs, f9, seqK_ret]
  rfl
end MI
end
section
set_option Elab.async false
set_option linter.all false
set_option maxRecDepth 100000
set_option maxHeartbeats 4000000
set_option exponentiation.threshold 20000
namespace MI
open PySem PySem.Spec PyProof.Rows L2
abbrev lwB : SS := (.cons (.ite (.orr (.nt (.app false 38 (.cons (.var 1) .nil) [])) (.nt (.app false 39 (.cons (.var 1) .nil) []))) (.cons (.ret (.con (.bl false))) .nil) .nil) .nil)
noncomputable abbrev W14 : Wd := wdAt subT fldT none prT 14 none
theorem lw_for {cs : List Int} (hc : cs.length = 64) (x : MV) : ∀ (xs : List MV) (s : Nat) (gs : List Int) (o2 : Option MV), s + 4000 * xs.length < 2 ^ 34 →
    ∃ (s' : Nat) (gs' : List Int) (o2' : Option MV), s' ≤ s + 4000 * xs.length ∧ forL [] (stp W14 (.nm 2) lwB) xs [some x, some (.loc 0), o2] (M cs s gs []) = some (.nxt [some x, some (.loc 0), o2'], M cs s' gs' [])
  | [], s, gs, o2, _ => ⟨s, gs, o2, by simp, forL_nil rfl⟩
  | y :: xs, s, gs, o2, hs => by
    simp only [List.length_cons] at hs
    obtain ⟨s1, g1, h1, e1⟩ := r_right hc (show s < 2 ^ 35 by omega) gs
    obtain ⟨s2, g2, h2, e2⟩ := r_told hc (show s1 < 2 ^ 35 by omega) g1
    have e : stp W14 (.nm 2) lwB y [some x, some (.loc 0), o2] (M cs s gs []) = some (.nxt [some x, some (.loc 0), some y], M cs s2 g2 []) := by
      simp (implicitDefEqProofs := false) [execs, exec, ev, evs, evIt, asg, asgs, asgK, evCmp, ltD_int, outc, most, evBin, bopI, isCls, isCl, blO, intO, dat_int, eqv_int, gc_int, gc_bl, gc_fr, fx0, fx1, stp, e1, e2]
    obtain ⟨s', g', o2', h3, e3⟩ := lw_for hc x xs s2 g2 (some y) (by omega)
    exact ⟨s', g', o2', by simp only [List.length_cons]; omega, (forL_nxt rfl e).trans e3⟩
theorem answers : Answers := by
  intro ns hl hb x hx
  have hx' : ∀ μ, sqOf μ x = some (ns.map .int) := fun μ => by rcases hx with rfl | rfl <;> rfl
  have hg : ∀ xs, gdOf x xs = [] := fun xs => by rcases hx with rfl | rfl <;> rfl
  obtain ⟨cs, gs, hc, e1⟩ := r_begun 12 x ns hx' hg hl
  obtain ⟨s', g', o2, h, f⟩ := lw_for hc x (iv (List.range 3)) 0 gs none (by simp)
  have hs' : s' ≤ 20000 := by simp at h; omega
  obtain ⟨s2, g2, h2, e2⟩ := r_great hc (show s' < 2 ^ 35 by omega) g'
  obtain ⟨s3, g3, h3, e3⟩ := r_oddR hc (show s2 < 2 ^ 35 by omega) g2
  refine ⟨M cs s3 g3 [], ?_⟩
  have hb : b_law = .cons (.asg (.nm 1) (.app true 22 (.cons (.var 0) .nil) [])) (.cons (.fr (.nm 2) (.rng (.cons (.con (.int 3)) .nil)) lwB) (.cons (.ret (.an (.app false 40 (.cons (.var 1) .nil) []) (.app false 41 (.cons (.var 1) .nil) []))) .nil)) := rfl
  have f1 : exec W14 (.asg (.nm 1) (.app true 22 (.cons (.var 0) .nil) [])) [some x, none, none] [] = some (.nxt [some x, some (.loc 0), none], M cs 0 gs []) := by simp (implicitDefEqProofs := false) [execs, exec, ev, evs, evIt, asg, asgs, asgK, evCmp, ltD_int, outc, most, evBin, bopI, isCls, isCl, blO, intO, dat_int, eqv_int, gc_int, gc_bl, gc_fr, fx0, fx1, e1]
  have f2 : exec W14 (.fr (.nm 2) (.rng (.cons (.con (.int 3)) .nil)) lwB) [some x, some (.loc 0), none] (M cs 0 gs []) = _ := (fr_ev (g := .nm 2) (b := lwB) (show evIt W14 (.rng (.cons (.con (.int 3)) .nil)) [some x, some (.loc 0), none] (M cs 0 gs []) = some (.ok (iv (List.range 3), []), M cs 0 gs []) by
    have hr : rngOf [.int 3] = some (iv (List.range 3)) := rng_iv (n := 3) (by omega)
    generalize iv (List.range 3) = r at *
    simp (implicitDefEqProofs := false) [execs, exec, ev, evs, evIt, asg, asgs, asgK, evCmp, ltD_int, outc, most, evBin, bopI, isCls, isCl, blO, intO, dat_int, eqv_int, gc_int, gc_bl, gc_fr, fx0, fx1, hr])).trans f
  have f3 : exec W14 (.ret (.an (.app false 40 (.cons (.var 1) .nil) []) (.app false 41 (.cons (.var 1) .nil) []))) [some x, some (.loc 0), o2] (M cs s' g' []) = some (.ret (.bl true), M cs s3 g3 []) := by simp (implicitDefEqProofs := false) [execs, exec, ev, evs, evIt, asg, asgs, asgK, evCmp, ltD_int, outc, most, evBin, bopI, isCls, isCl, blO, intO, dat_int, eqv_int, gc_int, gc_bl, gc_fr, fx0, fx1, e2, e3]
  unfold topDen
  rw [if_pos ⟨rfl, by decide⟩]
  show outc (execs W14 b_law [some x, none, none] []) = _
  rw [hb, execs, f1, seqK_nxt, execs, f2, seqK_nxt, execs, f3, seqK_ret]
  rfl
end MI
end
section
set_option Elab.async false
set_option linter.all false
set_option maxRecDepth 100000
set_option maxHeartbeats 0
open PySem PySem.W PySem.Calls PyProof.Rows
theorem MI.holds (A : MI.Answers) : PySem.Challenge.rw_portstell_k15_forests_judged.Holds := by
  w_on; o_law
  refine HandSHeadRun.head_any (r := MI.hdW) (q := view MI.hdW.prog [57]) (H := MI.hdK) (ob := MI.hdO) (M := 4000) (loose := MI.hdL) (d := HandSHeadRun.topDef MI.hdW.prog 57) (kwd := []) MI.hdO_eq
    (by kernel_rfl) (fun s => by kernel_rfl) MI.hd_run (by kernel_rfl) (by kernel_rfl) (by kernel_rfl) (by rfl) (by first | assumption | decide +kernel) (by decide +kernel) ⟨rfl, rfl, rfl, rfl, rfl, by decide +kernel⟩ ?hw ?hc
  case hw => w_witness2
  case hc =>
    refine LamX.walk_ofTsE (l := PySem.Challenge.rw_portstell_k15_forests_judged) (n := 63) (k := 45) (x := "script") (CX := fun w => L2.CX MI.hdW.prog w) rfl (by decide) (by kernel_rfl) ⟨rfl, by decide, by decide⟩ ?F (fun _ _ _ _ _ z => ?_)
    · intro w mg fa h Y G hmg0
      obtain ⟨K, KX, c⟩ := Y
      have hmg : mg ("law" : PySem.Str) = some (.ref fa) := by
        have e : (HandSHeadRun.topDef MI.hdW.prog 57).name = ("law" : PySem.Str) := by kernel_rfl
        rw [← e]
        exact hmg0
      exact ⟨K, KX, MI.law_at A KX G hmg c⟩
    · obtain ⟨_, _, _, _, _, _, _, _, _, _, _, _, _, _, _, _, q⟩ := z
end
theorem PySem.Challenge.cw_portstell_k15_forests_judged_holds : PySem.Challenge.rw_portstell_k15_forests_judged.Holds :=
  MI.holds MI.answers
