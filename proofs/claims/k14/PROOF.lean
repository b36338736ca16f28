import PyProof.Rows.All
import Wide.All
import OpenK.AllK
import Wide.FinOn
import HandS.ForMost
import HandS.TupAny
import KE.KDictKeyed
import HandS.Deep
import HandS.NoneIn
import KE.KDictDisplayH
import HandS.Conv
import HandS.IsInst
import HandS.Strs
import HandS.Text
import KE.SortData
import PyProof.Rows.SortShellAny
import HandS.Style
import HandS.Codes
import HandS.Walk
import HandS.Defaults
import HandS.HeadHook2
import KE.KStateDown
import HandS.Head0
import HandS.Head1
import HandS.Head2
import HandS.HeadEnd
import HandS.HeadHook1
import HandS.ForExc
import HandS.ExcIs
import HandS.WordsExc
import PySem.Challenge.RW_breakprints_k14_statements_left_out
set_option Elab.async false
set_option linter.all false
set_option maxRecDepth 100000
set_option maxHeartbeats 4000000
/-! A small deep language for pure Python over data, with an interpreter. -/
namespace BP
open PySem

/-- data -/
inductive D where
  | non
  | bl (b : Bool)
  | int (i : Int)
  | str (s : List Nat)
  | tup (ds : List D)
  | lst (ds : List D)
  /-- the law's script -/
  | scr (ns : List Int)
  /-- a dict that is not changed any more -/
  | dic (ks vs : List D)
  deriving Inhabited

/-- a field of an owned dict -/
inductive Fld where
  | v (d : D)
  | l (ds : List D)
  deriving Inhabited
/-- what is owned: a list, a dict -/
inductive O where
  | lst (ds : List D)
  | dic (ks : List D) (vs : List Fld)
  deriving Inhabited
inductive Slot where
  | emp
  | val (d : D)
  /-- an owned thing; one that the caller has lent -/
  | own (o : O)
  | lnt (o : O)
  deriving Inhabited
inductive Ret where
  | val (d : D)
  | own (o : O)
  deriving Inhabited
abbrev Env := List Slot

def b2i (b : Bool) : Int := if b then 1 else 0
mutual
/-- == -/
def D.eqv : D → D → Bool
  | .non, .non => true
  | .bl a, .bl b => a == b
  | .bl a, .int j => b2i a == j
  | .int i, .bl b => i == b2i b
  | .int i, .int j => i == j
  | .str a, .str b => a == b
  | .tup a, .tup b => D.eqvs a b
  | .lst a, .lst b => D.eqvs a b
  | _, _ => false
def D.eqvs : List D → List D → Bool
  | [], [] => true
  | x :: xs, y :: ys => D.eqv x y && D.eqvs xs ys
  | _, _ => false
end
mutual
/-- depth; 100 where a script or a dict is within -/
def D.dep : D → Nat
  | .non => 0
  | .bl _ => 0
  | .int _ => 0
  | .str s => if s.all (· < 0x110000) then 0 else 100
  | .tup ds => D.deps ds + 1
  | .lst ds => D.deps ds + 1
  | .scr _ => 100
  | .dic _ _ => 100
def D.deps : List D → Nat
  | [] => 0
  | d :: ds => max (D.dep d) (D.deps ds)
end
mutual
/-- may be a key: no list within -/
def D.hsh : D → Bool
  | .non => true
  | .bl _ => true
  | .int _ => true
  | .str _ => true
  | .tup ds => D.hshs ds
  | _ => false
def D.hshs : List D → Bool
  | [] => true
  | d :: ds => D.hsh d && D.hshs ds
end
/-- no object -/
def D.flat : D → Bool
  | .non => true
  | .bl _ => true
  | .int _ => true
  | .str _ => true
  | _ => false

inductive Bop where
  | add | sub | mul | fdiv | mod | pow
  deriving DecidableEq
inductive Cop where
  | eq | ne | lt | le | gt | ge | isin | notin
  deriving DecidableEq
inductive Blt where
  | len | sum | all | abs | int | min | tuple | list | sorted
  deriving DecidableEq
inductive TyN where
  | str | int | bool | tuple | list
  deriving DecidableEq
inductive Mth where
  | index | join
  deriving DecidableEq
/-- a target -/
inductive Tg where
  | nm (i : Nat)
  | tp (ts : List Tg)
mutual
inductive E where
  | var (i : Nat)
  | frz (i : Nat)
  | mov (i : Nat)
  | glb (n : Nat)
  /-- a module's tuple of texts, asked for a place -/
  | gix (n : Nat) (a : E)
  | cst (d : D)
  | tup (es : List E)
  | lst (es : List E)
  /-- a dict's display with written texts as keys -/
  | dct (ks : List (List Nat)) (vs : List E)
  | bin (op : Bop) (a b : E)
  | cmp (op : Cop) (a b : E)
  | chn (op op' : Cop) (a b c : E)
  | isn (neg : Bool) (a : E)
  | and (a b : E)
  | or (a b : E)
  | not (a : E)
  | neg (a : E)
  | ite (t a b : E)
  | ix (a i : E)
  | sl (a : E) (lo hi : Option E)
  | rev (a : E)
  | call (f : Nat) (args : List E)
  /-- an argument that is lent: the owned thing in a slot -/
  | lent (i : Nat)
  | blt (b : Blt) (args : List E)
  | isi (t : TyN) (a : E)
  | mth (m : Mth) (a b : E)
  | oix (i : Nat) (e : E)
  | oin (neg : Bool) (e : E) (i : Nat)
  | olen (i : Nat)
  | oemp (neg : Bool) (i : Nat)
  | oget (i : Nat) (k d : E)
  | okeys (i : Nat)
  | comp (elt : E) (tg : Tg) (it : It) (conds : List E)
  | comp2 (elt : E) (tg : Tg) (it : It) (tg2 : Tg) (it2 : It)
/-- what is walked: a list or a tuple, range, enumerate, a text -/
inductive It where
  | seq (a : E)
  | rng (a : E)
  | rng2 (a b : E)
  | enm (a : E)
  | sgn (a : E)
end
instance : Inhabited E := ⟨.cst .non⟩
inductive S where
  | set (t : Tg) (e : E)
  | seto (i : Nat) (e : E)
  | par (is : List Nat) (es : List E)
  | drop (e : E)
  | app (i : Nat) (e : E)
  | appf (i : Nat) (k e : E)
  | put (i : Nat) (k e : E)
  | iff (t : E) (a b : List S)
  | whl (t : E) (b : List S)
  | for_ (tg : Tg) (it : It) (b : List S)
  | ret (e : E)
  | reto (e : E)
  | retN
  | nev
  deriving Inhabited

/-! ### environments -/
def get : Env → Nat → Slot
  | [], _ => .emp
  | x :: _, 0 => x
  | _ :: r, i + 1 => get r i
def put : Env → Nat → Slot → Env
  | [], _, _ => []
  | _ :: r, 0, s => s :: r
  | x :: r, i + 1, s => x :: put r i s
/-- the owned or lent thing in a slot; another one in its place -/
def Slot.thing : Slot → Option O
  | .own o => some o
  | .lnt o => some o
  | _ => none
def Slot.with : Slot → O → Slot
  | .lnt _, o => .lnt o
  | _, o => .own o
def gO (ρ : Env) (i : Nat) : Option O := (get ρ i).thing
def pO (ρ : Env) (i : Nat) (o : O) : Env := put ρ i ((get ρ i).with o)
def isLnt : Slot → Bool
  | .lnt _ => true
  | _ => false
def isThing : Slot → Bool
  | .own _ => true
  | .lnt _ => true
  | _ => false
def isLstO : Option O → Bool
  | some (.lst _) => true
  | _ => false
def isDicO : Option O → Bool
  | some (.dic _ _) => true
  | _ => false
/-- another value in a slot (that is not lent) -/
def setS (ρ : Env) (i : Nat) (s : Slot) : Option Env := if isLnt (get ρ i) then none else some (put ρ i s)
def Fld.fz : Fld → D
  | .v d => d
  | .l ds => .lst ds
def O.fz : O → D
  | .lst ds => .lst ds
  | .dic ks vs => .dic ks (vs.map Fld.fz)
def Ret.fz : Ret → D
  | .val d => d
  | .own o => o.fz

/-- the value of what came, frozen -/
def bV {α : Type} (x : Option (Ret × Env)) (k : D → Env → Option α) : Option α :=
  match x with
  | some (r, ρ) => k r.fz ρ
  | none => none
def bR {α : Type} (x : Option (Ret × Env)) (k : Ret → Env → Option α) : Option α :=
  match x with
  | some (r, ρ) => k r ρ
  | none => none
def bL {α : Type} (x : Option (List D × Env)) (k : List D → Env → Option α) : Option α :=
  match x with
  | some (r, ρ) => k r ρ
  | none => none
def rV (d : D) (ρ : Env) : Option (Ret × Env) := some (.val d, ρ)
def rO (o : O) (ρ : Env) : Option (Ret × Env) := some (.own o, ρ)
def oV (d : Option D) (ρ : Env) : Option (Ret × Env) :=
  match d with
  | some d => some (.val d, ρ)
  | none => none
def oR (d : Option Ret) (ρ : Env) : Option (Ret × Env) :=
  match d with
  | some d => some (d, ρ)
  | none => none

/-! ### operations -/
def lineN : Nat := 16777216
def small64 (i : Int) : Bool := decide (-(2 ^ 64) < i) && decide (i < 2 ^ 64)
/-- Python's list * int -/
def repD (ds : List D) (n : Nat) : List D := (List.replicate n ds).flatten
def binop : Bop → D → D → Option Ret
  | .add, .int a, .int b => some (.val (.int (a + b)))
  | .add, .str a, .str b => if a.length + b.length ≤ lineN then some (.val (.str (a ++ b))) else none
  | .add, .tup a, .tup b => if a.length + b.length ≤ lineN then some (.val (.tup (a ++ b))) else none
  | .add, .lst a, .lst b => if a.length + b.length ≤ lineN then some (.own (.lst (a ++ b))) else none
  | .sub, .int a, .int b => some (.val (.int (a - b)))
  | .mul, .int a, .int b => if small64 a || small64 b then some (.val (.int (a * b))) else none
  | .mul, .lst a, .int b => if decide (-(2 ^ 63) ≤ b) && decide (b < 2 ^ 63) && decide (a.length * b.toNat ≤ lineN) then some (.own (.lst (repD a b.toNat))) else none
  | .fdiv, .int a, .int b => if decide (0 < b) && decide (b < 1073741824) then some (.val (.int (a / b))) else none
  | .mod, .int a, .int b => if decide (0 < b) then some (.val (.int (a % b))) else none
  | .pow, .int a, .int b => if decide (0 ≤ b) && decide (b ≤ 1000000) && decide (a.natAbs < 2 ^ 64) then some (.val (.int (a ^ b.toNat))) else none
  | _, _, _ => none
def inD (x : D) : List D → Bool
  | [] => false
  | y :: ys => D.eqv y x || inD x ys
def okEq (a : D) : Bool := decide (D.dep a ≤ 64)
def isIn (a : D) : D → Option Bool
  | .tup ds => if okEq a && ds.all okEq then some (inD a ds) else none
  | .lst ds => if okEq a && ds.all okEq then some (inD a ds) else none
  | .str s => match a with
    | .str [c] => some (decide (c ∈ s))
    | _ => none
  | _ => none
def cmpop : Cop → D → D → Option Bool
  | .eq, a, b => if okEq a && okEq b then some (D.eqv a b) else none
  | .ne, a, b => if okEq a && okEq b then some (!D.eqv a b) else none
  | .lt, .int a, .int b => some (decide (a < b))
  | .le, .int a, .int b => some (decide (a ≤ b))
  | .gt, .int a, .int b => some (decide (b < a))
  | .ge, .int a, .int b => some (decide (b ≤ a))
  | .isin, a, b => isIn a b
  | .notin, a, b => (isIn a b).map (!·)
  | _, _, _ => none
/-- the place of a Python index -/
def ixP (n : Nat) (i : Int) : Option Nat := if 0 ≤ i then (if i < n then some i.toNat else none) else if -(n : Int) ≤ i then some (i + n).toNat else none
def ixL {α : Type} (xs : List α) (i : Int) : Option α := (ixP xs.length i).bind fun j => xs[j]?
def lookD (k : D) : List D → List D → Option D
  | x :: xs, y :: ys => if D.eqv x k then some y else lookD k xs ys
  | _, _ => none
def okKey (k : D) : Bool := D.hsh k && decide (D.dep k ≤ 8)
def ixop (a i : D) : Option D :=
  match a, i with
  | .tup ds, .int i => ixL ds i
  | .lst ds, .int i => ixL ds i
  | .scr ns, .int i => (ixL ns i).map D.int
  | .str s, .int i => if s.length ≤ lineN then (ixL s i).map fun c => .str [c] else none
  | .dic ks vs, k => if okKey k then lookD k ks vs else none
  | _, _ => none
/-- a slice's end -/
def cutP (n d : Nat) : Option Int → Nat
  | none => d
  | some v => if v < 0 then (v + n).toNat else min v.toNat n
def cut {α : Type} (xs : List α) (lo hi : Option Int) : List α := (xs.drop (cutP xs.length 0 lo)).take (cutP xs.length xs.length hi - cutP xs.length 0 lo)
def slop (a : D) (lo hi : Option Int) : Option Ret :=
  match a with
  | .tup ds => some (.val (.tup (cut ds lo hi)))
  | .lst ds => some (.own (.lst (cut ds lo hi)))
  | .str s => if s.length ≤ lineN then some (.val (.str (cut s lo hi))) else none
  | _ => none
def sumD : List D → Option Int
  | [] => some 0
  | .int i :: r => (sumD r).map (i + ·)
  | _ => none
def allD : List D → Option Bool
  | [] => some true
  | .bl b :: r => (allD r).map (b && ·)
  | _ => none
def strsD : List D → Option (List (List Nat))
  | [] => some []
  | .str s :: r => (strsD r).map (s :: ·)
  | _ => none
def leS (a b : List Nat) : Bool := decide (a ≤ b)
def bltop : Blt → List D → Option Ret
  | .len, [.str s] => if s.length ≤ lineN then some (.val (.int s.length)) else none
  | .len, [.tup ds] => some (.val (.int ds.length))
  | .len, [.lst ds] => some (.val (.int ds.length))
  | .len, [.scr ns] => some (.val (.int ns.length))
  | .sum, [.lst ds] => (sumD ds).map fun i => .val (.int i)
  | .all, [.lst ds] => (allD ds).map fun b => .val (.bl b)
  | .abs, [.int i] => some (.val (.int (if i < 0 then -i else i)))
  | .int, [.int i] => some (.val (.int i))
  | .min, [.int i, .int j] => some (.val (.int (if j < i then j else i)))
  | .tuple, [.lst ds] => some (.val (.tup ds))
  | .list, [.lst ds] => some (.own (.lst ds))
  | .list, [.tup ds] => some (.own (.lst ds))
  | .sorted, [.lst ds] => (strsD ds).map fun ss => .own (.lst ((ss.mergeSort leS).map D.str))
  | _, _ => none
def isiop : TyN → D → Option Bool
  | .str, .str _ => some true
  | .int, .int _ => some true
  | .int, .bl _ => some true
  | .bool, .bl _ => some true
  | .tuple, .tup _ => some true
  | .list, .lst _ => some true
  | _, .dic _ _ => none
  | _, .scr _ => none
  | _, _ => some false
def idxD (x : D) : List D → Nat → Option Nat
  | [], _ => none
  | y :: ys, n => if D.eqv y x then some n else idxD x ys (n + 1)
def idxS (x : List Nat) : List (List Nat) → Nat → Option Nat
  | [], _ => none
  | y :: ys, n => if y = x then some n else idxS x ys (n + 1)
def joinS (sep : List Nat) : List (List Nat) → List Nat
  | [] => []
  | [x] => x
  | x :: y :: r => x ++ sep ++ joinS sep (y :: r)
/-- split at one sign -/
def splitS (c : Nat) : List Nat → List (List Nat)
  | [] => [[]]
  | a :: r => if a = c then [] :: splitS c r else match splitS c r with
    | [] => [[a]]
    | w :: ws => (a :: w) :: ws
def lensOk (n : Nat) : List (List Nat) → Bool := fun ss => decide ((ss.map fun s => s.length + n).sum ≤ lineN)
def mthop : Mth → D → D → Option Ret
  | .index, .lst ds, x => if okEq x && ds.all okEq then (idxD x ds 0).map fun n => .val (.int n) else none
  | .join, .str sep, .lst ds => (strsD ds).bind fun ss => if lensOk sep.length ss then some (.val (.str (joinS sep ss))) else none
  | .join, .str sep, .tup ds => (strsD ds).bind fun ss => if lensOk sep.length ss then some (.val (.str (joinS sep ss))) else none
  | _, _, _ => none
def isNon : D → Bool
  | .non => true
  | _ => false
def rangeD (lo : Int) (n : Nat) : List D := (List.range n).map fun i => .int (lo + (i : Nat))
def small62 (i : Int) : Bool := decide (-(2 ^ 62) ≤ i) && decide (i < 2 ^ 62)
def enumD : List D → Nat → List D
  | [], _ => []
  | d :: r, n => .tup [.int n, d] :: enumD r (n + 1)

/-! ### owned dicts -/
def lookF (k : D) : List D → List Fld → Option Fld
  | x :: xs, y :: ys => if D.eqv x k then some y else lookF k xs ys
  | _, _ => none
def putF (k : D) (f : Fld) : List D → List Fld → List D × List Fld
  | x :: xs, y :: ys => if D.eqv x k then (x :: xs, f :: ys) else let r := putF k f xs ys; (x :: r.1, y :: r.2)
  | _, _ => ([k], [f])

/-! ### targets -/
mutual
def asg : Tg → D → Env → Option Env
  | .nm i, d, ρ => setS ρ i (.val d)
  | .tp ts, .tup ds, ρ => asgs ts ds ρ
  | .tp ts, .lst ds, ρ => asgs ts ds ρ
  | .tp _, _, _ => none
def asgs : List Tg → List D → Env → Option Env
  | [], [], ρ => some ρ
  | t :: ts, d :: ds, ρ => (asg t d ρ).bind fun ρ => asgs ts ds ρ
  | _, _, _ => none
end
mutual
def Tg.slots : Tg → List Nat
  | .nm i => [i]
  | .tp ts => Tg.slotss ts
def Tg.slotss : List Tg → List Nat
  | [] => []
  | t :: ts => Tg.slots t ++ Tg.slotss ts
end
/-- ρ with some slots emptied (the first slot is number n) -/
def wipeE (vs : List Nat) : Nat → Env → Env
  | _, [] => []
  | n, x :: r => (if vs.contains n then .emp else x) :: wipeE vs (n + 1) r
/-- ρ with the slots of ρ0 at some places -/
def back (vs : List Nat) : Nat → Env → Env → Env
  | n, x :: r0, y :: r => (if vs.contains n then x else y) :: back vs (n + 1) r0 r
  | _, _, _ => []

/-- some slots emptied, if none of them holds a thing -/
def wipeC (vs : List Nat) (ρ : Env) : Option Env := if vs.all fun v => !isThing (get ρ v) then some (wipeE vs 0 ρ) else none
def addR {α : Type} (x : α) : Option Env → Option (α × Env)
  | some ρ => some (x, ρ)
  | none => none
/-- the turns of a comprehension -/
def compLoop (f : D → Env → Option (List D × Env)) : List D → Env → List D → Option (List D × Env)
  | [], ρ, acc => some (acc, ρ)
  | d :: ds, ρ, acc => match f d ρ with
    | some (ys, ρ1) => if acc.length + ys.length ≤ lineN then compLoop f ds ρ1 (acc ++ ys) else none
    | none => none

abbrev Calls := Nat → List Slot → Option (Ret × Option O)

def lentSlots : List E → List Nat
  | [] => []
  | .lent i :: es => i :: lentSlots es
  | _ :: es => lentSlots es
/-- behind a call: the lent thing (at most one) as it is then -/
def outsTo : List Nat → Option O → Env → Option Env
  | [], none, ρ => some ρ
  | [i], some o, ρ => some (pO ρ i o)
  | _, _, _ => none
/-- the lent things as they stand when the call is made -/
def lentIn : List E → List Slot → Env → Option (List Slot)
  | [], [], _ => some []
  | .lent i :: es, _ :: ss, ρ => match gO ρ i with
    | some o => (lentIn es ss ρ).map (.lnt o :: ·)
    | none => none
  | _ :: es, s :: ss, ρ => (lentIn es ss ρ).map (s :: ·)
  | _, _, _ => none

section
variable (Φ : Calls) (G : Nat → Option D)
mutual
def evE : E → Env → Option (Ret × Env)
  | .var i, ρ => match get ρ i with
    | .val d => rV d ρ
    | _ => none
  | .frz i, ρ => match get ρ i with
    | .own o => rV o.fz (put ρ i (.val o.fz))
    | .val d => rV d ρ
    | _ => none
  | .mov i, ρ => match get ρ i with
    | .own o => rO o (put ρ i .emp)
    | _ => none
  | .glb n, ρ => match G n with
    | some d => rV d ρ
    | none => none
  | .gix n a, ρ => bV (evE a ρ) fun x ρ => match G n, x with
    | some (.tup ds), .str s => match strsD ds with
      | some ss => match idxS s ss 0 with
        | some i => rV (.int i) ρ
        | none => none
      | none => none
    | _, _ => none
  | .cst d, ρ => rV d ρ
  | .tup es, ρ => bL (evEs es ρ) fun ds ρ => if ds.length ≤ lineN then rV (.tup ds) ρ else none
  | .lst es, ρ => bL (evEs es ρ) fun ds ρ => if ds.length ≤ lineN then rO (.lst ds) ρ else none
  | .dct ks vs, ρ => if ks.length = vs.length ∧ ks.length ≤ 15 ∧ ks.Nodup ∧ (ks.all fun k => okKey (.str k)) = true then match evD vs ρ with
    | some (fs, ρ) => rO (.dic (ks.map D.str) fs) ρ
    | none => none else none
  | .bin op a b, ρ => bV (evE a ρ) fun x ρ => bV (evE b ρ) fun y ρ => oR (binop op x y) ρ
  | .cmp op a b, ρ => bV (evE a ρ) fun x ρ => bV (evE b ρ) fun y ρ => oV ((cmpop op x y).map D.bl) ρ
  | .chn op op' a b c, ρ => bV (evE a ρ) fun x ρ => bV (evE b ρ) fun y ρ => match cmpop op x y with
    | some true => bV (evE c ρ) fun z ρ => oV ((cmpop op' y z).map D.bl) ρ
    | some false => rV (.bl false) ρ
    | none => none
  | .isn neg a, ρ => bV (evE a ρ) fun x ρ => rV (.bl (neg != isNon x)) ρ
  | .and a b, ρ => bV (evE a ρ) fun x ρ => match x with
    | .bl true => evE b ρ
    | .bl false => rV (.bl false) ρ
    | _ => none
  | .or a b, ρ => bV (evE a ρ) fun x ρ => match x with
    | .bl false => evE b ρ
    | .bl true => rV (.bl true) ρ
    | _ => none
  | .not a, ρ => bV (evE a ρ) fun x ρ => match x with
    | .bl b => rV (.bl (!b)) ρ
    | _ => none
  | .neg a, ρ => bV (evE a ρ) fun x ρ => match x with
    | .int i => rV (.int (-i)) ρ
    | _ => none
  | .ite t a b, ρ => bV (evE t ρ) fun x ρ => match x with
    | .bl true => evE a ρ
    | .bl false => evE b ρ
    | _ => none
  | .ix a i, ρ => bV (evE a ρ) fun x ρ => bV (evE i ρ) fun y ρ => oV (ixop x y) ρ
  | .sl a lo hi, ρ => bV (evE a ρ) fun x ρ => match evO lo ρ with
    | some (l, ρ) => match evO hi ρ with
      | some (h, ρ) => oR (slop x l h) ρ
      | none => none
    | none => none
  | .rev a, ρ => bV (evE a ρ) fun x ρ => match x with
    | .tup ds => rV (.tup ds.reverse) ρ
    | _ => none
  | .call f es, ρ => match evAs es ρ with
    | some (ss, ρ) => match lentIn es ss ρ with
      | some ss => match Φ f ss with
        | some (r, o) => match outsTo (lentSlots es) o ρ with
          | some ρ => some (r, ρ)
          | none => none
        | none => none
      | none => none
    | none => none
  | .lent _, _ => none
  | .blt b es, ρ => bL (evEs es ρ) fun ds ρ => oR (bltop b ds) ρ
  | .isi t a, ρ => bV (evE a ρ) fun x ρ => oV ((isiop t x).map D.bl) ρ
  | .mth m a b, ρ => bV (evE a ρ) fun x ρ => bV (evE b ρ) fun y ρ => oR (mthop m x y) ρ
  | .oix i e, ρ => if isThing (get ρ i) then bV (evE e ρ) fun k ρ => match gO ρ i, k with
    | some (.lst ds), .int j => oV (ixL ds j) ρ
    | some (.dic ks vs), k => if okKey k then match lookF k ks vs with
      | some (.v d) => rV d ρ
      | _ => none else none
    | _, _ => none else none
  | .oin neg e i, ρ => bV (evE e ρ) fun k ρ => match gO ρ i with
    | some (.lst ds) => if okEq k && ds.all okEq then rV (.bl (neg != inD k ds)) ρ else none
    | some (.dic ks vs) => if okKey k then rV (.bl (neg != (lookF k ks vs).isSome)) ρ else none
    | _ => none
  | .olen i, ρ => match gO ρ i with
    | some (.lst ds) => rV (.int ds.length) ρ
    | _ => none
  | .oemp neg i, ρ => match gO ρ i with
    | some (.lst ds) => if ds.all okEq then rV (.bl (neg != ds.isEmpty)) ρ else none
    | _ => none
  | .oget i k d, ρ => if isDicO (gO ρ i) then bV (evE k ρ) fun k ρ => bV (evE d ρ) fun d ρ => match gO ρ i with
    | some (.dic ks vs) => if okKey k then match lookF k ks vs with
      | some (.v d) => rV d ρ
      | some (.l _) => none
      | none => rV d ρ else none
    | _ => none else none
  | .okeys i, ρ => match gO ρ i with
    | some (.dic ks _) => rO (.lst ks) ρ
    | _ => none
  | .comp elt tg it conds, ρ => match evI it ρ with
    | some (ds, ρ) => if (tg.slots.all fun v => !isThing (get ρ v)) && decide tg.slots.Nodup then
      match compLoop (fun d ρ => match asg tg d ρ with
        | some ρ => match evCs conds ρ with
          | some (true, ρ) => bV (evE elt ρ) fun y ρ => addR [y] (wipeC tg.slots ρ)
          | some (false, ρ) => addR [] (wipeC tg.slots ρ)
          | none => none
        | none => none) ds (wipeE tg.slots 0 ρ) [] with
      | some (ys, ρ1) => rO (.lst ys) (back tg.slots 0 ρ ρ1)
      | none => none else none
    | none => none
  | .comp2 elt tg it tg2 it2, ρ => match evI it ρ with
    | some (ds, ρ) => if ((tg.slots ++ tg2.slots).all fun v => !isThing (get ρ v)) && decide (tg.slots ++ tg2.slots).Nodup then
      match compLoop (fun d ρ => match asg tg d ρ with
        | some ρ => match evI it2 ρ with
          | some (ds2, ρ) => match wipeC tg2.slots ρ with
            | some ρ => match compLoop (fun d2 ρ => match asg tg2 d2 ρ with
              | some ρ => bV (evE elt ρ) fun y ρ => addR [y] (wipeC tg2.slots ρ)
              | none => none) ds2 ρ [] with
              | some (ys, ρ) => addR ys (wipeC (tg.slots ++ tg2.slots) ρ)
              | none => none
            | none => none
          | none => none
        | none => none) ds (wipeE (tg.slots ++ tg2.slots) 0 ρ) [] with
      | some (ys, ρ1) => rO (.lst ys) (back (tg.slots ++ tg2.slots) 0 ρ ρ1)
      | none => none else none
    | none => none
/-- values, from the left -/
def evEs : List E → Env → Option (List D × Env)
  | [], ρ => some ([], ρ)
  | e :: es, ρ => bV (evE e ρ) fun d ρ => bL (evEs es ρ) fun ds ρ => some (d :: ds, ρ)
def evO : Option E → Env → Option (Option Int × Env)
  | none, ρ => some (none, ρ)
  | some e, ρ => bV (evE e ρ) fun d ρ => match d with
    | .int i => some (some i, ρ)
    | _ => none
/-- arguments: a lent one comes later -/
def evAs : List E → Env → Option (List Slot × Env)
  | [], ρ => some ([], ρ)
  | .lent i :: es, ρ => if isThing (get ρ i) then match evAs es ρ with
    | some (ss, ρ) => some (.emp :: ss, ρ)
    | none => none else none
  | e :: es, ρ => bV (evE e ρ) fun d ρ => match evAs es ρ with
    | some (ss, ρ) => some (.val d :: ss, ρ)
    | none => none
def evCs : List E → Env → Option (Bool × Env)
  | [], ρ => some (true, ρ)
  | [e], ρ => bV (evE e ρ) fun d ρ => match d with
    | .bl b => some (b, ρ)
    | _ => none
  | _ :: _ :: _, _ => none
/-- the values of a dict's display -/
def evD : List E → Env → Option (List Fld × Env)
  | [], ρ => some ([], ρ)
  | e :: es, ρ => bR (evE e ρ) fun r ρ => match r with
    | .val d => match evD es ρ with
      | some (fs, ρ) => some (.v d :: fs, ρ)
      | none => none
    | .own (.lst ds) => match evD es ρ with
      | some (fs, ρ) => some (.l ds :: fs, ρ)
      | none => none
    | .own (.dic _ _) => none
/-- what is walked, item by item -/
def evI : It → Env → Option (List D × Env)
  | .rng a, ρ => bV (evE a ρ) fun x ρ => match x with
    | .int n => if small62 n then some (rangeD 0 n.toNat, ρ) else none
    | _ => none
  | .rng2 a b, ρ => bV (evE a ρ) fun x ρ => bV (evE b ρ) fun y ρ => match x, y with
    | .int lo, .int hi => if small62 lo && small62 hi then some (rangeD lo (hi - lo).toNat, ρ) else none
    | _, _ => none
  | .enm a, ρ => bV (evE a ρ) fun x ρ => match x with
    | .lst ds => some (enumD ds 0, ρ)
    | .tup ds => some (enumD ds 0, ρ)
    | _ => none
  | .sgn a, ρ => bV (evE a ρ) fun x ρ => match x with
    | .str s => some (s.map fun c => .str [c], ρ)
    | _ => none
  | .seq e, ρ => bV (evE e ρ) fun x ρ => match x with
    | .lst ds => some (ds, ρ)
    | .tup ds => some (ds, ρ)
    | .str s => some (s.map fun c => .str [c], ρ)
    | _ => none
end
end

/-! ### statements -/
inductive Out where
  | nx (ρ : Env)
  | rt (r : Ret) (ρ : Env)
/-- a for: the turns -/
def forLoop (tg : Tg) (f : Env → Option Out) : List D → Env → Option Out
  | [], ρ => some (.nx ρ)
  | d :: ds, ρ => match asg tg d ρ with
    | some ρ => match f ρ with
      | some (.nx ρ) => forLoop tg f ds ρ
      | r => r
    | none => none
/-- a while: at most so many turns -/
def whlLoop (c : Env → Option (Ret × Env)) (f : Env → Option Out) : Nat → Env → Option Out
  | 0, _ => none
  | n + 1, ρ => bV (c ρ) fun x ρ => match x with
    | .bl true => match f ρ with
      | some (.nx ρ) => whlLoop c f n ρ
      | r => r
    | .bl false => some (.nx ρ)
    | _ => none
def puts : List Nat → List D → Env → Option Env
  | [], [], ρ => some ρ
  | i :: is, d :: ds, ρ => (setS ρ i (.val d)).bind (puts is ds)
  | _, _, _ => none
section
variable (Φ : Calls) (G : Nat → Option D) (W : Nat)
mutual
def evS : S → Env → Option Out
  | .set t e, ρ => bV (evE Φ G e ρ) fun d ρ => (asg t d ρ).map .nx
  | .seto i e, ρ => bR (evE Φ G e ρ) fun r ρ => match r with
    | .own o => (setS ρ i (.own o)).map .nx
    | .val _ => none
  | .par is es, ρ => bL (evEs Φ G es ρ) fun ds ρ => (puts is ds ρ).map .nx
  | .drop e, ρ => bR (evE Φ G e ρ) fun _ ρ => some (.nx ρ)
  | .app i e, ρ => if isLstO (gO ρ i) then bV (evE Φ G e ρ) fun d ρ => match gO ρ i with
    | some (.lst ds) => if ds.length < lineN then some (.nx (pO ρ i (.lst (ds ++ [d])))) else none
    | _ => none else none
  | .appf i k e, ρ => bV (evE Φ G k ρ) fun k ρ => bV (evE Φ G e ρ) fun d ρ => match gO ρ i with
    | some (.dic ks vs) => if okKey k then match lookF k ks vs with
      | some (.l ds) => if ds.length < lineN then some (.nx (pO ρ i (.dic (putF k (.l (ds ++ [d])) ks vs).1 (putF k (.l (ds ++ [d])) ks vs).2))) else none
      | _ => none else none
    | _ => none
  | .put i k e, ρ => bV (evE Φ G e ρ) fun d ρ => if isThing (get ρ i) then bV (evE Φ G k ρ) fun k ρ => match gO ρ i, k with
    | some (.lst ds), .int j => match ixP ds.length j with
      | some n => some (.nx (pO ρ i (.lst (ds.set n d))))
      | none => none
    | some (.dic ks vs), k => if okKey k && decide (ks.length < lineN) then match lookF k ks vs with
      | some (.l _) => none
      | _ => some (.nx (pO ρ i (.dic (putF k (.v d) ks vs).1 (putF k (.v d) ks vs).2))) else none
    | _, _ => none else none
  | .iff t a b, ρ => bV (evE Φ G t ρ) fun x ρ => match x with
    | .bl true => evSs a ρ
    | .bl false => evSs b ρ
    | _ => none
  | .whl t b, ρ => whlLoop (evE Φ G t) (evSs b) W ρ
  | .for_ tg it b, ρ => match evI Φ G it ρ with
    | some (ds, ρ) => forLoop tg (evSs b) ds ρ
    | none => none
  | .ret e, ρ => bV (evE Φ G e ρ) fun d ρ => some (.rt (.val d) ρ)
  | .reto e, ρ => bR (evE Φ G e ρ) fun r ρ => some (.rt r ρ)
  | .retN, ρ => some (.rt (.val .non) ρ)
  | .nev, _ => none
def evSs : List S → Env → Option Out
  | [], ρ => some (.nx ρ)
  | s :: ss, ρ => match evS s ρ with
    | some (.nx ρ) => evSs ss ρ
    | r => r
end
end

/-! ### defs -/
inductive Def where
  /-- a def of the text: the number of its parameters, of its names; its body -/
  | fn (ps ns : Nat) (body : List S)
  /-- a def that is told by what it answers -/
  | ext (ps : Nat) (f : Nat → List Slot → Option (Ret × Option O))
  deriving Inhabited
/-- the lent thing at the end (the first one) -/
def outs : List Slot → Nat → Env → Option (Option O)
  | [], _, _ => some none
  | .lnt _ :: _, n, ρ => match get ρ n with
    | .lnt o => some (some o)
    | _ => none
  | _ :: ss, n, ρ => outs ss (n + 1) ρ
def start (ns : Nat) (ss : List Slot) : Env := ss ++ List.replicate (ns - ss.length) .emp
def endO (ss : List Slot) : Option Out → Option (Ret × Option O)
  | some (.nx ρ) => (outs ss 0 ρ).map fun os => (.val .non, os)
  | some (.rt r ρ) => (outs ss 0 ρ).map fun os => (r, os)
  | none => none
section
variable (T : Nat → Option Def) (G : Nat → Option D) (W : Nat)
def runF : Nat → Calls
  | 0, _, _ => none
  | k + 1, f, ss => match T f with
    | some (.fn ps ns body) => if ss.length = ps ∧ ps ≤ ns then endO ss (evSs (runF k) G W body (start ns ss)) else none
    | some (.ext ps g) => if ss.length = ps then g k ss else none
    | none => none
end
end BP

set_option maxRecDepth 100000
set_option maxHeartbeats 4000000
/-! How data and owned things stand in the abstract heap; steps. -/
namespace BP
open PySem PySem.Spec PyProof.Rows L2

def toStr (s : List Nat) : Str := ⟨s.toArray⟩
theorem toStr_len (s : List Nat) : (toStr s).length = s.length := by
  show s.toArray.size = s.length
  simp
theorem toStr_inj {s t : List Nat} : toStr s = toStr t ↔ s = t := by
  constructor
  · intro h
    have : s.toArray = t.toArray := congrArg Str.cps h
    simpa using this
  · intro h; rw [h]
mutual
def toKey : D → NestedKey
  | .non => .none
  | .bl b => .num (b2i b)
  | .int i => .num i
  | .str s => .text (toStr s)
  | .tup ds => .tup (toKeys ds)
  | _ => .none
def toKeys : List D → List NestedKey
  | [] => []
  | d :: ds => toKey d :: toKeys ds
end
mutual
def py : D → PyData
  | .non => .none
  | .bl b => .bool b
  | .int i => .int i
  | .str s => .str (toStr s)
  | .tup ds => .tuple (pys ds)
  | .lst ds => .list (pys ds)
  | _ => .none
def pys : List D → List PyData
  | [] => []
  | d :: ds => py d :: pys ds
end
theorem pys_map : ∀ ds : List D, pys ds = ds.map py
  | [] => rfl
  | d :: ds => by rw [pys, pys_map ds]; rfl
theorem toKeys_map : ∀ ds : List D, toKeys ds = ds.map toKey
  | [] => rfl
  | d :: ds => by rw [toKeys, toKeys_map ds]; rfl

/-! ### dicts -/
section
variable (w : World)
def entN (x : NestedKey × Value × Value) : DictEntry := ⟨x.1.hash w, x.2.1, x.2.2⟩
def RelKV (p : NestedKey × V × V) (q : NestedKey × Value × Value) : Prop := p.1 = q.1 ∧ RelV p.2.1 q.2.1 ∧ RelV p.2.2 q.2.2
/-- at a stands a dict of these entries: the key, its value, the value under it -/
def DicAt (a : Addr) (kvs : List (NestedKey × V × V)) (h : Heap) : Prop :=
  kvs.length ≤ sizeLine ∧ (a == sysModules) = false ∧ (kvs.map (·.1)).Nodup ∧ ∃ xs, Paired RelKV kvs xs ∧ ∃ o es ep, h.get? a = some o ∧ o.ExactDict ∧ o.data = .dict es ep ∧ es.toList = xs.map (entN w)
def dicO (a : Addr) (kvs : List (NestedKey × V × V)) : HO := .ext (DicAt w a kvs)
end
theorem dicO_ok {P : Program} {w : World} {H : Hp} {h : Heap} {a : Addr} {kvs : List (NestedKey × V × V)} (x : DicAt w a kvs h) : ObjOk P w H h a (dicO w a kvs) := by
  refine ⟨x, ?_, ?_⟩
  · obtain ⟨_, _, _, _, _, o, _, _, ho, _⟩ := x
    exact ⟨o, ho⟩
  · rintro h1 h2 ⟨z1, z2, z3, xs, z4, o, es, ep, ho, z5⟩ k
    exact ⟨z1, z2, z3, xs, z4, o, es, ep, k o ho, z5⟩

/-! ### data -/
section
variable (K : PySem.W.Frag) (w : World)
mutual
/-- the value is that data; F: what stands for ever -/
inductive Rep (F : Hp) : V → D → Prop
  | non : Rep F .non .non
  | bl (b : Bool) : Rep F (.bl b) (.bl b)
  | int (i : Int) : Rep F (.int i) (.int i)
  | str (s : List Nat) : Rep F (.str (toStr s)) (.str s)
  | tup {a : Addr} {xs : List V} {ds : List D} : SqT K F a xs → Reps F xs ds → Rep F (.ref a) (.tup ds)
  | lst {a : Addr} {xs : List V} {ds : List D} : F a = some (.lst xs) → Reps F xs ds → Rep F (.ref a) (.lst ds)
  | scr {a : Addr} {ns : List Int} : SqL K F a (ns.map V.int) → Rep F (.ref a) (.scr ns)
  | dic {a : Addr} {kvs : List (NestedKey × V × V)} {ks vs : List D} : F a = some (dicO w a kvs) → KvR F kvs ks vs → Rep F (.ref a) (.dic ks vs)
inductive Reps (F : Hp) : List V → List D → Prop
  | nil : Reps F [] []
  | cons {x : V} {xs : List V} {d : D} {ds : List D} : Rep F x d → Reps F xs ds → Reps F (x :: xs) (d :: ds)
inductive KvR (F : Hp) : List (NestedKey × V × V) → List D → List D → Prop
  | nil : KvR F [] [] []
  | cons {n : NestedKey} {kv v : V} {r : List (NestedKey × V × V)} {k d : D} {ks vs : List D} : n = toKey k → okKey k = true → Rep F kv k → Rep F v d → KvR F r ks vs → KvR F ((n, kv, v) :: r) (k :: ks) (d :: vs)
end
/-- a field of an owned dict -/
inductive FldR (F H : Hp) : V → Fld → List Addr → Prop
  | v {x : V} {d : D} : Rep K w F x d → FldR F H x (.v d) []
  | l {b : Addr} {xs : List V} {ds : List D} : F b = none → H b = some (.lst xs) → Reps K w F xs ds → FldR F H (.ref b) (.l ds) [b]
inductive KfR (F H : Hp) : List (NestedKey × V × V) → List D → List Fld → List Addr → Prop
  | nil : KfR F H [] [] [] []
  | cons {n : NestedKey} {kv v : V} {r : List (NestedKey × V × V)} {k : D} {f : Fld} {ks : List D} {vs : List Fld} {as bs : List Addr} : n = toKey k → okKey k = true → Rep K w F kv k → FldR K w F H v f as → KfR F H r ks vs bs → KfR F H ((n, kv, v) :: r) (k :: ks) (f :: vs) (as ++ bs)
inductive OwnR (F H : Hp) (a : Addr) : O → List Addr → Prop
  | lst {xs : List V} {ds : List D} : F a = none → H a = some (.lst xs) → Reps K w F xs ds → OwnR F H a (.lst ds) [a]
  | dic {kvs : List (NestedKey × V × V)} {ks : List D} {vs : List Fld} {as : List Addr} : F a = none → H a = some (dicO w a kvs) → KfR K w F H kvs ks vs as → OwnR F H a (.dic ks vs) (a :: as)
/-- a slot; the address of a lent thing is fixed -/
inductive SlotR (F H : Hp) : Option Addr → Option V → Slot → List Addr → Prop
  | emp {x : Option V} : SlotR F H none x .emp []
  | val {v : V} {d : D} : Rep K w F v d → SlotR F H none (some v) (.val d) []
  | own {a : Addr} {o : O} {as : List Addr} : OwnR K w F H a o as → SlotR F H none (some (.ref a)) (.own o) as
  | lnt {a : Addr} {o : O} {as : List Addr} : OwnR K w F H a o as → SlotR F H (some a) (some (.ref a)) (.lnt o) as
inductive EnvR (F H : Hp) : List (Option Addr) → L2.St → Env → List Addr → Prop
  | nil : EnvR F H [] [] [] []
  | cons {l : Option Addr} {x : Option V} {s : Slot} {L : List (Option Addr)} {σ : L2.St} {ρ : Env} {as bs : List Addr} : SlotR K w F H l x s as → EnvR F H L σ ρ bs → EnvR F H (l :: L) (x :: σ) (s :: ρ) (as ++ bs)
inductive RetR (F H : Hp) : V → Ret → List Addr → Prop
  | val {v : V} {d : D} : Rep K w F v d → RetR F H v (.val d) []
  | own {a : Addr} {o : O} {as : List Addr} : OwnR K w F H a o as → RetR F H (.ref a) (.own o) as
end

section
variable {K : PySem.W.Frag} {w : World} {F F' H H' : Hp}
theorem Same.seqT {H H' : Hp} {a : Addr} {xs : List V} (e : Same H H') (h : SqT K H a xs) : SqT K H' a xs := by
  rcases h with (h | ⟨o, h⟩) | h
  · exact .inl (.inl (e _ _ h))
  · exact .inl (.inr ⟨o, e _ _ h⟩)
  · exact .inr h
mutual
theorem Rep.mono (e : Same F F') : ∀ {v : V} {d : D}, Rep K w F v d → Rep K w F' v d
  | _, _, .non => .non
  | _, _, .bl b => .bl b
  | _, _, .int i => .int i
  | _, _, .str s => .str s
  | _, _, .tup h r => .tup (Same.seqT e h) (r.mono e)
  | _, _, .lst h r => .lst (e _ _ h) (r.mono e)
  | _, _, .scr h => .scr (Same.seq e h)
  | _, _, .dic h r => .dic (e _ _ h) (r.mono e)
theorem Reps.mono (e : Same F F') : ∀ {vs : List V} {ds : List D}, Reps K w F vs ds → Reps K w F' vs ds
  | _, _, .nil => .nil
  | _, _, .cons h r => .cons (h.mono e) (r.mono e)
theorem KvR.mono (e : Same F F') : ∀ {kvs : List (NestedKey × V × V)} {ks vs : List D}, KvR K w F kvs ks vs → KvR K w F' kvs ks vs
  | _, _, _, .nil => .nil
  | _, _, _, .cons n o k v r => .cons n o (k.mono e) (v.mono e) (r.mono e)
end
theorem Reps.length : ∀ {xs : List V} {ds : List D}, Reps K w F xs ds → xs.length = ds.length
  | _, _, .nil => rfl
  | _, _, .cons _ r => by rw [List.length_cons, List.length_cons, r.length]
theorem Reps.append : ∀ {xs ys : List V} {ds es : List D}, Reps K w F xs ds → Reps K w F ys es → Reps K w F (xs ++ ys) (ds ++ es)
  | _, _, _, _, .nil, s => s
  | _, _, _, _, .cons h r, s => .cons h (r.append s)
theorem Reps.get : ∀ {xs : List V} {ds : List D} {i : Nat} {d : D}, Reps K w F xs ds → ds[i]? = some d → ∃ v, xs[i]? = some v ∧ Rep K w F v d
  | _, _, _, _, .nil, e => by simp at e
  | _, _, 0, _, .cons h _, e => by simp at e; subst e; exact ⟨_, rfl, h⟩
  | _, _, i + 1, d, .cons _ r, e => by
    obtain ⟨v, h1, h2⟩ := Reps.get (i := i) (d := d) r (by simpa using e)
    exact ⟨v, by simpa using h1, h2⟩
theorem Reps.get' : ∀ {xs : List V} {ds : List D} {i : Nat} {v : V}, Reps K w F xs ds → xs[i]? = some v → ∃ d, ds[i]? = some d ∧ Rep K w F v d
  | _, _, _, _, .nil, e => by simp at e
  | _, _, 0, _, .cons h _, e => by simp at e; subst e; exact ⟨_, rfl, h⟩
  | _, _, i + 1, d, .cons _ r, e => by
    obtain ⟨v, h1, h2⟩ := Reps.get' (i := i) (v := d) r (by simpa using e)
    exact ⟨v, by simpa using h1, h2⟩
theorem Reps.take : ∀ {xs : List V} {ds : List D} (n : Nat), Reps K w F xs ds → Reps K w F (xs.take n) (ds.take n)
  | _, _, 0, _ => .nil
  | _, _, _ + 1, .nil => .nil
  | _, _, n + 1, .cons h r => .cons h (r.take n)
theorem Reps.drop : ∀ {xs : List V} {ds : List D} (n : Nat), Reps K w F xs ds → Reps K w F (xs.drop n) (ds.drop n)
  | _, _, 0, r => r
  | _, _, _ + 1, .nil => .nil
  | _, _, n + 1, .cons h r => r.drop n
theorem Reps.set : ∀ {xs : List V} {ds : List D} {v : V} {d : D} (n : Nat), Reps K w F xs ds → Rep K w F v d → Reps K w F (xs.set n v) (ds.set n d)
  | _, _, _, _, _, .nil, _ => .nil
  | _, _, _, _, 0, .cons h r, q => .cons q r
  | _, _, _, _, n + 1, .cons h r, q => .cons h (r.set n q)
theorem Reps.reverse : ∀ {xs : List V} {ds : List D}, Reps K w F xs ds → Reps K w F xs.reverse ds.reverse
  | _, _, .nil => .nil
  | _, _, .cons h r => by
    rw [List.reverse_cons, List.reverse_cons]
    exact r.reverse.append (.cons h .nil)
theorem Reps.rep {xs : List V} {ds : List D} (r : Reps K w F xs ds) : ∀ n, Reps K w F (List.replicate n xs).flatten (List.replicate n ds).flatten
  | 0 => .nil
  | n + 1 => by
    rw [List.replicate_succ, List.replicate_succ, List.flatten_cons, List.flatten_cons]
    exact r.append (r.rep n)
theorem Reps.ints : ∀ {xs : List V} {ds : List D}, Reps K w F xs ds → ∀ {i : Int}, sumD ds = some i → ∃ ns : List Int, xs = ns.map V.int ∧ ns.sum = i
  | _, _, .nil, i, e => by cases e; exact ⟨[], rfl, rfl⟩
  | _, _, .cons (d := d) h r, i, e => by
    cases h with
    | int j =>
      simp only [sumD, Option.map_eq_some_iff] at e
      obtain ⟨k, e1, e2⟩ := e
      obtain ⟨ns, e3, e4⟩ := r.ints e1
      exact ⟨j :: ns, by rw [e3]; rfl, by rw [List.sum_cons, e4, ← e2]⟩
    | _ => simp [sumD] at e
theorem Reps.bools : ∀ {xs : List V} {ds : List D}, Reps K w F xs ds → ∀ {b : Bool}, allD ds = some b → ∃ bs : List Bool, xs = bs.map V.bl ∧ bs.all id = b
  | _, _, .nil, i, e => by cases e; exact ⟨[], rfl, rfl⟩
  | _, _, .cons (d := d) h r, i, e => by
    cases h with
    | bl j =>
      simp only [allD, Option.map_eq_some_iff] at e
      obtain ⟨k, e1, e2⟩ := e
      obtain ⟨ns, e3, e4⟩ := r.bools e1
      exact ⟨j :: ns, by rw [e3]; rfl, by rw [List.all_cons, e4, ← e2]; rfl⟩
    | _ => simp [allD] at e
theorem Reps.strs : ∀ {xs : List V} {ds : List D}, Reps K w F xs ds → ∀ {ss : List (List Nat)}, strsD ds = some ss → xs = ss.map fun s => V.str (toStr s)
  | _, _, .nil, i, e => by cases e; rfl
  | _, _, .cons (d := d) h r, i, e => by
    cases h with
    | str j =>
      simp only [strsD, Option.map_eq_some_iff] at e
      obtain ⟨k, e1, e2⟩ := e
      rw [r.strs e1, ← e2]
      rfl
    | _ => simp [strsD] at e
theorem Reps.of_strs : ∀ ss : List (List Nat), Reps K w F (ss.map fun s => V.str (toStr s)) (ss.map D.str)
  | [] => .nil
  | s :: ss => .cons (.str s) (Reps.of_strs ss)

theorem FldR.mono (e : Same F F') {v : V} {f : Fld} {as : List Addr} (h : FldR K w F H v f as) (k : ∀ b ∈ as, H' b = H b ∧ F' b = none) : FldR K w F' H' v f as := by
  cases h with
  | v r => exact .v (r.mono e)
  | l a b r =>
    obtain ⟨k1, k2⟩ := k _ List.mem_cons_self
    exact .l k2 (k1.trans b) (r.mono e)
theorem KfR.mono (e : Same F F') : ∀ {kvs : List (NestedKey × V × V)} {ks : List D} {vs : List Fld} {as : List Addr}, KfR K w F H kvs ks vs as → (∀ b ∈ as, H' b = H b ∧ F' b = none) → KfR K w F' H' kvs ks vs as
  | _, _, _, _, .nil, _ => .nil
  | _, _, _, _, .cons n o k f r, h => .cons n o (k.mono e) (f.mono e fun b hb => h b (List.mem_append_left _ hb)) (r.mono e fun b hb => h b (List.mem_append_right _ hb))
theorem OwnR.mono (e : Same F F') {a : Addr} {o : O} {as : List Addr} (h : OwnR K w F H a o as) (k : ∀ b ∈ as, H' b = H b ∧ F' b = none) : OwnR K w F' H' a o as := by
  cases h with
  | lst a b r =>
    obtain ⟨k1, k2⟩ := k _ List.mem_cons_self
    exact .lst k2 (k1.trans b) (r.mono e)
  | dic a b r =>
    obtain ⟨k1, k2⟩ := k _ List.mem_cons_self
    exact .dic k2 (k1.trans b) (r.mono e fun b hb => k b (List.mem_cons_of_mem _ hb))
theorem SlotR.mono (e : Same F F') {l : Option Addr} {x : Option V} {s : Slot} {as : List Addr} (h : SlotR K w F H l x s as) (k : ∀ b ∈ as, H' b = H b ∧ F' b = none) : SlotR K w F' H' l x s as := by
  cases h with
  | emp => exact .emp
  | val r => exact .val (r.mono e)
  | own r => exact .own (r.mono e k)
  | lnt r => exact .lnt (r.mono e k)
theorem EnvR.mono (e : Same F F') : ∀ {L : List (Option Addr)} {σ : L2.St} {ρ : Env} {as : List Addr}, EnvR K w F H L σ ρ as → (∀ b ∈ as, H' b = H b ∧ F' b = none) → EnvR K w F' H' L σ ρ as
  | _, _, _, _, .nil, _ => .nil
  | _, _, _, _, .cons s r, h => .cons (s.mono e fun b hb => h b (List.mem_append_left _ hb)) (r.mono e fun b hb => h b (List.mem_append_right _ hb))
theorem RetR.mono (e : Same F F') {v : V} {r : Ret} {as : List Addr} (h : RetR K w F H v r as) (k : ∀ b ∈ as, H' b = H b ∧ F' b = none) : RetR K w F' H' v r as := by
  cases h with
  | val r => exact .val (r.mono e)
  | own r => exact .own (r.mono e k)

/-- owned addresses stand in the heap, and not among what is for ever -/
theorem FldR.ad {v : V} {f : Fld} {as : List Addr} (h : FldR K w F H v f as) : ∀ b ∈ as, F b = none ∧ H b ≠ none := by
  cases h with
  | v r => exact fun b hb => absurd hb (by simp)
  | l a b r =>
    intro c hc
    obtain rfl : c = _ := by simpa using hc
    exact ⟨a, by rw [b]; simp⟩
theorem KfR.ad : ∀ {kvs : List (NestedKey × V × V)} {ks : List D} {vs : List Fld} {as : List Addr}, KfR K w F H kvs ks vs as → ∀ b ∈ as, F b = none ∧ H b ≠ none
  | _, _, _, _, .nil => fun b hb => absurd hb (by simp)
  | _, _, _, _, .cons _ _ _ f r => fun b hb => (List.mem_append.mp hb).elim (f.ad b) (r.ad b)
theorem OwnR.ad {a : Addr} {o : O} {as : List Addr} (h : OwnR K w F H a o as) : ∀ b ∈ as, F b = none ∧ H b ≠ none := by
  cases h with
  | lst a b r =>
    intro c hc
    obtain rfl : c = _ := by simpa using hc
    exact ⟨a, by rw [b]; simp⟩
  | dic a b r =>
    intro c hc
    rcases List.mem_cons.mp hc with e | hc
    · subst e; exact ⟨a, by rw [b]; simp⟩
    · exact r.ad c hc
theorem OwnR.self {a : Addr} {o : O} {as : List Addr} (h : OwnR K w F H a o as) : a ∈ as := by
  cases h <;> exact List.mem_cons_self
theorem SlotR.ad {l : Option Addr} {x : Option V} {s : Slot} {as : List Addr} (h : SlotR K w F H l x s as) : ∀ b ∈ as, F b = none ∧ H b ≠ none := by
  cases h with
  | emp => exact fun b hb => absurd hb (by simp)
  | val r => exact fun b hb => absurd hb (by simp)
  | own r => exact r.ad
  | lnt r => exact r.ad
theorem EnvR.ad : ∀ {L : List (Option Addr)} {σ : L2.St} {ρ : Env} {as : List Addr}, EnvR K w F H L σ ρ as → ∀ b ∈ as, F b = none ∧ H b ≠ none
  | _, _, _, _, .nil => fun b hb => absurd hb (by simp)
  | _, _, _, _, .cons s r => fun b hb => (List.mem_append.mp hb).elim (s.ad b) (r.ad b)
theorem RetR.ad {v : V} {r : Ret} {as : List Addr} (h : RetR K w F H v r as) : ∀ b ∈ as, F b = none ∧ H b ≠ none := by
  cases h with
  | val r => exact fun b hb => absurd hb (by simp)
  | own r => exact r.ad
theorem EnvR.len : ∀ {L : List (Option Addr)} {σ : L2.St} {ρ : Env} {as : List Addr}, EnvR K w F H L σ ρ as → σ.length = ρ.length ∧ L.length = ρ.length
  | _, _, _, _, .nil => ⟨rfl, rfl⟩
  | _, _, _, _, .cons s r => by obtain ⟨a, b⟩ := r.len; exact ⟨by simp [a], by simp [b]⟩
end

/-! ### steps -/
/-- from one state to a later one: what stands for ever grows by what is new or was owned; nothing is changed but what is owned; what is owned then was owned, or is new -/
structure Step (F H : Hp) (as : List Addr) (F' H' : Hp) (as' : List Addr) : Prop where
  same : Same F F'
  keep : ∀ b x, H b = some x → b ∉ as → H' b = some x
  fre : ∀ b, F' b ≠ none → F b ≠ none ∨ H b = none ∨ b ∈ as
  nw : ∀ b ∈ as', b ∈ as ∨ H b = none
theorem Step.refl (F H : Hp) (as : List Addr) : Step F H as F H as := ⟨Same.refl F, fun _ _ e _ => e, fun _ h => .inl h, fun _ h => .inl h⟩
theorem Step.none_of {F H F' H' : Hp} {as as' : List Addr} (s : Step F H as F' H' as') {b : Addr} (h : H' b = none) : H b = none ∨ b ∈ as := by
  by_cases hb : b ∈ as
  · exact .inr hb
  · cases e : H b with
    | none => exact .inl rfl
    | some x => rw [s.keep b x e hb] at h; cases h
theorem Step.trans {F H F1 H1 F2 H2 : Hp} {as as1 as2 : List Addr} (a : Step F H as F1 H1 as1) (b : Step F1 H1 as1 F2 H2 as2) : Step F H as F2 H2 as2 where
  same := a.same.trans b.same
  keep := fun c x e h => b.keep c x (a.keep c x e h) fun h1 => (a.nw c h1).elim h fun z => by rw [e] at z; cases z
  fre := fun c h => by
    rcases b.fre c h with h | h | h
    · exact a.fre c h
    · exact .inr (a.none_of h)
    · rcases a.nw c h with z | z
      · exact .inr (.inr z)
      · exact .inr (.inl z)
  nw := fun c h => by
    rcases b.nw c h with h | h
    · exact a.nw c h
    · exact (a.none_of h).symm
/-- where fewer things are owned -/
theorem Step.less {F H F' H' : Hp} {as as' bs : List Addr} (a : Step F H as F' H' as') (h : ∀ b ∈ bs, b ∈ as') : Step F H as F' H' bs := ⟨a.same, a.keep, a.fre, fun b hb => a.nw b (h b hb)⟩
/-- a new thing, for ever -/
theorem Step.newF {F H : Hp} {as : List Addr} {p : Addr} {o : HO} (hp : H p = none) (hF : F p = none) : Step F H as (upd F p o) (upd H p o) as where
  same := fun b x e => by rw [upd_ne (ne_of_none e hF)]; exact e
  keep := fun b x e _ => by rw [upd_ne (ne_of_none e hp)]; exact e
  fre := fun b h => by
    by_cases e : b = p
    · subst e; exact .inr (.inl hp)
    · rw [upd_ne e] at h; exact .inl h
  nw := fun b h => .inl h
/-- a new thing, owned -/
theorem Step.newO {F H : Hp} {as : List Addr} {p : Addr} {o : HO} (hp : H p = none) : Step F H as F (upd H p o) (as ++ [p]) where
  same := Same.refl F
  keep := fun b x e _ => by rw [upd_ne (ne_of_none e hp)]; exact e
  fre := fun b h => .inl h
  nw := fun b h => by
    rcases List.mem_append.mp h with h | h
    · exact .inl h
    · obtain rfl : b = p := by simpa using h
      exact .inr hp
theorem same_F {F H : Hp} {p : Addr} (s : Same F H) (hp : H p = none) : F p = none := s.free hp

section
variable {K : PySem.W.Frag} {w : World} {F F' H H' : Hp} {L : List (Option Addr)} {σ : L2.St} {ρ : Env} {as : List Addr}
/-- the state's things -/
structure StOk (K : PySem.W.Frag) (w : World) (L : List (Option Addr)) (F H : Hp) (σ : L2.St) (ρ : Env) (as : List Addr) : Prop where
  sub : Same F H
  env : EnvR K w F H L σ ρ as
  nd : as.Nodup
theorem StOk.newF (st : StOk K w L F H σ ρ as) {p : Addr} {o : HO} (hp : H p = none) : StOk K w L (upd F p o) (upd H p o) σ ρ as := by
  have hF := same_F st.sub hp
  refine ⟨fun b x e => ?_, st.env.mono (Step.newF (as := as) (o := o) hp hF).same fun b hb => ?_, st.nd⟩
  · by_cases h : b = p
    · subst h; rw [upd_same] at e ⊢; exact e
    · rw [upd_ne h] at e ⊢; exact st.sub b x e
  · have hne : b ≠ p := fun e => by subst e; exact (st.env.ad _ hb).2 hp
    rw [upd_ne hne, upd_ne hne]
    exact ⟨rfl, (st.env.ad _ hb).1⟩
theorem StOk.newO (st : StOk K w L F H σ ρ as) {p : Addr} {o : HO} (hp : H p = none) : Same F (upd H p o) ∧ EnvR K w F (upd H p o) L σ ρ as ∧ (as ++ [p]).Nodup ∧ F p = none := by
  have hF := same_F st.sub hp
  refine ⟨fun b x e => ?_, st.env.mono (Same.refl F) fun b hb => ?_, ?_, hF⟩
  · rw [upd_ne (ne_of_none e hF)]; exact st.sub b x e
  · have hne : b ≠ p := fun e => by subst e; exact (st.env.ad _ hb).2 hp
    rw [upd_ne hne]
    exact ⟨rfl, (st.env.ad _ hb).1⟩
  · rw [List.nodup_append]
    refine ⟨st.nd, by simp, fun a ha b hb => ?_⟩
    obtain rfl : b = p := by simpa using hb
    intro e; subst e
    exact (st.env.ad _ ha).2 hp

/-! ### freezing -/
/-- F with what stands at some addresses of H -/
def more (F H : Hp) (ar : List Addr) : Hp := fun b => if b ∈ ar then H b else F b
theorem more_in {ar : List Addr} {b : Addr} (h : b ∈ ar) : more F H ar b = H b := if_pos h
theorem more_out {ar : List Addr} {b : Addr} (h : b ∉ ar) : more F H ar b = F b := if_neg h
theorem more_same {ar : List Addr} (h : ∀ b ∈ ar, F b = none) : Same F (more F H ar) := fun b x e => by
  by_cases hb : b ∈ ar
  · rw [h b hb] at e; cases e
  · rw [more_out hb]; exact e
theorem more_sub {ar : List Addr} (s : Same F H) : Same (more F H ar) H := fun b x e => by
  by_cases hb : b ∈ ar
  · rw [more_in hb] at e; exact e
  · rw [more_out hb] at e; exact s b x e
theorem FldR.fz {G : Hp} (e : Same F G) {v : V} {f : Fld} {as : List Addr} (h : FldR K w F H v f as) (k : ∀ b ∈ as, G b = H b) : Rep K w G v f.fz := by
  cases h with
  | v r => exact r.mono e
  | l a b r => exact .lst ((k _ List.mem_cons_self).trans b) (r.mono e)
theorem KfR.fz {G : Hp} (e : Same F G) : ∀ {kvs : List (NestedKey × V × V)} {ks : List D} {vs : List Fld} {as : List Addr}, KfR K w F H kvs ks vs as → (∀ b ∈ as, G b = H b) → KvR K w G kvs ks (vs.map Fld.fz)
  | _, _, _, _, .nil, _ => .nil
  | _, _, _, _, .cons n o k f r, h => .cons n o (k.mono e) (f.fz e fun b hb => h b (List.mem_append_left _ hb)) (r.fz e fun b hb => h b (List.mem_append_right _ hb))
theorem OwnR.fz {G : Hp} (e : Same F G) {a : Addr} {o : O} {as : List Addr} (h : OwnR K w F H a o as) (k : ∀ b ∈ as, G b = H b) : Rep K w G (.ref a) o.fz := by
  cases h with
  | lst a b r => exact .lst ((k _ List.mem_cons_self).trans b) (r.mono e)
  | dic a b r => exact .dic ((k _ List.mem_cons_self).trans b) (r.fz e fun b hb => k b (List.mem_cons_of_mem _ hb))
theorem RetR.fz {G : Hp} (e : Same F G) {v : V} {r : Ret} {as : List Addr} (h : RetR K w F H v r as) (k : ∀ b ∈ as, G b = H b) : Rep K w G v r.fz := by
  cases h with
  | val r => exact r.mono e
  | own r => exact r.fz e k
/-- what came is frozen -/
theorem freeze {F0 H0 : Hp} {as0 ar : List Addr} {v : V} {r : Ret} (s : Step F0 H0 as0 F H (as ++ ar)) (sub : Same F H) (env : EnvR K w F H L σ ρ as) (rr : RetR K w F H v r ar) (nd : (as ++ ar).Nodup) :
    ∃ F', Step F0 H0 as0 F' H as ∧ StOk K w L F' H σ ρ as ∧ Rep K w F' v r.fz ∧ Same F F' := by
  have hn : ∀ b ∈ ar, F b = none := fun b hb => (rr.ad b hb).1
  have sm : Same F (more F H ar) := more_same hn
  obtain ⟨nd1, nd2, dj⟩ := List.nodup_append.mp nd
  refine ⟨more F H ar, ⟨s.same.trans sm, s.keep, fun b h => ?_, fun b hb => s.nw b (List.mem_append_left _ hb)⟩, ⟨more_sub sub, env.mono sm fun b hb => ⟨rfl, ?_⟩, nd1⟩, rr.fz sm fun b hb => more_in hb, sm⟩
  · by_cases hb : b ∈ ar
    · rcases s.nw b (List.mem_append_right _ hb) with z | z
      · exact .inr (.inr z)
      · exact .inr (.inl z)
    · rw [more_out hb] at h; exact s.fre b h
  · have _z := hb
    rw [more_out fun h => dj b hb b h rfl]
    exact (env.ad b hb).1
end
end BP

set_option maxRecDepth 100000
set_option maxHeartbeats 4000000
/-! Dicts whose keys are None, bools, ints, texts and tuples of these together. -/
namespace BP
open PySem PySem.Spec PyProof.Rows

abbrev NKV := NestedKey × Value × Value
section
variable {prog : Program} {w : World} {A : Around} {E : Value → Shared → Prop} {s : Shared}
theorem ite_wp {α : Type} {M : Model} {c : Prop} [Decidable c] {a b : Sem α} {Q : α → Shared → Prop} (h1 : c → wpAny M A a Q E s) (h2 : ¬ c → wpAny M A b Q E s) : wpAny M A (if c then a else b) Q E s := by
  by_cases h : c
  · rw [if_pos h]; exact h1 h
  · rw [if_neg h]; exact h2 h
def KeyN (h : Heap) (k : NestedKey) (v : Value) : Prop := NestedIs h k v ∧ k.depth ≤ 8

theorem mayTell_N {key : Value} {k : NestedKey} {stored : List Value} {Q : Bool → Shared → Prop} (hkey : KeyN s.heap k key) (hst : ∀ v ∈ stored, ∃ k', KeyN s.heap k' v) (h : Q false s) :
    wpAny (model prog w) A (tableMayTell key stored) Q E s := by
  unfold tableMayTell
  split
  · exact wpAny_pure h
  · refine wpAny_bind (quiet_key k _ 8 s hkey.1 hkey.2 A E _ ?_)
    simp only [Bool.not_true, Bool.false_eq_true, if_false]
    refine wpAny_bind ?_
    refine wpAny_forIn_list _ (fun rest r s' => s' = s ∧ r = (none, ()) ∧ ∀ v ∈ rest, ∃ k', KeyN s.heap k' v) _ ?_ ?_ _ _ ⟨rfl, rfl, hst⟩
    · rintro x rest r s' ⟨rfl, rfl, hr⟩
      obtain ⟨k', hb⟩ := hr x List.mem_cons_self
      refine wpAny_bind (quiet_key k' _ 8 _ hb.1 hb.2 A E _ ?_)
      simp only [Bool.not_true, Bool.false_eq_true, if_false]
      exact wpAny_pure ⟨rfl, rfl, fun v hv => hr v (List.mem_cons_of_mem _ hv)⟩
    · rintro r s' ⟨rfl, rfl, _⟩
      exact wpAny_pure h

theorem eqB_N {x y : NestedKey} {a b : Value} {Q : Bool → Shared → Prop} (hu : A.units + 8 < cLine) (hx : KeyN s.heap x a) (hy : KeyN s.heap y b) (h : Q (decide (x = y)) s) : wpAny (model prog w) A (eqBool a b) Q E s :=
  eqAt_key x y A s _ _ hx.1 hy.1 (by have := hx.2; omega) _ _ _ _ (by rw [← NestedKey.decide_eq]; exact h)

theorem entryN_at {es : Array DictEntry} {xs : List NKV} (he : es.toList = xs.map (entN w)) (j : Nat) : es[j]? = (xs[j]?).map (entN w) := by
  rw [← Array.getElem?_toList, he, List.getElem?_map]
theorem entryN_size {es : Array DictEntry} {xs : List NKV} (he : es.toList = xs.map (entN w)) : es.size = xs.length := by
  rw [← Array.length_toList, he, List.length_map]
theorem idxN {xs : List NKV} (hn : (xs.map (·.1)).Nodup) {i j : Nat} {k : NestedKey} {p q : Value × Value} (hi : xs[i]? = some (k, p)) (hj : xs[j]? = some (k, q)) : i = j := by
  have hi' : (xs.map (·.1))[i]? = some k := by rw [List.getElem?_map, hi]; rfl
  have hj' : (xs.map (·.1))[j]? = some k := by rw [List.getElem?_map, hj]; rfl
  exact (List.getElem?_inj (List.getElem?_eq_some_iff.mp hi').1 hn).mp (hi'.trans hj'.symm)

/-- the walk over the places of a hash: where keys are carried by value, and where not -/
theorem find_N {d : Addr} {key : Value} {o : Obj} {es ep} {xs : List NKV} {k : NestedKey} {Q : Option Nat → Shared → Prop} (hu : A.units + 8 < cLine) (hkey : KeyN s.heap k key)
    (ho : s.heap.get? d = some o) (hd : o.data = .dict es ep) (he : es.toList = xs.map (entN w)) (his : ∀ x ∈ xs, KeyN s.heap x.1 x.2.1) (hn : (xs.map (·.1)).Nodup)
    (hnone : (∀ (j : Nat) (p : Value × Value), xs[j]? ≠ some (k, p)) → Q none s) (hsome : ∀ (j : Nat) (p : Value × Value), xs[j]? = some (k, p) → Q (some j) s) :
    wpAny (model prog w) A (dictFind d key (k.hash w)) Q E s := by
  have hsz : es.size = xs.length := entryN_size he
  have haskey : ∀ (j : Nat) (p : Value × Value), xs[j]? = some (k, p) → ((es[j]?.map (·.hash)) == some (k.hash w)) = true := by
    intro j p hj
    rw [entryN_at he j, hj]
    simp [entN]
  have hmem : ∀ e ∈ es, ∃ x ∈ xs, e = entN w x := by
    intro e hin
    have : e ∈ xs.map (entN w) := he ▸ Array.mem_toList_iff.mpr hin
    obtain ⟨x, hx, rfl⟩ := List.mem_map.mp this
    exact ⟨x, hx, rfl⟩
  have hany : ¬ (es.any fun e => e.key == key && e.hash != k.hash w) = true := by
    rw [← Array.any_toList, List.any_eq_true]
    rintro ⟨e, hin, hc⟩
    obtain ⟨x, hx, rfl⟩ := hmem e (Array.mem_toList_iff.mp hin)
    simp only [entN, Bool.and_eq_true, beq_iff_eq, bne_iff_ne, ne_eq] at hc
    obtain ⟨hxa, hne⟩ := hc
    have := (his x hx).1
    rw [hxa] at this
    exact hne (by rw [NestedIs.inj _ _ _ this hkey.1])
  have hst : ∀ v ∈ (placesWithHash es.size (fun i => es[i]?.map (·.hash)) (k.hash w)).filterMap (fun i => es[i]?.map (·.key)), ∃ k', KeyN s.heap k' v := by
    intro v hv
    obtain ⟨i, _, hi⟩ := List.mem_filterMap.mp hv
    cases hei : es[i]? with
    | none => rw [hei] at hi; cases hi
    | some e =>
      rw [hei] at hi
      obtain rfl : e.key = v := by simpa using hi
      obtain ⟨x, hx, rfl⟩ := hmem e (Array.mem_of_getElem? hei)
      exact ⟨x.1, his x hx⟩
  have hend : ∀ (i : Nat), [] = (List.range' i (es.size - i)).filter (fun i => (es[i]?.map (·.hash)) == some (k.hash w)) → (∀ j p, j < i → xs[j]? ≠ some (k, p)) → ∀ (j : Nat) (p : Value × Value), xs[j]? ≠ some (k, p) := by
    intro i hr hno j p hj
    rcases Nat.lt_or_ge j i with h | h
    · exact hno j p h hj
    · have hjl : j < es.size := by
        rw [hsz]
        rcases Nat.lt_or_ge j xs.length with h' | h'
        · exact h'
        · rw [List.getElem?_eq_none h'] at hj; exact nomatch hj
      have := List.filter_eq_nil_iff.mp hr.symm j (List.mem_range'_1.mpr ⟨h, by omega⟩)
      exact this (haskey j p hj)
  -- the walk where all is carried by value
  have plain : wpAny (model prog w) A (dictWalkPlain d key (k.hash w) es (placesWithHash es.size (fun i => es[i]?.map (·.hash)) (k.hash w))) Q E s := by
    refine wpAny_bind ?_
    refine wpAny_forIn_list _
      (fun rest b s' => s' = s ∧ b = (none, ()) ∧ ∃ i, rest = (List.range' i (es.size - i)).filter (fun i => (es[i]?.map (·.hash)) == some (k.hash w)) ∧ i ≤ es.size ∧
        ∀ j p, j < i → xs[j]? ≠ some (k, p)) _ ?_ ?_ _ _
      ⟨rfl, rfl, 0, by rw [placesWithHash, List.range_eq_range', Nat.sub_zero], Nat.zero_le _, fun _ _ h => absurd h (Nat.not_lt_zero _)⟩
    · rintro x rest b s' ⟨rfl, rfl, i, hr, hi, hno⟩
      obtain ⟨hix, hxn, hpx, hskip, hrest⟩ := filter_range'_cons _ _ _ _ _ hr.symm
      have hlt : x < es.size := by omega
      have hrest' : rest = (List.range' (x + 1) (es.size - (x + 1))).filter (fun i => (es[i]?.map (·.hash)) == some (k.hash w)) := by rw [hrest]; congr 2; omega
      obtain ⟨⟨k', b, v'⟩, hkv⟩ : ∃ y, xs[x]? = some y := ⟨xs[x]'(by rw [← hsz]; exact hlt), List.getElem?_eq_getElem _⟩
      have hib : KeyN s'.heap k' b := his _ (List.mem_of_getElem? hkv)
      have hex : es[x]? = some ⟨k'.hash w, b, v'⟩ := by rw [entryN_at he x, hkv]; rfl
      have hstay : ¬ k' = k → ∀ j p, j < x + 1 → xs[j]? ≠ some (k, p) := fun hne j p hjx hj => by
        rcases Nat.lt_or_ge j i with h | h
        · exact hno j p h hj
        · rcases Nat.lt_or_ge j x with h' | h'
          · have := hskip j h h'
            rw [haskey j p hj] at this
            exact absurd this (by decide)
          · have hjx' : j = x := by omega
            subst hjx'
            rw [hkv] at hj
            injection hj with hj
            injection hj with hj
            exact hne hj
      rw [hex]
      dsimp only
      by_cases hh : (k'.hash w == k.hash w) = true
      · rw [if_pos hh]
        refine wpAny_bind (wpAny_dictEpoch ho hd (wpAny_bind (eqB_N (x := k') (y := k) hu hib hkey (wpAny_bind (wpAny_dictEpoch ho hd ?_)))))
        show wpAny _ _ (if (ep != ep) = true then _ else _) _ E _
        rw [if_neg (by simp)]
        by_cases hkk : k' = k
        · rw [decide_eq_true hkk]
          subst hkk
          exact wpAny_bind (wpAny_rule (wpAny_pure (wpAny_pure (hsome x _ hkv))))
        · rw [decide_eq_false hkk]
          exact wpAny_bind (wpAny_rule (wpAny_pure ⟨rfl, rfl, x + 1, hrest', hlt, hstay hkk⟩))
      · rw [if_neg hh]
        refine wpAny_pure ⟨rfl, rfl, x + 1, hrest', hlt, hstay ?_⟩
        intro hkk
        rw [hkk] at hh; simp at hh
    · rintro b s' ⟨rfl, rfl, i, hr, hi, hno⟩
      exact wpAny_pure (hnone (hend i hr hno))
  have byv : ∀ (x : Str) (t : Tok), key = .str x t → (es.all fun e => isExactStrKey e.key) = true → wpAny (model prog w) A (foundByValue d key es x) Q E s := by
    rintro x t rfl hall
    obtain rfl : k = .text x := by
      have h := hkey.1
      cases h
      rfl
    have hkk : ∀ (j : Nat) (y : NKV), xs[j]? = some y → (y.2.1.isStr x = true ↔ y.1 = .text x) := by
      intro j y hj
      have hex : es[j]? = some (entN w y) := by rw [entryN_at he j, hj]; rfl
      have h1 : isExactStrKey y.2.1 = true := by
        rw [← Array.all_toList, List.all_eq_true] at hall
        exact hall (entN w y) (Array.mem_toList_iff.mpr (Array.mem_of_getElem? hex))
      have h2 := (his y (List.mem_of_getElem? hj)).1
      obtain ⟨y1, y2, y3⟩ := y
      simp only at h1 h2 ⊢
      cases h2 <;> simp [isExactStrKey] at h1
      simp [Value.isStr]
    unfold foundByValue
    cases hf : es.findIdx? (fun e => e.key.isStr x) with
    | none =>
      refine wpAny_pure (hnone fun j p hj => ?_)
      have hex : es[j]? = some (entN w (.text x, p)) := by rw [entryN_at he j, hj]; rfl
      have := Array.findIdx?_eq_none_iff.mp hf _ (Array.mem_of_getElem? hex)
      have h3 := (hkk j _ hj).mpr rfl
      simp only [entN] at this
      rw [h3] at this
      exact absurd this (by decide)
    | some i =>
      obtain ⟨hlt, hi, _⟩ := Array.findIdx?_eq_some_iff_getElem.mp hf
      obtain ⟨y, hy⟩ : ∃ y, xs[i]? = some y := ⟨xs[i]'(by rw [← hsz]; exact hlt), List.getElem?_eq_getElem _⟩
      have hex : es[i]? = some (entN w y) := by rw [entryN_at he i, hy]; rfl
      have hei : es[i] = entN w y := by
        rw [Array.getElem?_eq_getElem hlt] at hex
        exact Option.some.inj hex
      rw [hei] at hi
      have e1 : y.1 = .text x := (hkk i y hy).mp hi
      simp only [hex]
      refine wpAny_bind (wpAny_dictEpoch ho hd (wpAny_bind (eqB_N (x := y.1) (y := .text x) hu (his y (List.mem_of_getElem? hy)) hkey (wpAny_bind (wpAny_dictEpoch ho hd ?_)))))
      show wpAny _ _ (if (ep != ep) = true then _ else _) _ E _
      rw [if_neg (by simp), decide_eq_true e1]
      refine wpAny_bind (wpAny_rule (wpAny_pure (hsome i y.2 ?_)))
      rw [hy, ← e1]
  unfold dictFind
  try with_reducible refine wpAny_holding ?_
  refine wpAny_bind (wpAny_dictEntries ho hd ?_)
  dsimp only
  cases key <;> first
    | (exfalso; have h0 := hkey.1; cases h0; done)
    | dsimp only
  case' str x t => refine ite_wp (fun hall => byv x t rfl hall) fun hall => ?_
  all_goals refine ite_wp (fun _ => plain) fun hv => ?_
  all_goals (try refine ite_wp (fun h => absurd h hany) fun _ => ?_)
  all_goals
    refine ite_wp (fun hone => ?_) (fun hone => ?_) <;> (first | refine wpAny_bind (wpAny_pure ?_) | refine wpAny_bind (mayTell_N hkey hst ?_)) <;> (
      (try dsimp only)
      refine ite_wp (fun h => absurd h (by simp)) fun _ => ?_
      refine wpAny_bind ?_
      refine wpAny_forIn_list _
        (fun rest b s' => s' = s ∧ ∃ i hit, b = (none, hit) ∧ rest = (List.range' i (es.size - i)).filter (fun i => (es[i]?.map (·.hash)) == some (k.hash w)) ∧ i ≤ es.size ∧
          ((hit = none ∧ ∀ j p, j < i → xs[j]? ≠ some (k, p)) ∨ ∃ j p, hit = some j ∧ j < i ∧ xs[j]? = some (k, p))) _ ?_ ?_ _ _
        ⟨rfl, 0, none, rfl, by rw [placesWithHash, List.range_eq_range', Nat.sub_zero], Nat.zero_le _, .inl ⟨rfl, fun _ _ h => absurd h (Nat.not_lt_zero _)⟩⟩
      · rintro x rest b s' ⟨rfl, i, hit, rfl, hr, hi, hH⟩
        obtain ⟨hix, hxn, hpx, hskip, hrest⟩ := filter_range'_cons _ _ _ _ _ hr.symm
        have hlt : x < es.size := by omega
        have hrest' : rest = (List.range' (x + 1) (es.size - (x + 1))).filter (fun i => (es[i]?.map (·.hash)) == some (k.hash w)) := by rw [hrest]; congr 2; omega
        obtain ⟨⟨k', b, v'⟩, hkv⟩ : ∃ y, xs[x]? = some y := ⟨xs[x]'(by rw [← hsz]; exact hlt), List.getElem?_eq_getElem _⟩
        have hib : KeyN s'.heap k' b := his _ (List.mem_of_getElem? hkv)
        have hex : es[x]? = some ⟨k'.hash w, b, v'⟩ := by rw [entryN_at he x, hkv]; rfl
        have hHx : (hit = none ∧ ∀ j p, j < x → xs[j]? ≠ some (k, p)) ∨ ∃ j p, hit = some j ∧ j < x ∧ xs[j]? = some (k, p) := by
          rcases hH with ⟨h0, hno⟩ | ⟨j, p, h1, hji, hj⟩
          · refine .inl ⟨h0, fun j p hjx hj => ?_⟩
            rcases Nat.lt_or_ge j i with h | h
            · exact hno j p h hj
            · have := hskip j h hjx
              rw [haskey j p hj] at this
              exact absurd this (by decide)
          · exact .inr ⟨j, p, h1, by omega, hj⟩
        have hstay : ¬ k' = k → ((hit = none ∧ ∀ j p, j < x + 1 → xs[j]? ≠ some (k, p)) ∨ ∃ j p, hit = some j ∧ j < x + 1 ∧ xs[j]? = some (k, p)) := by
          intro hne
          rcases hHx with ⟨h0, hno⟩ | ⟨j, p, h1, hjx, hj⟩
          · refine .inl ⟨h0, fun j p hjx hj => ?_⟩
            rcases Nat.lt_or_ge j x with h | h
            · exact hno j p h hj
            · have hjx' : j = x := by omega
              subst hjx'
              rw [hkv] at hj
              injection hj with hj
              injection hj with hj
              exact hne hj
          · exact .inr ⟨j, p, h1, by omega, hj⟩
        rw [hex]
        dsimp only
        by_cases hh : (k'.hash w == k.hash w) = true
        · rw [if_pos hh]
          refine wpAny_bind (wpAny_dictEpoch ho hd (wpAny_bind (eqB_N (x := k') (y := k) hu hib hkey (wpAny_bind (wpAny_dictEpoch ho hd ?_)))))
          show wpAny _ _ (if (ep != ep) = true then _ else _) _ E _
          rw [if_neg (by simp)]
          by_cases hkk : k' = k
          · rw [decide_eq_true hkk]
            subst hkk
            rcases hHx with ⟨rfl, _⟩ | ⟨j, p, _, hjx, hj⟩
            · first | rw [if_pos rfl] | skip
              simp only [Option.isSome_none, Bool.false_eq_true, if_false]
              first | refine wpAny_bind (wpAny_pure ?_) | skip
              refine wpAny_bind (wpAny_rule ?_)
              split
              · exact wpAny_pure (wpAny_pure (hsome x _ hkv))
              · exact wpAny_pure ⟨rfl, x + 1, some x, rfl, hrest', hlt, .inr ⟨x, _, rfl, Nat.lt_succ_self x, hkv⟩⟩
            · exact absurd (idxN hn hj hkv) (by omega)
          · rw [decide_eq_false hkk]
            simp only [Bool.false_eq_true, if_false]
            refine wpAny_bind (wpAny_rule ?_)
            first | rw [if_neg (by simp)] | skip
            first
              | exact wpAny_pure ⟨rfl, x + 1, hit, rfl, hrest', hlt, hstay hkk⟩
              | exact wpAny_bind (wpAny_pure (wpAny_pure ⟨rfl, x + 1, hit, rfl, hrest', hlt, hstay hkk⟩))
        · rw [if_neg hh]
          refine wpAny_pure ⟨rfl, x + 1, hit, rfl, hrest', hlt, hstay ?_⟩
          intro hkk
          rw [hkk] at hh; simp at hh
      · rintro b s' ⟨rfl, i, hit, rfl, hr, hi, hH⟩
        rcases hH with ⟨rfl, hno⟩ | ⟨j, p, rfl, _, hj⟩
        · exact wpAny_pure (hnone (hend i hr hno))
        · exact wpAny_pure (hsome j p hj))
end
end BP

set_option maxRecDepth 100000
set_option maxHeartbeats 4000000
/-! Slots: read, changed, stored, wiped. -/
namespace BP
open PySem PySem.Spec PyProof.Rows L2
section
variable {K : PySem.W.Frag} {w : World} {F F' H H' : Hp}

theorem put_len : ∀ (ρ : Env) (i : Nat) (s : Slot), (put ρ i s).length = ρ.length
  | [], _, _ => rfl
  | _ :: _, 0, _ => rfl
  | _ :: r, i + 1, s => by rw [put, List.length_cons, put_len r i s, List.length_cons]

theorem EnvR.val : ∀ {L : List (Option Addr)} {σ : L2.St} {ρ : Env} {as : List Addr} {i : Nat} {d : D}, EnvR K w F H L σ ρ as → get ρ i = .val d → ∃ v, σ[i]? = some (some v) ∧ Rep K w F v d
  | _, _, _, _, i, d, .nil, e => by cases i <;> simp [get] at e
  | _, _, _, _, 0, d, .cons s r, e => by
    simp only [get] at e
    subst e
    cases s with
    | val q => exact ⟨_, rfl, q⟩
  | _, _, _, _, i + 1, d, .cons s r, e => by
    obtain ⟨v, h1, h2⟩ := EnvR.val (i := i) (d := d) r (by simpa [get] using e)
    exact ⟨v, by simpa using h1, h2⟩

/-- where a thing lies, and what may come in its place -/
theorem EnvR.thing : ∀ {L : List (Option Addr)} {σ : L2.St} {ρ : Env} {as : List Addr} {i : Nat} {o : O}, EnvR K w F H L σ ρ as → gO ρ i = some o →
    ∃ (a : Addr) (A m B : List Addr), as = A ++ m ++ B ∧ σ[i]? = some (some (.ref a)) ∧ OwnR K w F H a o m ∧
      (∀ (F' H' : Hp) (o' : O) (m' : List Addr), Same F F' → (∀ b ∈ A ++ B, H' b = H b ∧ F' b = none) → OwnR K w F' H' a o' m' → EnvR K w F' H' L σ (pO ρ i o') (A ++ m' ++ B)) ∧
      (get ρ i = .own o → ∀ (F' H' : Hp) (d : D), Same F F' → (∀ b ∈ A ++ B, H' b = H b ∧ F' b = none) → Rep K w F' (.ref a) d → EnvR K w F' H' L σ (put ρ i (.val d)) (A ++ B)) ∧
      (get ρ i = .own o → ∀ (F' H' : Hp), Same F F' → (∀ b ∈ A ++ B, H' b = H b ∧ F' b = none) → EnvR K w F' H' L σ (put ρ i .emp) (A ++ B))
  | _, _, _, _, i, o, .nil, e => by cases i <;> simp [gO, get, Slot.thing] at e
  | _, _, _, _, 0, o, .cons (as := as) (bs := bs) (s := s) q r, e => by
    have e : s.thing = some o := e
    cases q with
    | emp => cases e
    | val _ => cases e
    | own q =>
      cases e
      refine ⟨_, [], as, bs, by simp, rfl, q, fun F' H' o' m' sm k q' => ?_, fun _ F' H' d sm k q' => ?_, fun _ F' H' sm k => ?_⟩
      · exact .cons (.own q') (r.mono sm fun b hb => k b (by simpa using hb))
      · exact .cons (as := []) (.val q') (r.mono sm fun b hb => k b (by simpa using hb))
      · exact .cons (as := []) .emp (r.mono sm fun b hb => k b (by simpa using hb))
    | lnt q =>
      cases e
      refine ⟨_, [], as, bs, by simp, rfl, q, fun F' H' o' m' sm k q' => ?_, fun z => by simp [get] at z, fun z => by simp [get] at z⟩
      exact .cons (.lnt q') (r.mono sm fun b hb => k b (by simpa using hb))
  | _, _, _, _, i + 1, o, .cons (as := as) (bs := bs) (s := s) q r, e => by
    obtain ⟨a, A, m, B, e1, e2, e3, e4, e5, e6⟩ := EnvR.thing (i := i) (o := o) r e
    have kq : ∀ {F' H' : Hp}, (∀ b ∈ (as ++ A) ++ B, H' b = H b ∧ F' b = none) → (∀ b ∈ as, H' b = H b ∧ F' b = none) ∧ (∀ b ∈ A ++ B, H' b = H b ∧ F' b = none) := fun {F' H'} k =>
      ⟨fun b hb => k b (by simp [hb]), fun b hb => k b (by rcases List.mem_append.mp hb with h | h <;> simp [h])⟩
    refine ⟨a, as ++ A, m, B, by rw [e1]; simp, by simpa using e2, e3, fun F' H' o' m' sm k q' => ?_, fun z F' H' d sm k q' => ?_, fun z F' H' sm k => ?_⟩
    · obtain ⟨k1, k2⟩ := kq k
      have := EnvR.cons (q.mono sm k1) (e4 F' H' o' m' sm k2 q')
      simpa [pO, put, get] using this
    · obtain ⟨k1, k2⟩ := kq k
      have := EnvR.cons (q.mono sm k1) (e5 z F' H' d sm k2 q')
      simpa [put] using this
    · obtain ⟨k1, k2⟩ := kq k
      have := EnvR.cons (q.mono sm k1) (e6 z F' H' sm k2)
      simpa [put] using this

/-- another value in a slot -/
theorem EnvR.store : ∀ {L : List (Option Addr)} {σ : L2.St} {ρ : Env} {as : List Addr} {i : Nat} {s : Slot} {v : V} {ar : List Addr}, EnvR K w F H L σ ρ as → isLnt (get ρ i) = false → SlotR K w F H none (some v) s ar →
    ∃ A B A' m : List Addr, as = A ++ m ++ B ∧ EnvR K w F H L (σ.set i (some v)) (put ρ i s) (A ++ A' ++ B) ∧ (A' = ar ∨ A' = [])
  | _, _, _, _, i, s, v, ar, .nil, _, _ => ⟨[], [], [], [], rfl, by cases i <;> exact .nil, .inr rfl⟩
  | _, _, _, _, 0, s, v, ar, .cons (as := as) (bs := bs) q r, e, z => by
    have e : isLnt _ = false := e
    cases q with
    | lnt _ => simp [get, isLnt] at e
    | emp => exact ⟨[], bs, ar, [], by simp, .cons z r, .inl rfl⟩
    | val _ => exact ⟨[], bs, ar, [], by simp, .cons z r, .inl rfl⟩
    | own _ => exact ⟨[], bs, ar, as, by simp, .cons z r, .inl rfl⟩
  | _, _, _, _, i + 1, s, v, ar, .cons (as := as) (bs := bs) q r, e, z => by
    obtain ⟨A, B, A', m, e1, e2, e3⟩ := EnvR.store (i := i) r e z
    refine ⟨as ++ A, B, A', m, by rw [e1]; simp, ?_, e3⟩
    have := EnvR.cons q e2
    simpa [put] using this
theorem EnvR.store_val {L : List (Option Addr)} {σ : L2.St} {ρ ρ' : Env} {as : List Addr} {i : Nat} {d : D} {v : V} (h : EnvR K w F H L σ ρ as) (nd : as.Nodup) (e : setS ρ i (.val d) = some ρ') (r : Rep K w F v d) :
    ∃ as', EnvR K w F H L (σ.set i (some v)) ρ' as' ∧ (∀ b ∈ as', b ∈ as) ∧ as'.Nodup := by
  unfold setS at e
  split at e
  · cases e
  · rename_i hn
    cases e
    obtain ⟨A, B, A', m, e1, e2, e3⟩ := h.store (by simpa using hn) (.val r)
    obtain rfl : A' = [] := by rcases e3 with e | e <;> exact e
    refine ⟨_, e2, fun b hb => ?_, ?_⟩
    · rw [e1]; simp at hb ⊢; rcases hb with h | h <;> simp [h]
    · rw [e1] at nd
      refine nd.sublist ?_
      rw [List.append_nil, List.append_assoc]
      exact (List.Sublist.refl A).append (List.sublist_append_right m B)
theorem EnvR.store_own {L : List (Option Addr)} {σ : L2.St} {ρ ρ' : Env} {as ar : List Addr} {i : Nat} {o : O} {a : Addr} (h : EnvR K w F H L σ ρ as) (nd : (as ++ ar).Nodup) (e : setS ρ i (.own o) = some ρ') (r : OwnR K w F H a o ar) :
    ∃ as', EnvR K w F H L (σ.set i (some (.ref a))) ρ' as' ∧ (∀ b ∈ as', b ∈ as ++ ar) ∧ as'.Nodup := by
  unfold setS at e
  split at e
  · cases e
  · rename_i hn
    cases e
    obtain ⟨A, B, A', m, e1, e2, e3⟩ := h.store (by simpa using hn) (.own r)
    refine ⟨_, e2, fun b hb => ?_, ?_⟩
    · rw [e1]
      rcases e3 with e | e
      · subst e; simp at hb ⊢; rcases hb with h | h | h <;> simp [h]
      · subst e; simp at hb ⊢; rcases hb with h | h <;> simp [h]
    · rw [e1] at nd
      have n2 : (A ++ B ++ ar).Nodup := by
        refine nd.sublist (List.Sublist.append ?_ (List.Sublist.refl ar))
        rw [List.append_assoc A m B]
        exact (List.Sublist.refl A).append (List.sublist_append_right m B)
      rcases e3 with e | e
      · subst e
        refine (List.Perm.nodup_iff ?_).mp n2
        rw [List.append_assoc, List.append_assoc]
        exact List.Perm.append_left A List.perm_append_comm
      · subst e
        rw [List.append_nil]
        exact n2.sublist (List.sublist_append_left _ _)

/-! ### wiped slots -/
theorem get_put_same : ∀ (ρ : Env) (i : Nat) (s : Slot), i < ρ.length → get (put ρ i s) i = s
  | [], _, _, h => by simp at h
  | _ :: _, 0, _, _ => rfl
  | _ :: r, i + 1, s, h => get_put_same r i s (by simpa using h)
theorem get_put_ne : ∀ (ρ : Env) (i j : Nat) (s : Slot), i ≠ j → get (put ρ i s) j = get ρ j
  | [], _, _, _, _ => rfl
  | _ :: _, 0, 0, _, h => absurd rfl h
  | _ :: _, 0, j + 1, _, _ => rfl
  | _ :: r, i + 1, 0, s, _ => rfl
  | _ :: r, i + 1, j + 1, s, h => get_put_ne r i j s fun e => h (by rw [e])
theorem get_out : ∀ (ρ : Env) (i : Nat), ρ.length ≤ i → get ρ i = .emp
  | [], _, _ => rfl
  | _ :: _, 0, h => by simp at h
  | _ :: r, i + 1, h => get_out r i (by simpa using h)
def wipeS (vs : List Nat) : Nat → L2.St → L2.St
  | _, [] => []
  | n, x :: r => (if vs.contains n then none else x) :: wipeS vs (n + 1) r
theorem wipeS_get (vs : List Nat) : ∀ (n : Nat) (σ : L2.St) (j : Nat), (wipeS vs n σ)[j]? = σ[j]?.map fun x => if vs.contains (n + j) then none else x
  | _, [], j => by simp [wipeS]
  | n, x :: r, 0 => by simp [wipeS]
  | n, x :: r, j + 1 => by
    have := wipeS_get vs (n + 1) r j
    rw [show n + 1 + j = n + (j + 1) by omega] at this
    simpa [wipeS] using this
theorem wipe_get (σ : L2.St) (j : Nat) : ∀ vs : List Nat, (L2.wipe σ vs)[j]? = σ[j]?.map fun x => if vs.contains j then none else x
  | [] => by simp [L2.wipe]
  | v :: vs => by
    unfold L2.wipe
    rw [List.getElem?_set, wipe_get σ j vs, L2.wipe_length]
    by_cases e : v = j
    · subst e
      rw [if_pos rfl]
      by_cases h : v < σ.length
      · rw [if_pos h]; simp [h]
      · rw [if_neg h]; simp [List.getElem?_eq_none (Nat.not_lt.mp h)]
    · rw [if_neg e]
      have hb : ¬ j = v := fun h => e h.symm
      simp [hb]
theorem wipe_eq (σ : L2.St) (vs : List Nat) : L2.wipe σ vs = wipeS vs 0 σ := by
  apply List.ext_getElem?
  intro j
  rw [wipe_get, wipeS_get, Nat.zero_add]
theorem EnvR.wipeN (vs : List Nat) : ∀ (n : Nat) {L : List (Option Addr)} {σ : L2.St} {ρ : Env} {as : List Addr}, EnvR K w F H L σ ρ as → (∀ v ∈ vs, ∀ j, v = n + j → isThing (get ρ j) = false) → EnvR K w F H L (wipeS vs n σ) (wipeE vs n ρ) as
  | _, _, _, _, _, .nil, _ => .nil
  | n, _, _, _, _, .cons q r, k => by
    have ih := EnvR.wipeN vs (n + 1) r fun v hv j e => by
      have := k v hv (j + 1) (by omega)
      simpa [get] using this
    unfold wipeS wipeE
    by_cases h : vs.contains n = true
    · rw [if_pos h, if_pos h]
      have h0 := k n (by simpa using h) 0 rfl
      cases q with
      | emp => exact .cons .emp ih
      | val _ => exact .cons .emp ih
      | own _ => simp [get, isThing] at h0
      | lnt _ => simp [get, isThing] at h0
    · rw [if_neg h, if_neg h]
      exact .cons q ih
theorem EnvR.wipe {L : List (Option Addr)} {σ : L2.St} {ρ : Env} {as : List Addr} (h : EnvR K w F H L σ ρ as) {vs : List Nat} (k : (vs.all fun v => !isThing (get ρ v)) = true) : EnvR K w F H L (L2.wipe σ vs) (wipeE vs 0 ρ) as := by
  rw [wipe_eq]
  refine EnvR.wipeN vs 0 h fun v hv j e => ?_
  rw [List.all_eq_true] at k
  have := k v hv
  rw [e, Nat.zero_add] at this
  simpa using this
/-- slots that were no things are given back -/
theorem EnvR.backN (e : Same F F') (vs : List Nat) : ∀ (n : Nat) {L : List (Option Addr)} {σ : L2.St} {ρ0 ρ : Env} {as0 as : List Addr}, EnvR K w F H L σ ρ0 as0 → (∀ v ∈ vs, ∀ j, v = n + j → isThing (get ρ0 j) = false) → EnvR K w F' H' L (wipeS vs n σ) ρ as →
    (∀ v ∈ vs, ∀ j, v = n + j → isThing (get ρ j) = false) → EnvR K w F' H' L σ (back vs n ρ0 ρ) as
  | _, _, _, _, _, _, _, .nil, _, h, _ => by cases h; exact .nil
  | n, _, _, _, _, _, _, .cons q r, k, h, k2 => by
    unfold wipeS at h
    generalize hx : (if vs.contains n = true then none else _) = y at h
    cases h with
    | cons q2 r2 =>
      have ih := EnvR.backN e vs (n + 1) r (fun v hv j e => by
        have := k v hv (j + 1) (by omega)
        simpa [get] using this) r2 (fun v hv j e => by
        have := k2 v hv (j + 1) (by omega)
        simpa [get] using this)
      unfold back
      by_cases h : vs.contains n = true
      · rw [if_pos h]
        have h0 := k n (by simpa using h) 0 rfl
        have h2 := k2 n (by simpa using h) 0 rfl
        cases q2 with
        | own _ => simp [get, isThing] at h2
        | lnt _ => simp [get, isThing] at h2
        | emp => cases q with
          | own _ => simp [get, isThing] at h0
          | emp => exact .cons .emp ih
          | val z => exact .cons (.val (z.mono e)) ih
        | val _ => cases q with
          | own _ => simp [get, isThing] at h0
          | emp => exact .cons (as := []) .emp ih
          | val z => exact .cons (as := []) (.val (z.mono e)) ih
      · rw [if_neg h]
        rw [if_neg h] at hx
        subst hx
        exact .cons q2 ih
theorem EnvR.back (e : Same F F') {vs : List Nat} {L : List (Option Addr)} {σ : L2.St} {ρ0 ρ : Env} {as0 as : List Addr} (h0 : EnvR K w F H L σ ρ0 as0) (k : (vs.all fun v => !isThing (get ρ0 v)) = true) (h : EnvR K w F' H' L (L2.wipe σ vs) ρ as)
    (k2 : (vs.all fun v => !isThing (get ρ v)) = true) : EnvR K w F' H' L σ (BP.back vs 0 ρ0 ρ) as := by
  rw [wipe_eq] at h
  rw [List.all_eq_true] at k k2
  refine EnvR.backN e vs 0 h0 (fun v hv j e => ?_) h fun v hv j e => ?_
  · have := k v hv
    rw [e, Nat.zero_add] at this
    simpa using this
  · have := k2 v hv
    rw [e, Nat.zero_add] at this
    simpa using this
theorem get_wipeE (vs : List Nat) : ∀ (n : Nat) (ρ : Env) (j : Nat), vs.contains (n + j) = true → get (wipeE vs n ρ) j = .emp
  | _, [], j, _ => by cases j <;> rfl
  | n, x :: r, 0, h => by
    unfold wipeE
    rw [Nat.add_zero] at h
    rw [if_pos h]; rfl
  | n, x :: r, j + 1, h => by
    unfold wipeE
    show get (wipeE vs (n + 1) r) j = _
    exact get_wipeE vs (n + 1) r j (by rw [show n + 1 + j = n + (j + 1) by omega]; exact h)
theorem wipeE_no (vs : List Nat) (ρ : Env) : (vs.all fun v => !isThing (get (wipeE vs 0 ρ) v)) = true := by
  rw [List.all_eq_true]
  intro v hv
  rw [get_wipeE vs 0 ρ v (by simpa using hv)]
  rfl
/-- a store at a wiped place -/
theorem wipe_set {σ : L2.St} {i : Nat} {x : Option V} {vs : List Nat} (h : i ∈ vs) : L2.wipe (σ.set i x) vs = L2.wipe σ vs := by
  apply List.ext_getElem?
  intro j
  rw [wipe_get, wipe_get, List.getElem?_set]
  by_cases e : i = j
  · subst e
    rw [if_pos rfl]
    have hc : vs.contains i = true := by simpa using h
    by_cases hl : i < σ.length
    · rw [if_pos hl]; simp [hl, h]
    · rw [if_neg hl]; simp [List.getElem?_eq_none (Nat.not_lt.mp hl)]
  · rw [if_neg e]
end
end BP

set_option maxRecDepth 100000
set_option maxHeartbeats 4000000
/-! Readings over the interpreter; operators and comparisons. -/
namespace BP
open PySem PySem.Spec PyProof.Rows L2

theorem lineN_eq : lineN = sizeLine := by rw [sizeLine_eq]; rfl

/-! ### data in the library's words -/
mutual
theorem eqv_py : ∀ a b : D, D.dep a ≤ 64 → D.dep b ≤ 64 → PyData.eqv (py a) (py b) = D.eqv a b
  | .non, b, _, hb => by cases b <;> first | rfl | (simp [py, PyData.eqv, D.eqv]; done) | simp [D.dep] at hb
  | .bl x, b, _, hb => by cases b <;> first | (simp [py, PyData.eqv, D.eqv, b2i]; done) | simp [D.dep] at hb
  | .int x, b, _, hb => by cases b <;> first | (simp [py, PyData.eqv, D.eqv, b2i]; done) | simp [D.dep] at hb
  | .str x, b, _, hb => by
    cases b with
    | str y =>
      simp only [py, PyData.eqv, D.eqv]
      rw [Bool.eq_iff_iff, beq_iff_eq, beq_iff_eq]
      exact toStr_inj
    | _ => first | (simp [py, PyData.eqv, D.eqv]; done) | simp [D.dep] at hb
  | .tup x, b, ha, hb => by
    cases b with
    | tup y =>
      simp only [py, PyData.eqv, D.eqv]
      simp only [D.dep] at ha hb
      exact eqvs_py x y (by omega) (by omega)
    | _ => first | (simp [py, PyData.eqv, D.eqv]; done) | simp [D.dep] at hb
  | .lst x, b, ha, hb => by
    cases b with
    | lst y =>
      simp only [py, PyData.eqv, D.eqv]
      simp only [D.dep] at ha hb
      exact eqvs_py x y (by omega) (by omega)
    | _ => first | (simp [py, PyData.eqv, D.eqv]; done) | simp [D.dep] at hb
  | .scr x, b, ha, _ => by simp [D.dep] at ha
  | .dic x y, b, ha, _ => by simp [D.dep] at ha
theorem eqvs_py : ∀ a b : List D, D.deps a ≤ 64 → D.deps b ≤ 64 → PyData.eqvAll (pys a) (pys b) = D.eqvs a b
  | [], [], _, _ => rfl
  | [], _ :: _, _, _ => rfl
  | _ :: _, [], _, _ => rfl
  | a :: as, b :: bs, ha, hb => by
    simp only [D.deps] at ha hb
    simp only [pys, PyData.eqvAll, D.eqvs]
    rw [eqv_py a b (by omega) (by omega), eqvs_py as bs (by omega) (by omega)]
end
mutual
theorem shp_py : ∀ a : D, D.dep a ≤ 64 → (py a).canLay0 = true ∧ (py a).depth = D.dep a
  | .non, _ => ⟨rfl, rfl⟩
  | .bl _, _ => ⟨rfl, rfl⟩
  | .int _, _ => ⟨rfl, rfl⟩
  | .str s, h => by
    simp only [D.dep] at h
    split at h
    · rename_i hs
      refine ⟨?_, by simp only [py, PyData.depth, D.dep]; rw [if_pos hs]⟩
      show (toStr s).cps.all (· < 0x110000) = true
      unfold toStr
      rw [← Array.all_toList]
      exact hs
    · omega
  | .tup ds, h => by
    simp only [D.dep] at h
    obtain ⟨h1, h2⟩ := shps_py ds (by omega)
    exact ⟨h1, by simp only [py, PyData.depth, D.dep, h2]⟩
  | .lst ds, h => by
    simp only [D.dep] at h
    obtain ⟨h1, h2⟩ := shps_py ds (by omega)
    exact ⟨h1, by simp only [py, PyData.depth, D.dep, h2]⟩
  | .scr _, h => by simp [D.dep] at h
  | .dic _ _, h => by simp [D.dep] at h
theorem shps_py : ∀ as : List D, D.deps as ≤ 64 → PyData.canLayAll0 (pys as) = true ∧ PyData.depthAll (pys as) = D.deps as
  | [], _ => ⟨rfl, rfl⟩
  | a :: as, h => by
    simp only [D.deps] at h
    obtain ⟨h1, h2⟩ := shp_py a (by omega)
    obtain ⟨h3, h4⟩ := shps_py as (by omega)
    exact ⟨by simp only [pys, PyData.canLayAll0, h1, h3]; rfl, by simp only [pys, PyData.depthAll, D.deps, h2, h4]⟩
end
theorem okEq_le {a : D} (h : okEq a = true) : D.dep a ≤ 64 := of_decide_eq_true h
theorem shaped_of {a : D} (h : okEq a = true) : SeqAt.shaped (py a) = true := by
  obtain ⟨h1, h2⟩ := shp_py a (okEq_le h)
  unfold SeqAt.shaped
  rw [h1, h2]
  simpa using okEq_le h
theorem canLays_of {ds : List D} (h : ds.all okEq = true) : PyData.canLayAll0 (pys ds) = true := by
  induction ds with
  | nil => rfl
  | cons d ds ih =>
    simp only [List.all_cons, Bool.and_eq_true] at h
    simp only [pys, PyData.canLayAll0, (shp_py d (okEq_le h.1)).1, ih h.2]
    rfl
theorem inD_py {x : D} (hx : okEq x = true) : ∀ {ds : List D}, ds.all okEq = true → ((pys ds).any fun z => PyData.eqv z (py x)) = inD x ds
  | [], _ => rfl
  | d :: ds, h => by
    simp only [List.all_cons, Bool.and_eq_true] at h
    simp only [pys, List.any_cons, inD]
    rw [eqv_py d x (okEq_le h.1) (okEq_le hx), inD_py hx h.2]

section
variable {K : PySem.W.Frag} {w : World} {F H : Hp}
mutual
theorem Rep.dp (s : Same F H) : ∀ {v : V} {d : D}, Rep K w F v d → D.dep d ≤ 64 → Dp K H v (py d)
  | _, _, .non, _ => .non
  | _, _, .bl b, _ => .bl b
  | _, _, .int i, _ => .int i
  | _, _, .str x, _ => .str _
  | _, _, .tup h r, hd => .tup (Same.seqT s h) (r.dp s (by simp only [D.dep] at hd; omega))
  | _, _, .lst h r, hd => .lst (.of (s _ _ h)) (r.dp s (by simp only [D.dep] at hd; omega))
  | _, _, .scr _, hd => by simp [D.dep] at hd
  | _, _, .dic _ _, hd => by simp [D.dep] at hd
theorem Reps.dp (s : Same F H) : ∀ {vs : List V} {ds : List D}, Reps K w F vs ds → D.deps ds ≤ 64 → DpAll K H vs (pys ds)
  | _, _, .nil, _ => .nil
  | _, _, .cons h r, hd => by
    simp only [D.deps] at hd
    exact .cons (h.dp s (by omega)) (r.dp s (by omega))
end
theorem Reps.dpAll (s : Same F H) : ∀ {vs : List V} {ds : List D}, Reps K w F vs ds → ds.all okEq = true → DpAll K H vs (pys ds)
  | _, _, .nil, _ => .nil
  | _, _, .cons h r, hd => by
    simp only [List.all_cons, Bool.and_eq_true] at hd
    exact .cons (h.dp s (okEq_le hd.1)) (r.dpAll s hd.2)
end

/-! ### readings -/
section
variable (K : PySem.W.Frag) (w : World)
/-- what is wanted behind an expression of the answer r in the slots ρ' -/
def Post (L : List (Option Addr)) (F H : Hp) (as : List Addr) (σ : L2.St) (ρ' : Env) (r : Ret) (Q : VK) : Prop :=
  ∀ F' H' v as' ar, Step F H as F' H' (as' ++ ar) → Same F' H' → EnvR K w F' H' L σ ρ' as' → RetR K w F' H' v r ar → (as' ++ ar).Nodup → Q v H'
def tGen (ev : Env → Option (Ret × Env)) : TE := fun σ H Q => ∃ L F ρ as r ρ', StOk K w L F H σ ρ as ∧ ev ρ = some (r, ρ') ∧ Post K w L F H as σ ρ' r Q
/-- .. the value, frozen -/
def tVal (ev : Env → Option (Ret × Env)) : TE := fun σ H Q => ∃ L F ρ as r ρ', StOk K w L F H σ ρ as ∧ ev ρ = some (r, ρ') ∧
  ∀ F' H' v as', Step F H as F' H' as' → StOk K w L F' H' σ ρ' as' → Rep K w F' v r.fz → Q v H'
def tTst (ev : Env → Option (Ret × Env)) : TT := fun σ H Q => ∃ L F ρ as r ρ' b, StOk K w L F H σ ρ as ∧ ev ρ = some (r, ρ') ∧ r.fz = .bl b ∧
  ∀ F' H' as', Step F H as F' H' as' → StOk K w L F' H' σ ρ' as' → Q b H'
def tLst (ev : Env → Option (List D × Env)) : TA := fun σ H Q => ∃ L F ρ as ds ρ', StOk K w L F H σ ρ as ∧ ev ρ = some (ds, ρ') ∧
  ∀ F' H' vs as', Step F H as F' H' as' → StOk K w L F' H' σ ρ' as' → Reps K w F' vs ds → Q vs H'
end
section
variable {X : Cx} {e : Expr}
theorem PE.imp {t t' : TE} (h : PE X e t) (i : ∀ σ H Q, t' σ H Q → t σ H Q) : PE X e t' := ⟨fun pins s σ H Q I hw => h.run pins s σ H Q I (i _ _ _ hw)⟩
theorem PT.imp {t t' : TT} (h : PT X e t) (i : ∀ σ H Q, t' σ H Q → t σ H Q) : PT X e t' := ⟨fun pins s σ H Q I hw => h.run pins s σ H Q I (i _ _ _ hw)⟩
theorem PW.imp {t t' : TT} (h : PW X e t) (i : ∀ σ H Q, t' σ H Q → t σ H Q) : PW X e t' := ⟨fun wh pins s σ H Q I hw => h.run wh pins s σ H Q I (i _ _ _ hw)⟩
theorem PA.imp {es : List Expr} {t t' : TA} (h : PA X es t) (i : ∀ σ H Q, t' σ H Q → t σ H Q) : PA X es t' := ⟨fun pos pins s σ H Q I hw => h.run pos pins s σ H Q I (i _ _ _ hw)⟩
theorem PS.imp {st : Stmt} {t t' : TS} (h : PS X st t) (i : ∀ D σ H, t' D σ H → t D σ H) : PS X st t' := ⟨fun pins s σ H D I hw => h.run pins s σ H D I (i _ _ _ hw)⟩
theorem PSs.imp {st : List Stmt} {t t' : TS} (h : PSs X st t) (i : ∀ D σ H, t' D σ H → t D σ H) : PSs X st t' := ⟨fun pins s σ H D I hw => h.run pins s σ H D I (i _ _ _ hw)⟩
end
section
variable {K : PySem.W.Frag} {w : World} {L : List (Option Addr)} {F H F' H' F1 H1 : Hp} {σ : L2.St} {ρ ρ' ρ1 : Env} {as as' as1 ar : List Addr} {r : Ret} {Q : VK}
theorem Post.step (p : Post K w L F H as σ ρ' r Q) (s : Step F H as F1 H1 as1) : Post K w L F1 H1 as1 σ ρ' r Q := fun F' H' v as' ar st sm en rr nd => p F' H' v as' ar (s.trans st) sm en rr nd
theorem Post.v {v : V} {d : D} (p : Post K w L F H as σ ρ' (.val d) Q) (st : StOk K w L F H σ ρ' as) (r : Rep K w F v d) : Q v H :=
  p F H v as [] (by rw [List.append_nil]; exact Step.refl _ _ _) st.sub st.env (.val r) (by rw [List.append_nil]; exact st.nd)
/-- a new thing for ever -/
theorem Post.nF {d : D} {o : HO} {q : Addr} (p : Post K w L F H as σ ρ' (.val d) Q) (st : StOk K w L F H σ ρ' as) (hq : H q = none) (r : Rep K w (upd F q o) (.ref q) d) : Q (.ref q) (upd H q o) :=
  (p.step (Step.newF hq (same_F st.sub hq))).v (st.newF hq) r
/-- a new thing, owned -/
theorem Post.nO {o' : O} {o : HO} {q : Addr} (p : Post K w L F H as σ ρ' (.own o') Q) (st : StOk K w L F H σ ρ' as) (hq : H q = none) (r : OwnR K w F (upd H q o) q o' [q]) : Q (.ref q) (upd H q o) := by
  obtain ⟨h1, h2, h3, _⟩ := st.newO (o := o) hq
  exact p F (upd H q o) (.ref q) as [q] (Step.newO hq) h1 h2 (.own r) h3
theorem Post.nL {ds : List D} {xs : List V} {q : Addr} (p : Post K w L F H as σ ρ' (.own (.lst ds)) Q) (st : StOk K w L F H σ ρ' as) (hq : H q = none) (r : Reps K w F xs ds) : Q (.ref q) (upd H q (.lst xs)) :=
  p.nO st hq (.lst (same_F st.sub hq) upd_same r)
theorem Post.nT {ds : List D} {xs : List V} {q : Addr} (p : Post K w L F H as σ ρ' (.val (.tup ds)) Q) (st : StOk K w L F H σ ρ' as) (hq : H q = none) (r : Reps K w F xs ds) : Q (.ref q) (upd H q (.tup xs)) :=
  p.nF st hq (.tup (.of upd_same) (r.mono (Step.newF (as := as) hq (same_F st.sub hq)).same))
theorem tGen_val {ev : Env → Option (Ret × Env)} {σ : L2.St} {H : Hp} {Q : VK} (h : tVal K w ev σ H Q) : tGen K w ev σ H Q := by
  obtain ⟨L, F, ρ, as, r, ρ', st, e, k⟩ := h
  refine ⟨L, F, ρ, as, r, ρ', st, e, fun F' H' v as' ar s sm en rr nd => ?_⟩
  obtain ⟨F2, s2, st2, rp, _⟩ := freeze s sm en rr nd
  exact k F2 H' v as' s2 st2 rp
theorem bV_some {α : Type} {x : Option (Ret × Env)} {k : D → Env → Option α} {y : α} (h : bV x k = some y) : ∃ r ρ, x = some (r, ρ) ∧ k r.fz ρ = some y := by
  unfold bV at h
  split at h
  · exact ⟨_, _, rfl, h⟩
  · cases h
theorem bR_some {α : Type} {x : Option (Ret × Env)} {k : Ret → Env → Option α} {y : α} (h : bR x k = some y) : ∃ r ρ, x = some (r, ρ) ∧ k r ρ = some y := by
  unfold bR at h
  split at h
  · exact ⟨_, _, rfl, h⟩
  · cases h
theorem bL_some {α : Type} {x : Option (List D × Env)} {k : List D → Env → Option α} {y : α} (h : bL x k = some y) : ∃ r ρ, x = some (r, ρ) ∧ k r ρ = some y := by
  unfold bL at h
  split at h
  · exact ⟨_, _, rfl, h⟩
  · cases h
/-- one operand -/
theorem go1 {α : Type} {ev : Env → Option (Ret × Env)} {k : D → Env → Option α} {y : α} {R : VK} (st : StOk K w L F H σ ρ as) (e : bV (ev ρ) k = some y)
    (hk : ∀ F1 H1 x d ρ1 as1, Step F H as F1 H1 as1 → StOk K w L F1 H1 σ ρ1 as1 → Rep K w F1 x d → k d ρ1 = some y → R x H1) : tVal K w ev σ H R := by
  obtain ⟨r, ρ1, e1, e2⟩ := bV_some e
  exact ⟨L, F, ρ, as, r, ρ1, st, e1, fun F' H' v as' s st' rp => hk _ _ _ _ _ _ s st' rp e2⟩
theorem goT {α : Type} {ev : Env → Option (Ret × Env)} {k : D → Env → Option α} {y : α} {R : Bool → Hp → Prop} (st : StOk K w L F H σ ρ as) (e : bV (ev ρ) k = some y) (hb : ∀ d ρ1, k d ρ1 = some y → ∃ b, d = .bl b)
    (hk : ∀ F1 H1 b ρ1 as1, Step F H as F1 H1 as1 → StOk K w L F1 H1 σ ρ1 as1 → k (.bl b) ρ1 = some y → R b H1) : tTst K w ev σ H R := by
  obtain ⟨r, ρ1, e1, e2⟩ := bV_some e
  obtain ⟨b, hd⟩ := hb _ _ e2
  exact ⟨L, F, ρ, as, r, ρ1, b, st, e1, hd, fun F' H' as' s st' => hk _ _ _ _ _ s st' (by rw [← hd]; exact e2)⟩
theorem goL {α : Type} {ev : Env → Option (List D × Env)} {k : List D → Env → Option α} {y : α} {R : List V → Hp → Prop} (st : StOk K w L F H σ ρ as) (e : bL (ev ρ) k = some y)
    (hk : ∀ F1 H1 xs ds ρ1 as1, Step F H as F1 H1 as1 → StOk K w L F1 H1 σ ρ1 as1 → Reps K w F1 xs ds → k ds ρ1 = some y → R xs H1) : tLst K w ev σ H R := by
  obtain ⟨r, ρ1, e1, e2⟩ := bL_some e
  exact ⟨L, F, ρ, as, r, ρ1, st, e1, fun F' H' v as' s st' rp => hk _ _ _ _ _ _ s st' rp e2⟩
theorem oR_some {d : Option Ret} {ρ : Env} {r : Ret} {ρ' : Env} (h : oR d ρ = some (r, ρ')) : d = some r ∧ ρ = ρ' := by
  cases d with
  | none => cases h
  | some x => cases h; exact ⟨rfl, rfl⟩
theorem oV_some {d : Option D} {ρ : Env} {r : Ret} {ρ' : Env} (h : oV d ρ = some (r, ρ')) : ∃ x, d = some x ∧ r = .val x ∧ ρ = ρ' := by
  cases d with
  | none => cases h
  | some x => cases h; exact ⟨_, rfl, rfl, rfl⟩
end

/-! ### what an operation on data asks -/
section
variable (K : PySem.W.Frag) (w : World)
/-- two operands -/
def rD (f : D → D → Option Ret) : R2 := fun x y H Q => ∃ L F σ ρ as dx dy r, StOk K w L F H σ ρ as ∧ Rep K w F x dx ∧ Rep K w F y dy ∧ f dx dy = some r ∧ Post K w L F H as σ ρ r Q
def rDb (f : D → D → Option Bool) : R2 := fun x y H Q => ∃ L F σ ρ as dx dy b, StOk K w L F H σ ρ as ∧ Rep K w F x dx ∧ Rep K w F y dy ∧ f dx dy = some b ∧ Q (.bl b) H
def rDs (f : List D → Option Ret) : List V → Hp → VK → Prop := fun xs H Q => ∃ L F σ ρ as ds r, StOk K w L F H σ ρ as ∧ Reps K w F xs ds ∧ f ds = some r ∧ Post K w L F H as σ ρ r Q
end
def pyB : Bop → Operator
  | .add => .Add
  | .sub => .Sub
  | .mul => .Mult
  | .fdiv => .FloorDiv
  | .mod => .Mod
  | .pow => .Pow
def pyC : Cop → CmpOp
  | .eq => .Eq
  | .ne => .NotEq
  | .lt => .Lt
  | .le => .LtE
  | .gt => .Gt
  | .ge => .GtE
  | .isin => .In
  | .notin => .NotIn
section
variable {X : Cx}
theorem rep_ne {K : PySem.W.Frag} {w : World} {F : Hp} {xs : List V} {ds : List D} (r : Reps K w F xs ds) : xs = [] ↔ ds = [] := by
  cases r <;> simp
/-- +: ints, texts, tuples, lists -/
theorem sem_add : OpR X (binaryOp .Add) (rD X.K X.w (binop .add)) := by
  intro pins s σ0 H x y v u Q I rx ry h
  obtain ⟨L, F, σ, ρ, as, dx, dy, r, st, hx, hy, e, p⟩ := h
  cases hx with
  | int i =>
    cases hy with
    | int j => cases e; exact op_add pins s σ0 H _ _ v u Q I rx ry ⟨i, j, rfl, rfl, p.v st (.int _)⟩
    | _ => cases e
  | str i =>
    cases hy with
    | str j =>
      simp only [binop] at e
      split at e
      · rename_i hl
        cases e
        refine op_add_str pins s σ0 H _ _ v u Q I rx ry ⟨_, _, rfl, rfl, by rw [toStr_len, toStr_len, ← lineN_eq]; exact hl, ?_⟩
        have e2 : toStr i ++ toStr j = toStr (i ++ j) := by
          show (⟨i.toArray ++ j.toArray⟩ : Str) = ⟨(i ++ j).toArray⟩
          simp
        rw [e2]
        exact p.v st (.str _)
      · cases e
    | _ => cases e
  | tup ha ra =>
    cases hy with
    | tup hb rb =>
      simp only [binop] at e
      split at e
      · rename_i hl
        cases e
        refine op_catA pins s σ0 H _ _ v u Q I rx ry ⟨_, _, _, _, rfl, rfl, Same.seqT st.sub ha, Same.seqT st.sub hb, by rw [ra.length, rb.length, ← lineN_eq]; exact hl, fun e0 => ?_, fun e0 e1 => ?_, fun e0 e1 q hq => p.nT st hq (ra.append rb)⟩
        · have := (rep_ne ra).mp e0
          subst this
          exact p.v st (.tup hb rb)
        · have := (rep_ne rb).mp e1
          subst this
          rw [List.append_nil] at p
          exact p.v st (.tup ha ra)
      · cases e
    | _ => cases e
  | lst ha ra =>
    cases hy with
    | lst hb rb =>
      simp only [binop] at e
      split at e
      · rename_i hl
        cases e
        exact op_cat pins s σ0 H _ _ v u Q I rx ry ⟨_, _, _, _, rfl, rfl, st.sub _ _ ha, st.sub _ _ hb, by rw [ra.length, rb.length, ← lineN_eq]; exact hl, fun q hq => p.nL st hq (ra.append rb)⟩
      · cases e
    | _ => cases e
  | _ => cases e
theorem small64_of {i : Int} (h : small64 i = true) : -(2 ^ 64) < i ∧ i < 2 ^ 64 := by
  unfold small64 at h
  simpa using h
theorem sem_bin (op : Bop) : OpR X (binaryOp (pyB op)) (rD X.K X.w (binop op)) := by
  intro pins s σ0 H x y v u Q I rx ry h
  cases op with
  | add => exact sem_add pins s σ0 H x y v u Q I rx ry h
  | sub =>
    obtain ⟨L, F, σ, ρ, as, dx, dy, r, st, hx, hy, e, p⟩ := h
    cases hx with
    | int i =>
      cases hy with
      | int j => cases e; exact op_sub pins s σ0 H _ _ v u Q I rx ry ⟨i, j, rfl, rfl, p.v st (.int _)⟩
      | _ => cases e
    | _ => cases e
  | mul =>
    obtain ⟨L, F, σ, ρ, as, dx, dy, r, st, hx, hy, e, p⟩ := h
    cases hx with
    | int i =>
      cases hy with
      | int j =>
        simp only [binop] at e
        split at e
        · rename_i hl
          cases e
          refine op_mul pins s σ0 H _ _ v u Q I rx ry ⟨i, j, rfl, rfl, ?_, p.v st (.int _)⟩
          rw [Bool.or_eq_true] at hl
          exact hl.imp small64_of small64_of
        · cases e
      | _ => cases e
    | lst ha ra =>
      cases hy with
      | int j =>
        simp only [binop] at e
        split at e
        · rename_i hl
          cases e
          simp only [Bool.and_eq_true, decide_eq_true_eq] at hl
          exact op_rep pins s σ0 H _ _ v u Q I rx ry ⟨_, j, _, rfl, rfl, st.sub _ _ ha, hl.1.1, hl.1.2, by rw [ra.length, ← lineN_eq]; exact hl.2, fun q hq => p.nL st hq (ra.rep _)⟩
        · cases e
      | _ => cases e
    | _ => cases e
  | fdiv =>
    obtain ⟨L, F, σ, ρ, as, dx, dy, r, st, hx, hy, e, p⟩ := h
    cases hx with
    | int i =>
      cases hy with
      | int j =>
        simp only [binop] at e
        split at e
        · rename_i hl
          cases e
          simp only [Bool.and_eq_true, decide_eq_true_eq] at hl
          exact op_fdiv pins s σ0 H _ _ v u Q I rx ry ⟨i, j, rfl, rfl, hl, p.v st (.int _)⟩
        · cases e
      | _ => cases e
    | _ => cases e
  | mod =>
    obtain ⟨L, F, σ, ρ, as, dx, dy, r, st, hx, hy, e, p⟩ := h
    cases hx with
    | int i =>
      cases hy with
      | int j =>
        simp only [binop] at e
        split at e
        · rename_i hl
          cases e
          simp only [decide_eq_true_eq] at hl
          exact op_mod pins s σ0 H _ _ v u Q I rx ry ⟨i, j, rfl, rfl, hl, p.v st (.int _)⟩
        · cases e
      | _ => cases e
    | _ => cases e
  | pow =>
    obtain ⟨L, F, σ, ρ, as, dx, dy, r, st, hx, hy, e, p⟩ := h
    cases hx with
    | int i =>
      cases hy with
      | int j =>
        simp only [binop] at e
        split at e
        · rename_i hl
          cases e
          simp only [Bool.and_eq_true, decide_eq_true_eq] at hl
          exact op_pow pins s σ0 H _ _ v u Q I rx ry ⟨i, j, rfl, rfl, ⟨hl.1.1, hl.1.2, hl.2⟩, p.v st (.int _)⟩
        · cases e
      | _ => cases e
    | _ => cases e

/-! ### comparisons -/
theorem sem_in_tup {neg : Bool} (hu : X.A.units + 65 < cLine) {pins : List (Addr × Obj)} {s : Shared} {σ0 : L2.St} {H F : Hp} {x : V} {v u : Value} {Q : VK} {a : Addr} {ys : List V} {dx : D} {ds : List D} (I : Inv X pins σ0 H s) (rx : RelV x v) (ru : u = .ref a) (sm : Same F H)
    (hx : Rep X.K X.w F x dx) (hs : SqT X.K H a ys) (hy : Reps X.K X.w F ys ds) (ox : okEq dx = true) (os : ds.all okEq = true) (q : Q (.bl (neg != inD dx ds)) H) :
    wpAny (model X.prog X.w) X.A (compareOp (if neg then .NotIn else .In) v u) (EP X pins σ0 Q) X.xe s := by
  obtain ⟨as, r1⟩ := Dp.reads I _ x v (hx.dp sm (okEq_le ox)) rx
  obtain ⟨its, rv, ⟨o, ho, hc, n, hd⟩, _⟩ := I.tuple hs
  obtain ⟨bs, r2⟩ := Dp.readsAll I (pys ds) ys its (hy.dpAll sm os) rv
  obtain ⟨cs, r3⟩ : ∃ cs, Reads s.heap u (.tuple (pys ds)) cs := by rw [ru]; exact ⟨_, Reads.tuple ho hc hd r2⟩
  have c3 : PyData.canLay0 (.tuple (pys ds)) = true := canLays_of os
  have sx := shaped_of ox
  cases neg with
  | false =>
    refine SeqAt.in_tuple_reads r3 r1 c3 (SeqAt.canLay_of_shaped sx) (room_in_shaped sx hu) ?_
    rw [inD_py ox os]
    exact ⟨.bl _, H, I, rfl, by simpa using q⟩
  | true =>
    refine SeqAt.notIn_tuple_reads r3 r1 c3 (SeqAt.canLay_of_shaped sx) (room_in_shaped sx hu) ?_
    rw [inD_py ox os]
    exact ⟨.bl _, H, I, rfl, by simpa using q⟩
theorem sem_in_lst {neg : Bool} (hu : X.A.units + 65 < cLine) {pins : List (Addr × Obj)} {s : Shared} {σ0 : L2.St} {H F : Hp} {x : V} {v u : Value} {Q : VK} {a : Addr} {ys : List V} {dx : D} {ds : List D} (I : Inv X pins σ0 H s) (rx : RelV x v) (ru : u = .ref a) (sm : Same F H)
    (hx : Rep X.K X.w F x dx) (hs : SqL X.K H a ys) (hy : Reps X.K X.w F ys ds) (ox : okEq dx = true) (os : ds.all okEq = true) (q : Q (.bl (neg != inD dx ds)) H) :
    wpAny (model X.prog X.w) X.A (compareOp (if neg then .NotIn else .In) v u) (EP X pins σ0 Q) X.xe s := by
  obtain ⟨as, r1⟩ := Dp.reads I _ x v (hx.dp sm (okEq_le ox)) rx
  obtain ⟨its, rv, ⟨o, n, ho, hc, _, hd⟩, _⟩ := I.list hs
  obtain ⟨bs, r2⟩ := Dp.readsAll I (pys ds) ys its (hy.dpAll sm os) rv
  obtain ⟨cs, r3⟩ : ∃ cs, Reads s.heap u (.list (pys ds)) cs := by rw [ru]; exact ⟨_, Reads.list ho hc hd r2⟩
  have c3 : PyData.canLay0 (.list (pys ds)) = true := canLays_of os
  have sx := shaped_of ox
  cases neg with
  | false =>
    refine SeqAt.in_list_reads r3 r1 c3 (SeqAt.canLay_of_shaped sx) (room_in_shaped sx hu) ?_
    rw [inD_py ox os]
    exact ⟨.bl _, H, I, rfl, by simpa using q⟩
  | true =>
    refine SeqAt.notIn_list_reads r3 r1 c3 (SeqAt.canLay_of_shaped sx) (room_in_shaped sx hu) ?_
    rw [inD_py ox os]
    exact ⟨.bl _, H, I, rfl, by simpa using q⟩
theorem op_in1 {c : Nat} {z : Str} {pins : List (Addr × Obj)} {s : Shared} {σ0 : L2.St} {H : Hp} {v u : Value} {Q : VK} (neg : Bool) (I : Inv X pins σ0 H s) (rx : RelV (.str ⟨#[c]⟩) v) (ru : RelV (.str z) u) (q : Q (.bl (neg != decide (c ∈ z.cps.toList))) H) :
    wpAny (model X.prog X.w) X.A (compareOp (if neg then .NotIn else .In) v u) (EP X pins σ0 Q) X.xe s := by
  cases neg with
  | false => exact op_in_sign pins s σ0 H _ _ v u Q I rx ru ⟨c, z, rfl, rfl, by simpa using q⟩
  | true => exact op_notIn_sign pins s σ0 H _ _ v u Q I rx ru ⟨c, z, rfl, rfl, by simpa using q⟩
theorem sem_in (hu : X.A.units + 65 < cLine) (neg : Bool) : OpR X (compareOp (if neg then .NotIn else .In)) (rDb X.K X.w fun a b => (isIn a b).map (neg != ·)) := by
  intro pins s σ0 H x y v u Q I rx ry h
  obtain ⟨L, F, σ, ρ, as, dx, dy, b, st, hx, hy, e, q⟩ := h
  cases hy with
  | tup ha ra =>
    simp only [isIn] at e
    split at e
    · rename_i hk
      rw [Bool.and_eq_true] at hk
      cases e
      exact sem_in_tup hu I rx ry st.sub hx (Same.seqT st.sub ha) ra hk.1 hk.2 q
    · cases e
  | lst ha ra =>
    simp only [isIn] at e
    split at e
    · rename_i hk
      rw [Bool.and_eq_true] at hk
      cases e
      exact sem_in_lst hu I rx ry st.sub hx (.of (st.sub _ _ ha)) ra hk.1 hk.2 q
    · cases e
  | str z =>
    cases hx with
    | str c =>
      match c, e with
      | [c], e =>
        cases e
        exact op_in1 neg I rx ry ((congrArg (fun b => Q (V.bl (neg != b)) H) (decide_eq_decide.mpr (by simp [toStr]))).mp q)
      | [], e => cases e
      | _ :: _ :: _, e => cases e
    | _ => cases e
  | _ => cases e
theorem sem_cmp (hu : X.A.units + 65 < cLine) (op : Cop) : OpR X (compareOp (pyC op)) (rDb X.K X.w (cmpop op)) := by
  intro pins s σ0 H x y v u Q I rx ry h
  have h64 : X.A.units + 64 < cLine := by omega
  cases op with
  | isin =>
    refine sem_in hu false pins s σ0 H x y v u Q I rx ry ?_
    obtain ⟨L, F, σ, ρ, as, dx, dy, b, st, hx, hy, e, q⟩ := h
    refine ⟨L, F, σ, ρ, as, dx, dy, b, st, hx, hy, ?_, q⟩
    have e : isIn dx dy = some b := e
    show (isIn dx dy).map (false != ·) = some b
    rw [e]
    simp
  | notin =>
    refine sem_in hu true pins s σ0 H x y v u Q I rx ry ?_
    obtain ⟨L, F, σ, ρ, as, dx, dy, b, st, hx, hy, e, q⟩ := h
    refine ⟨L, F, σ, ρ, as, dx, dy, b, st, hx, hy, ?_, q⟩
    have e : (isIn dx dy).map (!·) = some b := e
    show (isIn dx dy).map (true != ·) = some b
    rw [← e]
    cases isIn dx dy with
    | none => rfl
    | some c => cases c <;> rfl
  | eq =>
    obtain ⟨L, F, σ, ρ, as, dx, dy, b, st, hx, hy, e, q⟩ := h
    simp only [cmpop] at e
    split at e
    · rename_i hk
      rw [Bool.and_eq_true] at hk
      cases e
      refine op_eqD h64 pins s σ0 H x y v u Q I rx ry ⟨_, _, hx.dp st.sub (okEq_le hk.1), hy.dp st.sub (okEq_le hk.2), shaped_of hk.1, shaped_of hk.2, ?_⟩
      rw [eqv_py _ _ (okEq_le hk.1) (okEq_le hk.2)]
      exact q
    · cases e
  | ne =>
    obtain ⟨L, F, σ, ρ, as, dx, dy, b, st, hx, hy, e, q⟩ := h
    simp only [cmpop] at e
    split at e
    · rename_i hk
      rw [Bool.and_eq_true] at hk
      cases e
      refine op_neD h64 pins s σ0 H x y v u Q I rx ry ⟨_, _, hx.dp st.sub (okEq_le hk.1), hy.dp st.sub (okEq_le hk.2), shaped_of hk.1, shaped_of hk.2, ?_⟩
      rw [eqv_py _ _ (okEq_le hk.1) (okEq_le hk.2)]
      exact q
    · cases e
  | lt =>
    obtain ⟨L, F, σ, ρ, as, dx, dy, b, st, hx, hy, e, q⟩ := h
    cases hx with
    | int i =>
      cases hy with
      | int j => cases e; exact op_lt pins s σ0 H _ _ v u Q I rx ry ⟨i, j, rfl, rfl, q⟩
      | _ => cases e
    | _ => cases e
  | le =>
    obtain ⟨L, F, σ, ρ, as, dx, dy, b, st, hx, hy, e, q⟩ := h
    cases hx with
    | int i =>
      cases hy with
      | int j => cases e; exact op_le pins s σ0 H _ _ v u Q I rx ry ⟨i, j, rfl, rfl, q⟩
      | _ => cases e
    | _ => cases e
  | gt =>
    obtain ⟨L, F, σ, ρ, as, dx, dy, b, st, hx, hy, e, q⟩ := h
    cases hx with
    | int i =>
      cases hy with
      | int j => cases e; exact op_gt pins s σ0 H _ _ v u Q I rx ry ⟨i, j, rfl, rfl, q⟩
      | _ => cases e
    | _ => cases e
  | ge =>
    obtain ⟨L, F, σ, ρ, as, dx, dy, b, st, hx, hy, e, q⟩ := h
    cases hx with
    | int i =>
      cases hy with
      | int j => cases e; exact op_ge pins s σ0 H _ _ v u Q I rx ry ⟨i, j, rfl, rfl, q⟩
      | _ => cases e
    | _ => cases e
end
end BP

set_option maxRecDepth 100000
set_option maxHeartbeats 4000000
/-! Dicts of all keys: look-up, store, in the library's heap, then over the layer. -/
namespace BP
open PySem PySem.Spec PyProof.Rows L2

section
variable {prog : Program} {w : World} {A : Around} {E : Value → Shared → Prop} {s : Shared}
def DictN (w : World) (h : Heap) (d : Addr) (xs : List NKV) : Prop :=
  ∃ o es ep, h.get? d = some o ∧ o.ExactDict ∧ o.data = .dict es ep ∧ es.toList = xs.map (entN w) ∧ (∀ x ∈ xs, KeyN h x.1 x.2.1) ∧ (xs.map (·.1)).Nodup
theorem DictN.typeIs {d : Addr} {xs : List NKV} (h : DictN w s.heap d xs) : s.TypeIs (.ref d) "dict" := let ⟨o, _, _, ho, hc, _⟩ := h; ⟨o, ho, hc.1⟩
/-- the value under a key -/
def lookK {α : Type} (xs : List (NestedKey × α × α)) (k : NestedKey) : Option α := (xs.find? fun x => decide (x.1 = k)).map (·.2.2)
def storeK {α : Type} (xs : List (NestedKey × α × α)) (k : NestedKey) (kv v : α) : List (NestedKey × α × α) :=
  if (lookK xs k).isSome then xs.map (fun x => if x.1 = k then (x.1, x.2.1, v) else x) else xs ++ [(k, kv, v)]
theorem lookK_get {α : Type} {xs : List (NestedKey × α × α)} (hn : (xs.map (·.1)).Nodup) {j : Nat} {k : NestedKey} {p : α × α} (h : xs[j]? = some (k, p)) : lookK xs k = some p.2 := by
  induction xs generalizing j with
  | nil => simp at h
  | cons x xs ih =>
    rw [List.map_cons, List.nodup_cons] at hn
    cases j with
    | zero =>
      simp only [List.getElem?_cons_zero, Option.some.injEq] at h
      subst h
      simp [lookK]
    | succ j =>
      simp only [List.getElem?_cons_succ] at h
      have hm : k ∈ xs.map (·.1) := List.mem_map.mpr ⟨(k, p), List.mem_of_getElem? h, rfl⟩
      have hne : ¬ x.1 = k := fun e => hn.1 (e ▸ hm)
      have := ih hn.2 h
      simpa [lookK, List.find?_cons, hne] using this
theorem lookK_none {α : Type} {xs : List (NestedKey × α × α)} {k : NestedKey} (h : ∀ (j : Nat) (p : α × α), xs[j]? ≠ some (k, p)) : lookK xs k = none := by
  have : (xs.find? fun x => decide (x.1 = k)) = none := by
    rw [List.find?_eq_none]
    intro x hx hk
    obtain ⟨j, hj⟩ := List.mem_iff_getElem?.mp hx
    have hk' : x.1 = k := of_decide_eq_true hk
    exact h j x.2 (by rw [hj, ← hk'])
  simp [lookK, this]

theorem dget_N {d : Addr} {key : Value} {k : NestedKey} {xs : List NKV} {Q : Option Value → Shared → Prop} (hu : A.units + 8 < cLine) (hkey : KeyN s.heap k key) (hm : DictN w s.heap d xs)
    (h : Q (lookK xs k) { s with toks := s.toks + k.draws }) : wpAny (model prog w) A (dictGet d key) Q E s := by
  obtain ⟨o, es, ep, ho, _, hd, he, his, hn⟩ := hm
  unfold dictGet
  try with_reducible refine wpAny_holding ?_
  refine wpAny_bind (pyHash_key k key A s _ hkey.1 (by have := hkey.2; omega) (wpAny_bind (find_N (s := { s with toks := s.toks + k.draws }) hu hkey ho hd he his hn ?_ ?_)))
  · intro hno
    rw [lookK_none hno] at h
    exact wpAny_pure h
  · intro j p hj
    rw [lookK_get hn hj] at h
    refine wpAny_bind (wpAny_dictEntries (s := { s with toks := s.toks + k.draws }) ho hd ?_)
    rw [entryN_at he j, hj]
    exact wpAny_pure h
theorem KeyN.keeps {h h' : Heap} {k : NestedKey} {v : Value} {d : Addr} {o : Obj} {es ep} (x : KeyN h k v) (ho : h.get? d = some o) (hd : o.data = .dict es ep) (hs : Heap.SameBut d h h') : KeyN h' k v :=
  ⟨NestedIs.at (fun b ob vs n hb hc => by
    refine (hs.2 b fun e => ?_).trans hb
    subst e
    rw [ho] at hb
    cases hb
    rw [hd] at hc
    cases hc) k _ x.1, x.2⟩
theorem dset_N {d : Addr} {key v : Value} {k : NestedKey} {xs : List NKV} {Q : Unit → Shared → Prop} (hu : A.units + 8 < cLine) (hkey : KeyN s.heap k key) (hm : DictN w s.heap d xs)
    (hQ : ∀ h', DictN w h' d (storeK xs k key v) → Heap.SameBut d s.heap h' → Q () { s with heap := h', toks := s.toks + k.draws }) (hsz : xs.length ≤ sizeLine) :
    wpAny (model prog w) A (dictSet d key v) Q E s := by
  obtain ⟨o, es, ep, ho, hc, hd, he, his, hn⟩ := hm
  unfold dictSet
  try with_reducible refine wpAny_holding ?_
  refine wpAny_bind (pyHash_key k key A s _ hkey.1 (by have := hkey.2; omega) ?_)
  unfold dictSetHashed
  try with_reducible refine wpAny_holding ?_
  refine wpAny_bind (find_N (s := { s with toks := s.toks + k.draws }) hu hkey ho hd he his hn ?_ ?_)
  · intro hno
    have hnot : k ∉ xs.map (·.1) := by
      intro hm
      obtain ⟨x, hx, rfl⟩ := List.mem_map.mp hm
      obtain ⟨j, hj⟩ := List.mem_iff_getElem?.mp hx
      exact hno j x.2 hj
    have e2 : storeK xs k key v = xs ++ [(k, key, v)] := by unfold storeK; rw [lookK_none hno]; rfl
    refine wpAny_bind (wpAny_rule (wpAny_updateDictKeys (hz := by have e := entryN_size he; omega) (s := { s with toks := s.toks + k.draws }) ho hd (hQ _ ⟨_, _, ep + 1, Heap.get?_update_self _ ho (Obj.isFreed_of_dict (Obj.data_mapDictKeys hd _)),
      hc.mapDictKeys _, Obj.data_mapDictKeys hd _, ?_, ?_, ?_⟩ (Heap.SameBut.update ..))))
    · rw [e2]
      simp [he, entN]
    · rw [e2]
      intro x hx
      rcases List.mem_append.mp hx with hx | hx
      · exact (his x hx).keeps ho hd (Heap.SameBut.update ..)
      · simp only [List.mem_singleton] at hx
        subst hx
        exact hkey.keeps ho hd (Heap.SameBut.update ..)
    · rw [e2, List.map_append, List.nodup_append]
      refine ⟨hn, by simp, ?_⟩
      intro x hx y hy
      simp only [List.map_cons, List.map_nil, List.mem_singleton] at hy
      subst hy
      exact fun e => hnot (e ▸ hx)
  · intro j p hj
    have e2 : storeK xs k key v = xs.map (fun x => if x.1 = k then (x.1, x.2.1, v) else x) := by unfold storeK; rw [lookK_get hn hj]; rfl
    have hkeys : ∀ ys : List NKV, (ys.map (fun x => if x.1 = k then (x.1, x.2.1, v) else x)).map (·.1) = ys.map (·.1) := by
      intro ys
      rw [List.map_map]
      refine List.map_congr_left fun x _ => ?_
      by_cases h : x.1 = k <;> simp [h]
    have hmod : ∀ (ys : List NKV) (j : Nat) (p : Value × Value), (ys.map (·.1)).Nodup → ys[j]? = some (k, p) → (ys.map (entN w)).modify j (fun e : DictEntry => { e with val := v }) = (ys.map (fun x => if x.1 = k then (x.1, x.2.1, v) else x)).map (entN w) := by
      intro ys
      induction ys with
      | nil => intro j p _ hj; simp at hj
      | cons x rest ih =>
        intro j p hn hj
        rw [List.map_cons, List.nodup_cons] at hn
        cases j with
        | zero =>
          simp only [List.getElem?_cons_zero, Option.some.injEq] at hj
          subst hj
          have e3 : rest.map (fun x : NKV => if x.1 = k then (x.1, x.2.1, v) else x) = rest := by
            conv => rhs; rw [← List.map_id rest]
            refine List.map_congr_left fun y hy => ?_
            have : ¬ y.1 = k := fun e => hn.1 (List.mem_map.mpr ⟨y, hy, e⟩)
            rw [if_neg this]; rfl
          rw [List.map_cons, List.map_cons, e3]
          simp [entN]
        | succ j =>
          simp only [List.getElem?_cons_succ] at hj
          have hm : k ∈ rest.map (·.1) := List.mem_map.mpr ⟨(k, p), List.mem_of_getElem? hj, rfl⟩
          have hne : ¬ x.1 = k := fun e => hn.1 (e ▸ hm)
          rw [List.map_cons, List.map_cons, if_neg hne, List.map_cons, List.modify_succ_cons, ih j p hn.2 hj]
    refine wpAny_bind (wpAny_rule (wpAny_bind (wpAny_updateDict (s := { s with toks := s.toks + k.draws }) ho hd (wpAny_point (hQ _ ⟨_, _, ep, Heap.get?_update_self _ ho (Obj.isFreed_of_dict (Obj.data_mapDict hd _)),
      hc.mapDict _, Obj.data_mapDict hd _, ?_, ?_, ?_⟩ (Heap.SameBut.update ..))))))
    · rw [e2]
      have := hmod xs j p hn hj
      rw [← he] at this
      obtain ⟨l⟩ := es
      simpa using this
    · rw [e2]
      intro x hx
      obtain ⟨y, hy, rfl⟩ := List.mem_map.mp hx
      by_cases h : y.1 = k
      · rw [if_pos h]; exact (his y hy).keeps ho hd (Heap.SameBut.update ..)
      · rw [if_neg h]; exact (his y hy).keeps ho hd (Heap.SameBut.update ..)
    · rw [e2, hkeys]; exact hn
theorem contains_N {d : Addr} {key : Value} {k : NestedKey} {xs : List NKV} {Q : Bool → Shared → Prop} (hu : A.in1.units + 8 < cLine) (hkey : KeyN s.heap k key) (hd : (d == sysModules) = false) (hm : DictN w s.heap d xs)
    (h : Q (lookK xs k).isSome { s with toks := s.toks + k.draws }) : wpAny (model prog w) A (contains (.ref d) key) Q E s := by
  refine wpAny_contains_slot hm.typeIs F.slot_dict_contains ?_
  refine call_meetsIn F.slot_dict_contains hm.typeIs F.entry_dict_contains (F.args_dict_contains_2 _ _) (S := fun A' R s' => A' = A ∧ s' = s ∧ R (.ok (.ret (.bool (lookK xs k).isSome))) { s with toks := s.toks + k.draws }) (fun A' R s' hS => ?_) ⟨rfl, rfl, wpAny_truthy_bool h⟩
  obtain ⟨rfl, rfl, hq⟩ := hS
  show wpAny _ _ (dictGet d key >>= _) _ _ _
  refine wpAny_bind (dget_N hu hkey hm ?_)
  cases hf : lookK xs k with
  | some p =>
    rw [hf] at hq
    show wpAny _ _ (ret (.bool true)) _ _ _
    exact wpAny_pure hq
  | none =>
    rw [hf] at hq
    show wpAny _ _ (Builtin.Dict.pendingKey? d key >>= _) _ _ _
    exact wpAny_bind (wpAny_pendingKey_other hd (wpAny_pure hq))
theorem in_N (neg : Bool) {d : Addr} {key : Value} {k : NestedKey} {xs : List NKV} {Q : Value → Shared → Prop} (hu : A.in1.units + 8 < cLine) (hkey : KeyN s.heap k key) (hd : (d == sysModules) = false) (hm : DictN w s.heap d xs)
    (h : Q (.bool (neg != (lookK xs k).isSome)) { s with toks := s.toks + k.draws }) : wpAny (model prog w) A (compareOp (if neg then .NotIn else .In) key (.ref d)) Q E s := by
  cases neg with
  | false =>
    show wpAny _ _ (do return .bool (← contains (.ref d) key)) Q E s
    exact wpAny_bind (contains_N hu hkey hd hm (wpAny_pure (by simpa using h)))
  | true =>
    show wpAny _ _ (do return .bool (!(← contains (.ref d) key))) Q E s
    exact wpAny_bind (contains_N hu hkey hd hm (wpAny_pure (by simpa using h)))
theorem getItem_N {d : Addr} {key v : Value} {k : NestedKey} {xs : List NKV} {Q : Value → Shared → Prop} (hu : A.in1.units + 8 < cLine) (hkey : KeyN s.heap k key) (hm : DictN w s.heap d xs) (hv : lookK xs k = some v)
    (h : Q v { s with toks := s.toks + k.draws }) : wpAny (model prog w) A (getItem (.ref d) key) Q E s := by
  unfold getItem
  try with_reducible refine wpAny_holding ?_
  refine wpAny_bind (wpAny_sequenceKey hm.typeIs (by decide) ?_)
  refine wpAny_bind (wpAny_callSpecial?_slot (name := Str.ofString "__getitem__") hm.typeIs slot_dict_getitem
    (wpAny_call_entry slot_dict_getitem hm.typeIs entry_dict_getitem ?_ (args_dict_getitem _ _)))
  show wpAny _ _ (dictGet d key >>= _) _ _ s
  refine wpAny_bind (dget_N hu hkey hm ?_)
  rw [hv]
  exact wpAny_pure ⟨v, rfl, wpAny_pure h⟩
theorem setItem_N {d : Addr} {key v : Value} {k : NestedKey} {xs : List NKV} {Q : Unit → Shared → Prop} (hu : A.in1.units + 8 < cLine) (hkey : KeyN s.heap k key) (hm : DictN w s.heap d xs)
    (hQ : ∀ h', DictN w h' d (storeK xs k key v) → Heap.SameBut d s.heap h' → Q () { s with heap := h', toks := s.toks + k.draws }) (hsz : xs.length ≤ sizeLine) :
    wpAny (model prog w) A (setItem (.ref d) key v) Q E s := by
  unfold setItem
  try with_reducible refine wpAny_holding ?_
  refine wpAny_bind (wpAny_sequenceKey hm.typeIs (by decide) ?_)
  refine wpAny_bind (wpAny_callSpecial?_slot (name := Str.ofString "__setitem__") hm.typeIs slot_dict_setitem
    (wpAny_call_entry slot_dict_setitem hm.typeIs entry_dict_setitem ?_ (args_dict_setitem _ _ _)))
  show wpAny _ _ (Builtin.Dict.notOrdered "__setitem__" ⟨[.ref d, key, v], []⟩ >>= _) _ _ s
  refine wpAny_bind (wpAny_notOrdered_dict hm.typeIs ?_)
  show wpAny _ _ (dictSet d key v >>= _) _ _ s
  exact wpAny_bind (dset_N hu hkey hm (fun h' hm' hs' => wpAny_pure ⟨.none, rfl, wpAny_pure (hQ h' hm' hs')⟩) hsz)
theorem getOr_N {d : Addr} {key x : Value} {k : NestedKey} {xs : List NKV} {Q : Value → Shared → Prop} (hu : A.in1.units + 8 < cLine) (hkey : KeyN s.heap k key) (hd : (d == sysModules) = false) (hm : DictN w s.heap d xs)
    (h : Q ((lookK xs k).getD x) { s with toks := s.toks + k.draws }) : wpAny (model prog w) A (call (.builtin "dict.get") [.ref d, key, x]) Q E s := by
  refine call_meetsIn F.slot_dict_get hm.typeIs F.entry_dict_get (F.args_dict_get_3 _ _ _) (S := fun A' R s' => A' = A ∧ s' = s ∧ R (.ok (.ret ((lookK xs k).getD x))) { s with toks := s.toks + k.draws }) (.of_wp fun A' R s' hS => ?_) ⟨rfl, rfl, h⟩
  obtain ⟨rfl, rfl, hq⟩ := hS
  show wpAny _ _ (dictGet d key >>= _) _ _ _
  refine wpAny_bind (dget_N hu hkey hm ?_)
  cases hf : lookK xs k with
  | some v =>
    rw [hf] at hq
    exact wpAny_pure ⟨v, rfl, hq⟩
  | none =>
    rw [hf] at hq
    show wpAny _ _ (Builtin.Dict.missed d key >>= _) _ _ _
    exact wpAny_bind (wpAny_missed_other hd (wpAny_pure ⟨x, rfl, hq⟩))
end
end BP

set_option maxRecDepth 100000
set_option maxHeartbeats 4000000
/-! Dicts of all keys over the layer. -/
namespace BP
open PySem PySem.Spec PyProof.Rows L2

/-! ### keys -/
mutual
theorem key_eqv : ∀ a b : D, D.hsh a = true → D.hsh b = true → (toKey a = toKey b ↔ D.eqv a b = true)
  | .non, b, _, hb => by cases b <;> simp_all [toKey, D.eqv, D.hsh]
  | .bl x, b, _, hb => by cases b <;> simp_all [toKey, D.eqv, D.hsh] <;> (try (rename_i y; cases x <;> cases y <;> simp [b2i]))
  | .int x, b, _, hb => by cases b <;> simp_all [toKey, D.eqv, D.hsh]
  | .str x, b, _, hb => by
    cases b with
    | str y => simp only [toKey, D.eqv, NestedKey.text.injEq, beq_iff_eq]; exact toStr_inj
    | _ => simp_all [toKey, D.eqv, D.hsh]
  | .tup x, b, ha, hb => by
    cases b with
    | tup y =>
      simp only [toKey, D.eqv, NestedKey.tup.injEq]
      exact keys_eqv x y (by simpa [D.hsh] using ha) (by simpa [D.hsh] using hb)
    | _ => simp_all [toKey, D.eqv, D.hsh]
  | .lst _, _, ha, _ => by simp [D.hsh] at ha
  | .scr _, _, ha, _ => by simp [D.hsh] at ha
  | .dic _ _, _, ha, _ => by simp [D.hsh] at ha
theorem keys_eqv : ∀ a b : List D, D.hshs a = true → D.hshs b = true → (toKeys a = toKeys b ↔ D.eqvs a b = true)
  | [], [], _, _ => by simp [D.eqvs]
  | [], _ :: _, _, _ => by simp [toKeys, D.eqvs]
  | _ :: _, [], _, _ => by simp [toKeys, D.eqvs]
  | a :: as, b :: bs, ha, hb => by
    simp only [D.hshs, Bool.and_eq_true] at ha hb
    simp only [toKeys, D.eqvs, List.cons.injEq, Bool.and_eq_true]
    rw [key_eqv a b ha.1 hb.1, keys_eqv as bs ha.2 hb.2]
end
mutual
theorem key_dep : ∀ a : D, D.hsh a = true → (toKey a).depth ≤ D.dep a
  | .non, _ => Nat.zero_le _
  | .bl _, _ => Nat.zero_le _
  | .int _, _ => Nat.zero_le _
  | .str _, _ => Nat.zero_le _
  | .tup ds, h => by
    simp only [toKey, NestedKey.depth, D.dep]
    have := keys_dep ds (by simpa [D.hsh] using h)
    omega
  | .lst _, h => by simp [D.hsh] at h
  | .scr _, h => by simp [D.hsh] at h
  | .dic _ _, h => by simp [D.hsh] at h
theorem keys_dep : ∀ as : List D, D.hshs as = true → NestedKey.depthAll (toKeys as) ≤ D.deps as
  | [], _ => Nat.le_refl _
  | a :: as, h => by
    simp only [D.hshs, Bool.and_eq_true] at h
    simp only [toKeys, NestedKey.depthAll, D.deps]
    have h1 := key_dep a h.1
    have h2 := keys_dep as h.2
    omega
end
theorem okKey_hsh {k : D} (h : okKey k = true) : D.hsh k = true := (Bool.and_eq_true_iff.mp h).1
theorem okKey_dep {k : D} (h : okKey k = true) : D.dep k ≤ 8 := of_decide_eq_true (Bool.and_eq_true_iff.mp h).2

section
variable {X : Cx} {pins : List (Addr × Obj)} {σ : L2.St} {F H : Hp} {s : Shared}
mutual
theorem Rep.key (I : Inv X pins σ H s) (sm : Same F H) : ∀ {v : V} {d : D} {u : Value}, Rep X.K X.w F v d → D.hsh d = true → RelV v u → NestedIs s.heap (toKey d) u
  | _, _, _, .non, _, r => by cases r; exact .none
  | _, _, _, .bl b, _, r => by cases r; exact .bool rfl
  | _, _, _, .int i, _, r => by obtain ⟨t, rfl⟩ := r; exact .int _ _
  | _, _, _, .str x, _, r => by obtain ⟨t, rfl⟩ := r; exact .text _ _
  | _, _, _, .tup h q, hh, r => by
    cases r
    obtain ⟨its, rv, ⟨o, ho, hc, n, hd⟩, _⟩ := I.tuple (Same.seqT sm h)
    exact .tup ho hc hd (by simpa using Reps.keys I sm q (by simpa [D.hsh] using hh) rv)
  | _, _, _, .lst _ _, hh, _ => by simp [D.hsh] at hh
  | _, _, _, .scr _, hh, _ => by simp [D.hsh] at hh
  | _, _, _, .dic _ _, hh, _ => by simp [D.hsh] at hh
theorem Reps.keys (I : Inv X pins σ H s) (sm : Same F H) : ∀ {vs : List V} {ds : List D} {us : List Value}, Reps X.K X.w F vs ds → D.hshs ds = true → Vals vs us → NestedAll s.heap (toKeys ds) us
  | _, _, _, .nil, _, r => by cases r; exact .nil
  | _, _, _, .cons h q, hh, r => by
    simp only [D.hshs, Bool.and_eq_true] at hh
    cases r with
    | cons r1 r2 => exact .cons (h.key I sm hh.1 r1) (q.keys I sm hh.2 r2)
end
theorem Rep.keyN (I : Inv X pins σ H s) (sm : Same F H) {v : V} {d : D} {u : Value} (r : Rep X.K X.w F v d) (ok : okKey d = true) (ru : RelV v u) : KeyN s.heap (toKey d) u :=
  ⟨r.key I sm (okKey_hsh ok) ru, Nat.le_trans (key_dep d (okKey_hsh ok)) (okKey_dep ok)⟩
end
/-- the entries' keys are data -/
def KeysR (K : PySem.W.Frag) (w : World) (F : Hp) (kvs : List (NestedKey × V × V)) : Prop := ∀ p ∈ kvs, ∃ k, p.1 = toKey k ∧ okKey k = true ∧ Rep K w F p.2.1 k
section
variable {K : PySem.W.Frag} {w : World} {F H : Hp}
theorem KvR.keysR : ∀ {kvs : List (NestedKey × V × V)} {ks vs : List D}, KvR K w F kvs ks vs → KeysR K w F kvs
  | _, _, _, .nil => fun p hp => absurd hp (by simp)
  | _, _, _, .cons n o k v r => fun p hp => by
    rcases List.mem_cons.mp hp with e | hp
    · subst e; exact ⟨_, n, o, k⟩
    · exact r.keysR p hp
theorem KfR.keysR : ∀ {kvs : List (NestedKey × V × V)} {ks : List D} {vs : List Fld} {as : List Addr}, KfR K w F H kvs ks vs as → KeysR K w F kvs
  | _, _, _, _, .nil => fun p hp => absurd hp (by simp)
  | _, _, _, _, .cons n o k v r => fun p hp => by
    rcases List.mem_cons.mp hp with e | hp
    · subst e; exact ⟨_, n, o, k⟩
    · exact r.keysR p hp
end
theorem paired_mem {α β : Type} {R : α → β → Prop} : ∀ {l : List α} {m : List β} {y : β}, Paired R l m → y ∈ m → ∃ x ∈ l, R x y
  | _, _, _, .nil, h => absurd h (by simp)
  | _, _, _, .cons r t, h => by
    rcases List.mem_cons.mp h with e | h
    · subst e; exact ⟨_, List.mem_cons_self, r⟩
    · obtain ⟨x, h1, h2⟩ := paired_mem t h
      exact ⟨x, List.mem_cons_of_mem _ h1, h2⟩
theorem paired_keys {kvs : List (NestedKey × V × V)} {xs : List NKV} (r : Paired RelKV kvs xs) : kvs.map (·.1) = xs.map (·.1) := by
  induction r with
  | nil => rfl
  | cons h _ ih => rw [List.map_cons, List.map_cons, ih, h.1]
theorem lookK_cons {α : Type} (x : NestedKey × α × α) (xs : List (NestedKey × α × α)) (k : NestedKey) : lookK (x :: xs) k = if x.1 = k then some x.2.2 else lookK xs k := by
  by_cases h : x.1 = k <;> simp [lookK, h]
theorem lookK_rel {kvs : List (NestedKey × V × V)} {xs : List NKV} (r : Paired RelKV kvs xs) (k : NestedKey) : (lookK kvs k = none ∧ lookK xs k = none) ∨ ∃ v u, lookK kvs k = some v ∧ lookK xs k = some u ∧ RelV v u := by
  induction r with
  | nil => exact .inl ⟨rfl, rfl⟩
  | @cons a b l m h _ ih =>
    rw [lookK_cons, lookK_cons, h.1]
    by_cases e : b.1 = k
    · rw [if_pos e, if_pos e]; exact .inr ⟨_, _, rfl, rfl, h.2.2⟩
    · rw [if_neg e, if_neg e]; exact ih
theorem storeK_keys {α : Type} {xs : List (NestedKey × α × α)} {k : NestedKey} {kv v : α} (hn : (xs.map (·.1)).Nodup) : ((storeK xs k kv v).map (·.1)).Nodup ∧ (storeK xs k kv v).length ≤ xs.length + 1 := by
  unfold storeK
  split
  · refine ⟨?_, by simp⟩
    rw [List.map_map]
    rw [show xs.map ((fun x => x.1) ∘ fun x => if x.1 = k then (x.1, x.2.1, v) else x) = xs.map (·.1) from List.map_congr_left fun x _ => by by_cases h : x.1 = k <;> simp [h]]
    exact hn
  · rename_i hs
    refine ⟨?_, by simp⟩
    rw [List.map_append, List.nodup_append]
    refine ⟨hn, by simp, fun x hx y hy e => ?_⟩
    have hy : y = k := by simpa using hy
    obtain ⟨p, hp, e2⟩ := List.mem_map.mp hx
    have hk : p.1 = k := by rw [e2, e, hy]
    apply hs
    simp only [lookK, Option.isSome_map, List.find?_isSome]
    exact ⟨p, hp, by simpa using hk⟩
theorem storeK_rel {kvs : List (NestedKey × V × V)} {xs : List NKV} (r : Paired RelKV kvs xs) {k : NestedKey} {kv v : V} {ku u : Value} (rk : RelV kv ku) (rv : RelV v u) : Paired RelKV (storeK kvs k kv v) (storeK xs k ku u) := by
  have hs : (lookK kvs k).isSome = (lookK xs k).isSome := by
    rcases lookK_rel r k with ⟨h1, h2⟩ | ⟨_, _, h1, h2, _⟩ <;> rw [h1, h2] <;> rfl
  unfold storeK
  rw [hs]
  split <;> rename_i hh <;> clear hs hh
  · induction r with
    | nil => exact .nil
    | @cons a b l m h _ ih =>
      rw [List.map_cons, List.map_cons]
      refine .cons ?_ ih
      rw [h.1]
      by_cases e : b.1 = k
      · rw [if_pos e, if_pos e]; exact ⟨rfl, h.2.1, rv⟩
      · rw [if_neg e, if_neg e]; exact ⟨h.1, h.2.1, h.2.2⟩
  · induction r with
    | nil => exact .cons ⟨rfl, rk, rv⟩ .nil
    | cons h _ ih => exact .cons h ih

section
variable {X : Cx} {pins : List (Addr × Obj)} {σ : L2.St} {F H : Hp} {s : Shared} {a : Addr} {kvs : List (NestedKey × V × V)} {Q : VK}
theorem Inv.dict (I : Inv X pins σ H s) (sm : Same F H) (h : H a = some (dicO X.w a kvs)) (kr : KeysR X.K X.w F kvs) :
    ∃ xs, Paired RelKV kvs xs ∧ DictN X.w s.heap a xs ∧ (a == sysModules) = false ∧ kvs.length ≤ sizeLine ∧ (kvs.map (·.1)).Nodup := by
  obtain ⟨⟨z1, z2, z3, xs, rr, o, es, ep, ho, hx, hd, he⟩, _⟩ := I.hok a _ h
  refine ⟨xs, rr, ⟨o, es, ep, ho, hx, hd, he, fun y hy => ?_, by rw [← paired_keys rr]; exact z3⟩, z2, z1, z3⟩
  obtain ⟨p, hp, r1, r2, _⟩ := paired_mem rr hy
  obtain ⟨k, e1, e2, e3⟩ := kr p hp
  rw [← r1, e1]
  exact e3.keyN I sm e2 r2
theorem in1_room (hu : X.A.units + 65 < cLine) : X.A.in1.units + 8 < cLine := by
  show X.A.units + 1 + 8 < cLine
  omega
/-- k in d -/
theorem sem_dict_in (neg : Bool) (hu : X.A.units + 65 < cLine) (I : Inv X pins σ H s) (sm : Same F H) (h : H a = some (dicO X.w a kvs)) (kr : KeysR X.K X.w F kvs) {x : V} {d : D} {v u : Value} (rx : RelV x v) (hx : Rep X.K X.w F x d) (ok : okKey d = true) (ru : u = .ref a)
    (q : Q (.bl (neg != (lookK kvs (toKey d)).isSome)) H) : wpAny (model X.prog X.w) X.A (compareOp (if neg then .NotIn else .In) v u) (EP X pins σ Q) X.xe s := by
  subst ru
  obtain ⟨xs, rr, hm, hs, _⟩ := Inv.dict I sm h kr
  refine in_N neg (in1_room hu) (hx.keyN I sm ok rx) hs hm ⟨.bl _, H, I.tok _, rfl, ?_⟩
  rcases lookK_rel rr (toKey d) with ⟨h1, h2⟩ | ⟨_, _, h1, h2, _⟩ <;> rw [h2] <;> rw [h1] at q <;> exact q
/-- d[k] -/
theorem sem_dict_get (hu : X.A.units + 65 < cLine) (I : Inv X pins σ H s) (sm : Same F H) (h : H a = some (dicO X.w a kvs)) (kr : KeysR X.K X.w F kvs) {x y : V} {d : D} {v : Value} (rx : RelV x v) (hx : Rep X.K X.w F x d) (ok : okKey d = true)
    (hl : lookK kvs (toKey d) = some y) (q : Q y H) : wpAny (model X.prog X.w) X.A (getItem (.ref a) v) (EP X pins σ Q) X.xe s := by
  obtain ⟨xs, rr, hm, hs, _⟩ := Inv.dict I sm h kr
  rcases lookK_rel rr (toKey d) with ⟨h1, h2⟩ | ⟨z, u, h1, h2, rz⟩
  · rw [hl] at h1; cases h1
  · rw [hl] at h1; cases h1
    exact getItem_N (in1_room hu) (hx.keyN I sm ok rx) hm h2 ⟨y, H, I.tok _, rz, q⟩
/-- d.get(k, x) -/
theorem sem_dict_or (hu : X.A.units + 65 < cLine) (I : Inv X pins σ H s) (sm : Same F H) (h : H a = some (dicO X.w a kvs)) (kr : KeysR X.K X.w F kvs) {x z : V} {d : D} {v u : Value} (rx : RelV x v) (hx : Rep X.K X.w F x d) (ok : okKey d = true) (rz : RelV z u)
    (q : Q ((lookK kvs (toKey d)).getD z) H) : wpAny (model X.prog X.w) X.A (PySem.call (.builtin "dict.get") [.ref a, v, u]) (EP X pins σ Q) X.xe s := by
  obtain ⟨xs, rr, hm, hs, _⟩ := Inv.dict I sm h kr
  refine getOr_N (in1_room hu) (hx.keyN I sm ok rx) hs hm ?_
  rcases lookK_rel rr (toKey d) with ⟨h1, h2⟩ | ⟨y, u', h1, h2, ry⟩
  · rw [h2]; rw [h1] at q; exact ⟨z, H, I.tok _, rz, q⟩
  · rw [h2]; rw [h1] at q; exact ⟨y, H, I.tok _, ry, q⟩
/-- d[k] = y -/
theorem sem_dict_set (hu : X.A.units + 65 < cLine) (I : Inv X pins σ H s) (sm : Same F H) (h : H a = some (dicO X.w a kvs)) (kr : KeysR X.K X.w F kvs) {x y : V} {d : D} {v u : Value} (rx : RelV x v) (hx : Rep X.K X.w F x d) (ok : okKey d = true) (ry : RelV y u)
    (hz : kvs.length < sizeLine) {Q : Unit → Shared → Prop} (q : ∀ s', Inv X pins σ (upd H a (dicO X.w a (storeK kvs (toKey d) x y))) s' → Q () s') :
    wpAny (model X.prog X.w) X.A (setItem (.ref a) v u) Q X.xe s := by
  obtain ⟨xs, rr, hm, hs, _, hn⟩ := Inv.dict I sm h kr
  have hl : xs.length = kvs.length := (Paired.length rr).symm
  refine setItem_N (in1_room hu) (hx.keyN I sm ok rx) hm (fun h' hm' sb => ?_) (by omega)
  have hx' : ∃ o, h'.get? a = some o := let ⟨o, _, _, ho, _⟩ := hm'; ⟨o, ho⟩
  refine q _ (I.write (x := a) (e := a) (by rw [h]; exact True.intro) (.inl rfl) (fun b u hb z => (sb.2 b hb).trans z) hx' (dicO_ok ?_))
  obtain ⟨o, es, ep, ho, hc, hd, he, _, hnd⟩ := hm'
  have hk := storeK_keys (k := toKey d) (kv := x) (v := y) hn
  exact ⟨by omega, hs, hk.1, _, storeK_rel rr rx ry, o, es, ep, ho, hc, hd, he⟩
end
end BP

set_option maxRecDepth 100000
set_option maxHeartbeats 4000000
/-! Subscripts, slices, built-in calls; fields of owned dicts. -/
namespace BP
open PySem PySem.Spec PyProof.Rows L2

section
variable {K : PySem.W.Frag} {w : World} {F H : Hp}
theorem key_if {a k : D} (ha : okKey a = true) (hk : okKey k = true) {α : Type} {x y : α} : (if toKey a = toKey k then x else y) = if D.eqv a k = true then x else y := by
  have := key_eqv a k (okKey_hsh ha) (okKey_hsh hk)
  by_cases h : D.eqv a k = true
  · rw [if_pos h, if_pos (this.mpr h)]
  · rw [if_neg h, if_neg fun e => h (this.mp e)]
theorem KvR.look {k d : D} (hk : okKey k = true) : ∀ {kvs : List (NestedKey × V × V)} {ks vs : List D}, KvR K w F kvs ks vs → lookD k ks vs = some d → ∃ v, lookK kvs (toKey k) = some v ∧ Rep K w F v d
  | _, _, _, .nil, e => by cases e
  | _, _, _, .cons (n := n) (k := a) hn ok rk rv r, e => by
    rw [lookK_cons]
    subst hn
    rw [key_if ok hk]
    simp only [lookD] at e
    split at e
    · rename_i h; cases e; rw [if_pos h]; exact ⟨_, rfl, rv⟩
    · rename_i h; rw [if_neg h]; exact KvR.look hk r e
theorem KfR.lookV {k d : D} (hk : okKey k = true) : ∀ {kvs : List (NestedKey × V × V)} {ks : List D} {vs : List Fld} {as : List Addr}, KfR K w F H kvs ks vs as → lookF k ks vs = some (.v d) → ∃ v, lookK kvs (toKey k) = some v ∧ Rep K w F v d
  | _, _, _, _, .nil, e => by cases e
  | _, _, _, _, .cons (n := n) (k := a) hn ok rk rv r, e => by
    rw [lookK_cons]
    subst hn
    rw [key_if ok hk]
    simp only [lookF] at e
    split at e
    · rename_i h
      cases e
      rw [if_pos h]
      cases rv with
      | v q => exact ⟨_, rfl, q⟩
    · rename_i h; rw [if_neg h]; exact KfR.lookV hk r e
theorem KfR.lookS {k : D} (hk : okKey k = true) : ∀ {kvs : List (NestedKey × V × V)} {ks : List D} {vs : List Fld} {as : List Addr}, KfR K w F H kvs ks vs as → (lookF k ks vs).isSome = (lookK kvs (toKey k)).isSome
  | _, _, _, _, .nil => rfl
  | _, _, _, _, .cons (n := n) (k := a) hn ok rk rv r => by
    rw [lookK_cons]
    subst hn
    rw [key_if ok hk]
    simp only [lookF]
    split
    · rfl
    · exact KfR.lookS hk r
theorem KfR.len : ∀ {kvs : List (NestedKey × V × V)} {ks : List D} {vs : List Fld} {as : List Addr}, KfR K w F H kvs ks vs as → kvs.length = ks.length
  | _, _, _, _, .nil => rfl
  | _, _, _, _, .cons _ _ _ _ r => by rw [List.length_cons, List.length_cons, r.len]
theorem storeK_cons {α : Type} (x : NestedKey × α × α) (xs : List (NestedKey × α × α)) (k : NestedKey) (kv v : α) (hn : ((x :: xs).map (·.1)).Nodup) :
    storeK (x :: xs) k kv v = if x.1 = k then (x.1, x.2.1, v) :: xs else x :: storeK xs k kv v := by
  rw [List.map_cons, List.nodup_cons] at hn
  unfold storeK
  rw [lookK_cons]
  by_cases h : x.1 = k
  · rw [if_pos h, if_pos h]
    simp only [Option.isSome_some, if_true, List.map_cons, if_pos h]
    congr 1
    conv => rhs; rw [← List.map_id xs]
    refine List.map_congr_left fun y hy => ?_
    have : ¬ y.1 = k := fun e => hn.1 (List.mem_map.mpr ⟨y, hy, by rw [e, h]⟩)
    rw [if_neg this]; rfl
  · rw [if_neg h, if_neg h]
    split
    · simp only [List.map_cons, if_neg h]
    · rfl
theorem KfR.putV {k d : D} {kv v : V} (hk : okKey k = true) (rk : Rep K w F kv k) (rv : Rep K w F v d) : ∀ {kvs : List (NestedKey × V × V)} {ks : List D} {vs : List Fld} {as : List Addr}, KfR K w F H kvs ks vs as → (kvs.map (·.1)).Nodup → (∀ ds, lookF k ks vs ≠ some (.l ds)) →
    KfR K w F H (storeK kvs (toKey k) kv v) (putF k (.v d) ks vs).1 (putF k (.v d) ks vs).2 as
  | _, _, _, _, .nil, _, _ => .cons (as := []) rfl hk rk (.v rv) .nil
  | _, _, _, _, .cons (n := n) (k := a) hn ok r1 r2 r, nd, hf => by
    rw [storeK_cons _ _ _ _ _ nd]
    subst hn
    rw [key_if ok hk]
    simp only [putF]
    simp only [lookF] at hf
    by_cases h : D.eqv a k = true
    · rw [if_pos h, if_pos h]
      rw [if_pos h] at hf
      cases r2 with
      | v q => exact .cons (as := []) rfl ok r1 (.v rv) r
      | l _ _ _ => exact absurd rfl (hf _)
    · rw [if_neg h, if_neg h]
      rw [if_neg h] at hf
      rw [List.map_cons, List.nodup_cons] at nd
      exact .cons rfl ok r1 r2 (r.putV hk rk rv nd.2 hf)
theorem KfR.putL {k : D} {ds : List D} (hk : okKey k = true) : ∀ {kvs : List (NestedKey × V × V)} {ks : List D} {vs : List Fld} {as : List Addr}, KfR K w F H kvs ks vs as → lookF k ks vs = some (.l ds) →
    ∃ (b : Addr) (A B : List Addr) (xs : List V), as = A ++ [b] ++ B ∧ lookK kvs (toKey k) = some (.ref b) ∧ H b = some (.lst xs) ∧ F b = none ∧ Reps K w F xs ds ∧
      ∀ (H' : Hp) (ds' : List D) (xs' : List V), (∀ c ∈ A ++ B, H' c = H c) → H' b = some (.lst xs') → Reps K w F xs' ds' → KfR K w F H' kvs (putF k (.l ds') ks vs).1 (putF k (.l ds') ks vs).2 as
  | _, _, _, _, .nil, e => by cases e
  | _, _, _, _, .cons (n := n) (k := a) (as := as) (bs := bs) hn ok r1 r2 r, e => by
    rw [lookK_cons]
    subst hn
    rw [key_if ok hk]
    simp only [lookF] at e
    by_cases h : D.eqv a k = true
    · rw [if_pos h] at e ⊢
      cases e
      cases r2 with
      | l hf hb q =>
        refine ⟨_, [], bs, _, by simp, rfl, hb, hf, q, fun H' ds' xs' kp h1 h2 => ?_⟩
        simp only [putF, if_pos h]
        exact .cons rfl ok r1 (.l hf h1 h2) (r.mono (Same.refl F) fun c hc => ⟨kp c (by simpa using hc), (r.ad c hc).1⟩)
    · rw [if_neg h] at e ⊢
      obtain ⟨b, A, B, xs, e1, e2, e3, e4, e5, e6⟩ := KfR.putL hk r e
      refine ⟨b, as ++ A, B, xs, by rw [e1]; simp, e2, e3, e4, e5, fun H' ds' xs' kp h1 h2 => ?_⟩
      simp only [putF, if_neg h]
      refine .cons rfl ok r1 (r2.mono (Same.refl F) fun c hc => ⟨kp c (by simp [hc]), (r2.ad c hc).1⟩) (e6 H' ds' xs' (fun c hc => kp c (by rcases List.mem_append.mp hc with z | z <;> simp [z])) h1 h2)
end

/-! ### subscripts -/
theorem ixP_eq (n : Nat) (i : Int) : ixP n i = ixN n i := rfl
theorem ixL_eq {α : Type} (xs : List α) (i : Int) : ixL xs i = atI xs i := rfl
section
variable {K : PySem.W.Frag} {w : World} {F : Hp}
theorem Reps.at {xs : List V} {ds : List D} {i : Int} {d : D} (r : Reps K w F xs ds) (e : ixL ds i = some d) : ∃ v, atI xs i = some v ∧ Rep K w F v d := by
  unfold ixL at e
  rw [ixP_eq, ← r.length] at e
  unfold atI
  cases h : ixN xs.length i with
  | none => rw [h] at e; cases e
  | some j =>
    rw [h] at e
    exact r.get e
end
section
variable {X : Cx}
theorem ix_dict (hu : X.A.units + 65 < cLine) : IxR X (fun x y H Q => ∃ F a kvs k v, x = .ref a ∧ Same F H ∧ H a = some (dicO X.w a kvs) ∧ KeysR X.K X.w F kvs ∧ Rep X.K X.w F y k ∧ okKey k = true ∧ lookK kvs (toKey k) = some v ∧ Q v H) := by
  intro value slice pins s σ H x y v u Q I rx ry h hs
  obtain ⟨F, a, kvs, k, z, rfl, sm, ha, kr, rk, ok, e, q⟩ := h
  cases rx
  obtain ⟨xs, rr, hm, _⟩ := Inv.dict I sm ha kr
  have ht : s.TypeIs (.ref a) "dict" := hm.typeIs
  exact tail_any ht slot_dict_getitem.lookup (sem_dict_get hu I sm ha kr ry rk ok e q) hs
theorem sem_ix (hu : X.A.units + 65 < cLine) : IxR X (rD X.K X.w fun a i => (ixop a i).map Ret.val) := by
  intro value slice pins s σ0 H x y v u Q I rx ry h hs
  obtain ⟨L, F, σ, ρ, as, dx, dy, r, st, hx, hy, e, p⟩ := h
  obtain ⟨d, e0, rfl⟩ := Option.map_eq_some_iff.mp e
  clear e
  have e : ixop dx dy = some d := e0
  clear e0
  cases hx with
  | tup ha ra =>
    cases hy with
    | int i =>
      obtain ⟨z, e1, rz⟩ := ra.at (show ixL _ i = some d from e)
      exact ix_tup value slice pins s σ0 H _ _ v u Q I rx ry ⟨_, _, i, z, rfl, rfl, Same.seqT st.sub ha, e1, p.v st rz⟩ hs
    | _ => cases e
  | lst ha ra =>
    cases hy with
    | int i =>
      obtain ⟨z, e1, rz⟩ := ra.at (show ixL _ i = some d from e)
      exact ix_list value slice pins s σ0 H _ _ v u Q I rx ry ⟨_, _, i, z, rfl, rfl, .of (st.sub _ _ ha), e1, p.v st rz⟩ hs
    | _ => cases e
  | scr ha =>
    cases hy with
    | int i =>
      obtain ⟨n, e1, e2⟩ := Option.map_eq_some_iff.mp (show (ixL _ i).map D.int = some d from e)
      subst e2
      refine ix_list value slice pins s σ0 H _ _ v u Q I rx ry ⟨_, _, i, .int n, rfl, rfl, Same.seq st.sub ha, ?_, p.v st (.int n)⟩ hs
      rw [ixL_eq] at e1
      unfold atI at e1 ⊢
      rw [List.length_map]
      cases h : ixN _ i with
      | none => rw [h] at e1; cases e1
      | some j =>
        rw [h] at e1
        show (List.map V.int _)[j]? = _
        rw [List.getElem?_map]
        simp only [Option.bind_some] at e1
        rw [e1]; rfl
    | _ => cases e
  | str z =>
    cases hy with
    | int i =>
      simp only [ixop] at e
      split at e
      · rename_i hl
        obtain ⟨c, e1, e2⟩ := Option.map_eq_some_iff.mp e
        subst e2
        refine ix_str value slice pins s σ0 H _ _ v u Q I rx ry ⟨_, i, c, rfl, rfl, by rw [toStr_len, ← lineN_eq]; exact hl, ?_, p.v st (.str [c])⟩ hs
        rw [ixL_eq] at e1
        simpa [toStr] using e1
      · cases e
    | _ => cases e
  | dic ha ra =>
    simp only [ixop] at e
    split at e
    · rename_i hk
      obtain ⟨z, e1, rz⟩ := ra.look hk e
      exact ix_dict hu value slice pins s σ0 H _ _ v u Q I rx ry ⟨F, _, _, _, z, rfl, st.sub, st.sub _ _ ha, ra.keysR, hy, hk, e1, p.v st rz⟩ hs
    · cases e
  | _ => cases e

/-! ### slices -/
theorem cutP_eq (n d : Nat) (hd : d ≤ n) (o : Option Int) : cutP n d o = HT.sIx n d o := by
  cases o with
  | none => rfl
  | some v =>
    have h1 := HT.clip_eq v n d
    simp only [cutP]
    by_cases h : v < 0
    · rw [if_pos h] at h1 ⊢
      omega
    · rw [if_neg h] at h1 ⊢
      omega
theorem cut_eq (xs : List V) (lo hi : Option Int) : cut xs lo hi = cutV xs lo hi := by
  unfold cut cutV
  rw [cutP_eq _ _ (Nat.zero_le _), cutP_eq _ _ (Nat.le_refl _)]
theorem Reps.cut {K : PySem.W.Frag} {w : World} {F : Hp} {xs : List V} {ds : List D} (r : Reps K w F xs ds) (lo hi : Option Int) : Reps K w F (cutV xs lo hi) (BP.cut ds lo hi) := by
  rw [← cut_eq]
  unfold BP.cut
  rw [← r.length]
  exact (r.drop _).take _
theorem cut_whole {xs : List D} {lo hi : Option Int} (h : HT.sIx xs.length 0 lo = 0 ∧ HT.sIx xs.length xs.length hi = xs.length) : cut xs lo hi = xs := by
  unfold cut
  rw [cutP_eq _ _ (Nat.zero_le _), cutP_eq _ _ (Nat.le_refl _), h.1, h.2]
  simp
def rSl (K : PySem.W.Frag) (w : World) : V → Option Int → Option Int → Hp → VK → Prop := fun x lo hi H Q => ∃ L F σ ρ as dx r, StOk K w L F H σ ρ as ∧ Rep K w F x dx ∧ slop dx lo hi = some r ∧ Post K w L F H as σ ρ r Q
theorem sem_sl : SlR X (rSl X.K X.w) := by
  intro pins s σ0 H x v vl vu lo hi sl Q I rx hs pl pu h
  obtain ⟨L, F, σ, ρ, as, dx, r, st, hx, e, p⟩ := h
  cases hx with
  | tup ha ra =>
    cases e
    refine sl_tupA pins s σ0 H _ v vl vu lo hi sl Q I rx hs pl pu ⟨_, _, rfl, Same.seqT st.sub ha, fun hw => ?_, fun _ q hq => p.nT st hq (ra.cut lo hi)⟩
    rw [ra.length] at hw
    rw [cut_whole hw] at p
    exact p.v st (.tup ha ra)
  | lst ha ra =>
    cases e
    exact sl_list pins s σ0 H _ v vl vu lo hi sl Q I rx hs pl pu ⟨_, _, rfl, .of (st.sub _ _ ha), fun q hq => p.nL st hq (ra.cut lo hi)⟩
  | str z =>
    simp only [slop] at e
    split at e
    · rename_i hl
      cases e
      refine sl_str pins s σ0 H _ v vl vu lo hi sl Q I rx hs pl pu ⟨_, rfl, by rw [toStr_len, ← lineN_eq]; exact hl, ?_⟩
      have e2 : cutS (toStr z) lo hi = toStr (cut z lo hi) := by
        unfold cutS cut
        rw [toStr_len, cutP_eq _ _ (Nat.zero_le _), cutP_eq _ _ (Nat.le_refl _)]
        simp [toStr]
      rw [e2]
      exact p.v st (.str _)
    · cases e
  | _ => cases e
end
end BP

set_option maxRecDepth 100000
set_option maxHeartbeats 4000000
/-! Built-in calls, isinstance, methods. -/
namespace BP
open PySem PySem.Spec PyProof.Rows L2

/-! ### sorted texts -/
theorem sortedS_pw : ∀ (ss : List Str), sortedS ss = true → (ss.map fun s => s.cps.toList).Pairwise (fun a b => a ≤ b) := by
  have h : ∀ (ss : List Str) (p : Str), risingS p ss = true → (p.cps.toList :: ss.map fun s => s.cps.toList).Pairwise (fun a b => a ≤ b) := by
    intro ss
    induction ss with
    | nil => intro p _; simp
    | cons x r ih =>
      intro p h
      simp only [risingS, Bool.and_eq_true, Bool.not_eq_true'] at h
      have h2 := ih x h.2
      rw [List.map_cons, List.pairwise_cons]
      have hpx : p.cps.toList ≤ x.cps.toList := by
        have := h.1
        rw [PyProof.Rows.ltCps_eq] at this
        exact List.not_lt.mp (of_decide_eq_false this)
      refine ⟨fun y hy => ?_, h2⟩
      rcases List.mem_cons.mp hy with e | hy
      · rw [e]; exact hpx
      · exact List.le_trans hpx ((List.pairwise_cons.mp h2).1 y hy)
  intro ss hs
  cases ss with
  | nil => exact .nil
  | cons x r => exact h r x hs
theorem sorted_the {ys : List Str} {ss : List (List Nat)} (p : ys.Perm (ss.map toStr)) (h : sortedS ys = true) : ys = (ss.mergeSort leS).map toStr := by
  have e1 : (ys.map fun s => s.cps.toList).Perm ss := by
    have := p.map fun s : Str => s.cps.toList
    rw [List.map_map] at this
    have e : ss.map ((fun s : Str => s.cps.toList) ∘ toStr) = ss := by
      conv => rhs; rw [← List.map_id ss]
      exact List.map_congr_left fun x _ => by simp [toStr]
    rw [e] at this
    exact this
  have e2 : (ss.mergeSort leS).Pairwise (fun a b => a ≤ b) := by
    have := List.pairwise_mergeSort (le := leS) (fun a b c h1 h2 => decide_eq_true (List.le_trans (of_decide_eq_true h1) (of_decide_eq_true h2)))
      (fun a b => by rcases List.le_total a b with h | h <;> simp [leS, h]) ss
    exact this.imp fun h => of_decide_eq_true h
  have e3 : (ys.map fun s => s.cps.toList) = ss.mergeSort leS :=
    (e1.trans (List.mergeSort_perm ss leS).symm).eq_of_pairwise (fun a b _ _ h1 h2 => List.le_antisymm h1 h2) (sortedS_pw ys h) e2
  rw [← e3, List.map_map]
  conv => lhs; rw [← List.map_id ys]
  exact List.map_congr_left fun x _ => by
    obtain ⟨c⟩ := x
    show (⟨c⟩ : Str) = ⟨c.toList.toArray⟩
    rw [Array.toArray_toList]

/-! ### join -/
theorem glued_the (sep : List Nat) : ∀ (ss : List (List Nat)) (acc : Array Nat), ((ss.map toStr).foldl (fun acc p => acc ++ (toStr sep).cps ++ p.cps) acc).toList = joinS sep (acc.toList :: ss)
  | [], acc => rfl
  | s :: ss, acc => by
    rw [List.map_cons, List.foldl_cons, glued_the sep ss]
    cases ss with
    | nil => simp [toStr, joinS]
    | cons t r => simp [toStr, joinS]
theorem join_the (sep : List Nat) (ss : List (List Nat)) : Txt.join (toStr sep) (ss.map toStr) = toStr (joinS sep ss) := by
  show Builtin.Str.glued (toStr sep) (ss.map toStr) = _
  unfold Builtin.Str.glued
  cases ss with
  | nil => rfl
  | cons s r =>
    have h := glued_the sep r (toStr s).cps
    have e1 : (toStr s).cps.toList = s := by simp [toStr]
    rw [e1] at h
    show (⟨List.foldl _ (toStr s).cps (r.map toStr)⟩ : Str) = ⟨(joinS sep (s :: r)).toArray⟩
    rw [← h, Array.toArray_toList]

section
variable {X : Cx}
/-- a name's value, for each built-in -/
def bltV : Blt → Value
  | .len => .builtin "len"
  | .sum => .builtin "sum"
  | .all => .builtin "all"
  | .abs => .builtin "abs"
  | .int => .type "int"
  | .min => .builtin "min"
  | .tuple => .type "tuple"
  | .list => .type "list"
  | .sorted => .builtin "sorted"
theorem reps1 {K : PySem.W.Frag} {w : World} {F : Hp} {xs : List V} {d : D} (r : Reps K w F xs [d]) : ∃ x, xs = [x] ∧ Rep K w F x d := by
  cases r with
  | cons h t => cases t; exact ⟨_, rfl, h⟩
theorem reps2 {K : PySem.W.Frag} {w : World} {F : Hp} {xs : List V} {d e : D} (r : Reps K w F xs [d, e]) : ∃ x y, xs = [x, y] ∧ Rep K w F x d ∧ Rep K w F y e := by
  cases r with
  | cons h t =>
    obtain ⟨y, rfl, hy⟩ := reps1 t
    exact ⟨_, _, rfl, h, hy⟩
theorem sem_len : CallR X (.builtin "len") (rDs X.K X.w (bltop .len)) := by
  intro pins s σ0 H xs us Q I ru h
  obtain ⟨L, F, σ, ρ, as, ds, r, st, hx, e, p⟩ := h
  match ds, e with
  | [.str z], e =>
    obtain ⟨x, rfl, h⟩ := reps1 hx
    simp only [bltop] at e
    split at e
    · rename_i hl
      cases e
      cases h
      exact call_len pins s σ0 H _ us Q I ru ⟨_, z.length, rfl, ⟨by rw [toStr_len, ← lineN_eq]; exact hl, (toStr_len z).symm⟩, p.v st (.int _)⟩
    · cases e
  | [.tup zs], e =>
    obtain ⟨x, rfl, h⟩ := reps1 hx
    cases e
    cases h with
    | tup ha ra => exact call_len pins s σ0 H _ us Q I ru ⟨_, zs.length, rfl, .inr ⟨_, Same.seqT st.sub ha, ra.length.symm⟩, p.v st (.int _)⟩
  | [.lst zs], e =>
    obtain ⟨x, rfl, h⟩ := reps1 hx
    cases e
    cases h with
    | lst ha ra => exact call_len pins s σ0 H _ us Q I ru ⟨_, zs.length, rfl, .inl ⟨_, .of (st.sub _ _ ha), ra.length.symm⟩, p.v st (.int _)⟩
  | [.scr ns], e =>
    obtain ⟨x, rfl, h⟩ := reps1 hx
    cases e
    cases h with
    | scr ha => exact call_len pins s σ0 H _ us Q I ru ⟨_, ns.length, rfl, .inl ⟨_, Same.seq st.sub ha, by rw [List.length_map]⟩, p.v st (.int _)⟩
  | [], e => simp [bltop] at e
  | [.non], e => simp [bltop] at e
  | [.bl _], e => simp [bltop] at e
  | [.int _], e => simp [bltop] at e
  | [.dic _ _], e => simp [bltop] at e
  | _ :: _ :: _, e => simp [bltop] at e
theorem sem_blt (hc : X.calm = true) (b : Blt) : CallR X (bltV b) (rDs X.K X.w (bltop b)) := by
  cases b with
  | len => exact sem_len
  | sum =>
    intro pins s σ0 H xs us Q I ru h
    obtain ⟨L, F, σ, ρ, as, ds, r, st, hx, e, p⟩ := h
    unfold bltop at e
    split at e <;> first | (exfalso; cases e; done) | skip
    all_goals (rename_i h; first | cases h | skip)
    obtain ⟨x, rfl, h⟩ := reps1 hx
    obtain ⟨i, e1, rfl⟩ := Option.map_eq_some_iff.mp e
    cases h with
    | lst ha ra =>
      obtain ⟨ns, e2, e3⟩ := ra.ints e1
      subst e2 e3
      exact cr_sum hc pins s σ0 H _ us Q I ru ⟨_, ns, rfl, .of (st.sub _ _ ha), p.v st (.int _)⟩
  | all =>
    intro pins s σ0 H xs us Q I ru h
    obtain ⟨L, F, σ, ρ, as, ds, r, st, hx, e, p⟩ := h
    unfold bltop at e
    split at e <;> first | (exfalso; cases e; done) | skip
    all_goals (rename_i h; first | cases h | skip)
    obtain ⟨x, rfl, h⟩ := reps1 hx
    obtain ⟨i, e1, rfl⟩ := Option.map_eq_some_iff.mp e
    cases h with
    | lst ha ra =>
      obtain ⟨ns, e2, e3⟩ := ra.bools e1
      subst e2 e3
      exact cr_all hc pins s σ0 H _ us Q I ru ⟨_, ns, rfl, .of (st.sub _ _ ha), p.v st (.bl _)⟩
  | abs =>
    intro pins s σ0 H xs us Q I ru h
    obtain ⟨L, F, σ, ρ, as, ds, r, st, hx, e, p⟩ := h
    unfold bltop at e
    split at e <;> first | (exfalso; cases e; done) | skip
    all_goals (rename_i h; first | cases h | skip)
    obtain ⟨x, rfl, h⟩ := reps1 hx
    cases e
    cases h
    exact call_abs pins s σ0 H _ us Q I ru ⟨_, rfl, p.v st (.int _)⟩
  | int =>
    intro pins s σ0 H xs us Q I ru h
    obtain ⟨L, F, σ, ρ, as, ds, r, st, hx, e, p⟩ := h
    unfold bltop at e
    split at e <;> first | (exfalso; cases e; done) | skip
    all_goals (rename_i h; first | cases h | skip)
    obtain ⟨x, rfl, h⟩ := reps1 hx
    cases e
    cases h
    exact call_int1 pins s σ0 H _ us Q I ru (.inl ⟨_, rfl, p.v st (.int _)⟩)
  | min =>
    intro pins s σ0 H xs us Q I ru h
    obtain ⟨L, F, σ, ρ, as, ds, r, st, hx, e, p⟩ := h
    unfold bltop at e
    split at e <;> first | (exfalso; cases e; done) | skip
    all_goals (rename_i h; first | cases h | skip)
    obtain ⟨x, y, rfl, h1, h2⟩ := reps2 hx
    cases e
    cases h1
    cases h2
    exact call_min2 hc pins s σ0 H _ us Q I ru ⟨_, _, rfl, p.v st (.int _)⟩
  | tuple =>
    intro pins s σ0 H xs us Q I ru h
    obtain ⟨L, F, σ, ρ, as, ds, r, st, hx, e, p⟩ := h
    unfold bltop at e
    split at e <;> first | (exfalso; cases e; done) | skip
    all_goals (rename_i h; first | cases h | skip)
    obtain ⟨x, rfl, h⟩ := reps1 hx
    cases e
    cases h with
    | lst ha ra => exact call_tuple_of pins s σ0 H _ us Q I ru ⟨_, _, rfl, .inl ⟨.of (st.sub _ _ ha), fun q hq => p.nT st hq ra⟩⟩
  | list =>
    intro pins s σ0 H xs us Q I ru h
    obtain ⟨L, F, σ, ρ, as, ds, r, st, hx, e, p⟩ := h
    unfold bltop at e
    split at e <;> first | (exfalso; cases e; done) | skip
    all_goals (rename_i h; first | cases h | skip)
    all_goals
      obtain ⟨x, rfl, h⟩ := reps1 hx
      cases e
      first
        | (cases h with
          | lst ha ra => exact call_list_of pins s σ0 H _ us Q I ru ⟨_, _, rfl, .inl (.of (st.sub _ _ ha)), fun q hq => p.nL st hq ra⟩)
        | (cases h with
          | tup ha ra => exact call_list_of pins s σ0 H _ us Q I ru ⟨_, _, rfl, .inr (Same.seqT st.sub ha), fun q hq => p.nL st hq ra⟩)
  | sorted =>
    intro pins s σ0 H xs us Q I ru h
    obtain ⟨L, F, σ, ρ, as, ds, r, st, hx, e, p⟩ := h
    unfold bltop at e
    split at e <;> first | (exfalso; cases e; done) | skip
    all_goals (rename_i h; first | cases h | skip)
    obtain ⟨x, rfl, h⟩ := reps1 hx
    obtain ⟨ss, e1, rfl⟩ := Option.map_eq_some_iff.mp e
    cases h with
    | lst ha ra =>
      have e2 := ra.strs e1
      obtain ⟨its, rv, hl, hz⟩ := I.list (SqL.of (st.sub _ _ ha))
      have hlen := rv.length
      rw [Vals.ref1 ru]
      rw [e2, show (ss.map fun s => V.str (toStr s)) = (ss.map toStr).map V.str by simp] at rv
      refine PyProof.Rows.sorted_strsAny hl.isList rv.strs (by rw [← hlen]; exact hz) fun out ys h1 h2 h3 => ?_
      have ey := sorted_the h2 h3
      subst ey
      obtain ⟨ep, he'⟩ := PyProof.Rows.sortedAll_at s.heap its out
      have hlen2 : (((ss.mergeSort leS).map toStr).map V.str).length ≤ sizeLine := by
        rw [List.length_map, List.length_map, List.length_mergeSort]
        rw [e2, List.length_map] at hz
        exact hz
      refine ⟨.ref _, upd H (s.heap.objs.size + 1) (.lst (((ss.mergeSort leS).map toStr).map V.str)), I.laid (t' := s.toks) (fun _ _ => PyProof.Rows.sortedAll_old) (Nat.le_succ _) ⟨hlen2, out.toList, ep, vals_of_strs h1, he'⟩, rfl, ?_⟩
      refine p.nL st (I.hok.fresh (Nat.le_succ _)) ?_
      have := Reps.of_strs (K := X.K) (w := X.w) (F := F) (ss.mergeSort leS)
      rw [List.map_map]
      exact this

/-! ### isinstance -/
def tyS : TyN → String
  | .str => "str"
  | .int => "int"
  | .bool => "bool"
  | .tuple => "tuple"
  | .list => "list"
theorem sem_isi (t : TyN) : CallR X (.builtin "isinstance") (fun xs H Q => ∃ L F σ ρ as x d b, StOk X.K X.w L F H σ ρ as ∧ xs = [x, .ty (tyS t)] ∧ Rep X.K X.w F x d ∧ isiop t d = some b ∧ Q (.bl b) H) := by
  intro pins s σ0 H xs us Q I ru h
  obtain ⟨L, F, σ, ρ, as, x, d, b, st, rfl, hx, e, q⟩ := h
  have key : ∀ (ty : String), TyX X.K H x (.type ty) → kitB ty (tyS t) = some b → wpAny (model X.prog X.w) X.A (PySem.call (.builtin "isinstance") us) (EP X pins σ0 Q) X.xe s := fun ty h1 h2 =>
    call_isi pins s σ0 H _ us Q I ru ⟨x, .ty (tyS t), .type ty, .type (tyS t), b, rfl, .ty _, h1, kit_ty h2, q⟩
  cases hx with
  | non => cases t <;> cases e <;> exact key "NoneType" (.base .non) (by decide +kernel)
  | bl c => cases t <;> cases e <;> exact key "bool" (.base (.bl c)) (by decide +kernel)
  | int i => cases t <;> cases e <;> exact key "int" (.base (.int i)) (by decide +kernel)
  | str z => cases t <;> cases e <;> exact key "str" (.base (.str _)) (by decide +kernel)
  | @tup a _ _ ha ra =>
    have ht : TyX X.K H (V.ref a) (.type "tuple") := by
      rcases Same.seqT st.sub ha with (h | ⟨o, h⟩) | ⟨o, _, _, h, hc, _⟩
      · exact .base (.tup h)
      · exact .fTuple h
      · exact .kTuple h hc
    cases t <;> cases e <;> exact key "tuple" ht (by decide +kernel)
  | @lst a _ _ ha ra =>
    have ht : TyX X.K H (V.ref a) (.type "list") := .base (.lst (st.sub _ _ ha))
    cases t <;> cases e <;> exact key "list" ht (by decide +kernel)
  | _ => cases t <;> cases e
end
end BP

set_option maxRecDepth 100000
set_option maxHeartbeats 4000000
/-! Expressions, one rule for each form. -/
namespace BP
open PySem PySem.Spec PyProof.Rows L2

theorem _root_.L2.PE.imp {X : Cx} {e : Expr} {t t' : TE} (h : PE X e t) (i : ∀ σ H Q, t' σ H Q → t σ H Q) : PE X e t' := BP.PE.imp h i
theorem _root_.L2.PT.imp {X : Cx} {e : Expr} {t t' : TT} (h : PT X e t) (i : ∀ σ H Q, t' σ H Q → t σ H Q) : PT X e t' := BP.PT.imp h i
theorem _root_.L2.PW.imp {X : Cx} {e : Expr} {t t' : TT} (h : PW X e t) (i : ∀ σ H Q, t' σ H Q → t σ H Q) : PW X e t' := BP.PW.imp h i
theorem _root_.L2.PA.imp {X : Cx} {es : List Expr} {t t' : TA} (h : PA X es t) (i : ∀ σ H Q, t' σ H Q → t σ H Q) : PA X es t' := BP.PA.imp h i
theorem _root_.L2.PS.imp {X : Cx} {st : Stmt} {t t' : TS} (h : PS X st t) (i : ∀ D σ H, t' D σ H → t D σ H) : PS X st t' := BP.PS.imp h i
theorem _root_.L2.PSs.imp {X : Cx} {st : List Stmt} {t t' : TS} (h : PSs X st t) (i : ∀ D σ H, t' D σ H → t D σ H) : PSs X st t' := BP.PSs.imp h i

/-- the names of a law -/
structure Nm where
  fn : Nat → Str
  gl : Nat → Str
def okN (x : Str) : Bool := !(x == ("__debug__" : Str)) && !(x == ("__classdict__" : Str)) && !(x == ("__name__" : Str))
def visB (sc : Scope) (x : Str) : Bool := (sc.names.lookup x == some .local) || (sc.names.lookup x == some .cell) || (sc.names.lookup x == some .free)
def locB (sc : Scope) (x : Str) : Bool := sc.names.lookup x == some .local
def glB (sc : Scope) (x : Str) : Bool := sc.names.lookup x == some .globalImplicit
theorem vis_of {sc : Scope} {x : Str} (h : visB sc x = true) : Vis sc x := by
  unfold visB at h
  simp only [Bool.or_eq_true, beq_iff_eq] at h
  rcases h with (h | h) | h
  · exact .inl h
  · exact .inr (.inl h)
  · exact .inr (.inr h)
theorem loc_of {sc : Scope} {x : Str} (h : locB sc x = true) : sc.names.lookup x = some .local := by
  unfold locB at h
  simpa using h
theorem gl_of {X : Cx} {x : Str} (h : glB X.env.scope x = true) : Gl X x := by
  unfold glB at h
  show X.env.scope.names.lookup x = _
  simpa using h
theorem okN_of {x : Str} (h : okN x = true) : (x == ("__debug__" : Str)) = false ∧ (x == ("__classdict__" : Str)) = false ∧ x ≠ "__name__" := by
  unfold okN at h
  simp only [Bool.and_eq_true, Bool.not_eq_true'] at h
  exact ⟨h.1.1, h.1.2, fun e => by have := h.2; rw [e] at this; simp at this⟩

/-! ### what a def promises -/
inductive OutR (K : PySem.W.Frag) (w : World) (F H : Hp) : List (Option Addr) → Option O → List Addr → Prop
  | none {L : List (Option Addr)} : L.filterMap id = [] → OutR K w F H L none []
  | some {L : List (Option Addr)} {a : Addr} {o : O} {as : List Addr} : L.filterMap id = [a] → OwnR K w F H a o as → OutR K w F H L (some o) as
def spF (K : PySem.W.Frag) (w : World) (Φ : Calls) (f : Nat) : Sp := fun vs H Q _ => ∃ L F ss as r o, StOk K w L F H (vs.map some) ss as ∧ (L.filterMap id).length ≤ 1 ∧ Φ f ss = some (r, o) ∧
  ∀ F' H' v as' ar, Step F H as F' H' (as' ++ ar) → Same F' H' → OutR K w F' H' L o as' → RetR K w F' H' v r ar → (as' ++ ar).Nodup → Q v H'

def bltNames : List Str := ["len", "sum", "all", "abs", "int", "min", "tuple", "list", "sorted", "isinstance", "range", "enumerate", "str", "bool", "dict"]
/-- the context of the code that runs -/
structure COk (nm : Nm) (Φ : Calls) (G : Nat → Option D) (X : Cx) : Prop where
  calm : X.calm = true
  hu : X.A.units + 65 < cLine
  nd : X.N.Nodup
  xe : X.xe = fun _ _ => False
  blt : ∀ x ∈ bltNames, X.mg x = none
  con : ∀ n d, G n = some d → ∃ v u, X.mg (nm.gl n) = some u ∧ RelV v u ∧ ∀ F, Rep X.K X.w F v d
  cal : ∀ f ss r, Φ f ss = some r → ∃ k, Room k X.A ∧ C8.Cal X.prog X.w X.K X.mg X.base k (nm.fn f) (spF X.K X.w Φ f) []

section
variable {X : Cx} {Φ : Calls} {G : Nat → Option D}

/-! ### names, constants -/
theorem s_var {i : Nat} {x : Str} {pos : Pos} (hN : X.N[i]? = some x) (hv : Vis X.env.scope x) (ho : okN x = true) : PE X (.Name x pos) (tGen X.K X.w (evE Φ G (.var i))) := by
  refine (pe_var hN hv (okN_of ho).1 (okN_of ho).2.1).imp fun σ H Q h => ?_
  obtain ⟨L, F, ρ, as, r, ρ', st, e, p⟩ := h
  unfold evE at e
  split at e
  · rename_i d hd
    cases e
    obtain ⟨v, h1, h2⟩ := st.env.val hd
    exact ⟨v, h1, p.v st h2⟩
  · cases e
theorem s_frz {i : Nat} {x : Str} {pos : Pos} (hN : X.N[i]? = some x) (hv : Vis X.env.scope x) (ho : okN x = true) : PE X (.Name x pos) (tGen X.K X.w (evE Φ G (.frz i))) := by
  refine (pe_var hN hv (okN_of ho).1 (okN_of ho).2.1).imp fun σ H Q h => ?_
  obtain ⟨L, F, ρ, as, r, ρ', st, e, p⟩ := h
  unfold evE at e
  split at e
  · rename_i o hd
    cases e
    obtain ⟨a, A, m, B, e1, e2, e3, _, e5, _⟩ := st.env.thing (i := i) (o := o) (by unfold gO; rw [hd]; rfl)
    subst e1
    refine ⟨_, e2, ?_⟩
    have hn : ∀ b ∈ m, F b = none := fun b hb => (e3.ad b hb).1
    have sm : Same F (more F H m) := more_same hn
    have nd := st.nd
    have dj : ∀ b ∈ A ++ B, b ∉ m := fun b hb hm => by
      rw [List.append_assoc, List.nodup_append] at nd
      rcases List.mem_append.mp hb with h | h
      · exact nd.2.2 b h b (List.mem_append_left _ hm) rfl
      · exact (List.nodup_append.mp nd.2.1).2.2 b hm b h rfl
    have rp : Rep X.K X.w (more F H m) (.ref a) o.fz := e3.fz sm fun b hb => more_in hb
    have ev := e5 hd (more F H m) H o.fz sm (fun b hb => ⟨rfl, by
      rw [more_out (dj b hb)]
      exact (st.env.ad b (by rcases List.mem_append.mp hb with h | h <;> simp [h])).1⟩) rp
    have nd2 : (A ++ B).Nodup := by
      refine nd.sublist ?_
      rw [List.append_assoc]
      exact (List.Sublist.refl A).append (List.sublist_append_right m B)
    have stp : Step F H (A ++ m ++ B) (more F H m) H (A ++ B) := ⟨sm, fun _ _ e _ => e, fun b h => by
      by_cases hb : b ∈ m
      · exact .inr (.inr (by simp [hb]))
      · rw [more_out hb] at h; exact .inl h, fun b hb => .inl (by rcases List.mem_append.mp hb with h | h <;> simp [h])⟩
    exact (p.step stp).v ⟨more_sub st.sub, ev, nd2⟩ rp
  · rename_i d hd
    cases e
    obtain ⟨v, h1, h2⟩ := st.env.val hd
    exact ⟨v, h1, p.v st h2⟩
  · cases e
theorem s_mov {i : Nat} {x : Str} {pos : Pos} (hN : X.N[i]? = some x) (hv : Vis X.env.scope x) (ho : okN x = true) : PE X (.Name x pos) (tGen X.K X.w (evE Φ G (.mov i))) := by
  refine (pe_var hN hv (okN_of ho).1 (okN_of ho).2.1).imp fun σ H Q h => ?_
  obtain ⟨L, F, ρ, as, r, ρ', st, e, p⟩ := h
  unfold evE at e
  split at e
  · rename_i o hd
    cases e
    obtain ⟨a, A, m, B, e1, e2, e3, _, _, e6⟩ := st.env.thing (i := i) (o := o) (by unfold gO; rw [hd]; rfl)
    subst e1
    refine ⟨_, e2, ?_⟩
    have ev := e6 hd F H (Same.refl F) (fun b hb => ⟨rfl, (st.env.ad b (by rcases List.mem_append.mp hb with h | h <;> simp [h])).1⟩)
    refine p F H _ (A ++ B) m ⟨Same.refl F, fun _ _ e _ => e, fun _ h => .inl h, fun b hb => .inl (by simp at hb ⊢; rcases hb with h | h | h <;> simp [h])⟩ st.sub ev (.own e3) ?_
    refine (List.Perm.nodup_iff ?_).mp st.nd
    rw [List.append_assoc, List.append_assoc]
    exact List.Perm.append_left A List.perm_append_comm
  · cases e
theorem s_glb {nm : Nm} (C : COk nm Φ G X) {n : Nat} {pos : Pos} (hg : Gl X (nm.gl n)) (ho : okN (nm.gl n) = true) : PE X (.Name (nm.gl n) pos) (tGen X.K X.w (evE Φ G (.glb n))) := by
  refine ⟨fun pins s σ H Q I h => ?_⟩
  obtain ⟨L, F, ρ, as, r, ρ', st, e, p⟩ := h
  unfold evE at e
  split at e
  · rename_i d hd
    cases e
    obtain ⟨v, u, h1, h2, h3⟩ := C.con n d hd
    exact (pe_glob hg h1 h2 (okN_of ho).1).run pins s σ H Q I (p.v st (h3 F))
  · cases e
def chkC : D → Expr → Bool
  | .non, .Constant .none _ _ => true
  | .bl b, .Constant (.bool c) _ _ => b == c
  | .int i, .Constant (.int j) _ _ => i == j
  | .str s, .Constant (.str x) _ _ => x == toStr s
  | _, _ => false
theorem s_cst {d : D} {e : Expr} (h : chkC d e = true) : PE X e (tGen X.K X.w (evE Φ G (.cst d))) := by
  have key : ∀ {v : V}, PE X e (tC v) → (∀ F, Rep X.K X.w F v d) → PE X e (tGen X.K X.w (evE Φ G (.cst d))) := fun {v} hp hr => hp.imp fun σ H Q h => by
    obtain ⟨L, F, ρ, as, r, ρ', st, e, p⟩ := h
    unfold evE at e
    cases e
    exact p.v st (hr F)
  unfold chkC at h
  split at h
  · exact key pe_non fun _ => .non
  · obtain rfl := beq_iff_eq.mp h; exact key pe_bl fun _ => .bl _
  · obtain rfl := beq_iff_eq.mp h; exact key pe_int fun _ => .int _
  · obtain rfl := beq_iff_eq.mp h; exact key pe_str fun _ => .str _
  · cases h

/-! ### lists of expressions -/
theorem s_nil : PA X [] (tLst X.K X.w (evEs Φ G [])) := by
  refine pa_nil.imp fun σ H Q h => ?_
  obtain ⟨L, F, ρ, as, ds, ρ', st, e, k⟩ := h
  unfold evEs at e
  cases e
  exact k F H [] as (Step.refl _ _ _) st .nil
theorem s_cons {e : Expr} {es : List Expr} {m : E} {ms : List E} (ha : PE X e (tGen X.K X.w (evE Φ G m))) (hr : PA X es (tLst X.K X.w (evEs Φ G ms))) (hs : starEach (e :: es) X.env = (false, eval e X.env) :: starEach es X.env) :
    PA X (e :: es) (tLst X.K X.w (evEs Φ G (m :: ms))) := by
  refine (pa_cons (ha.imp fun _ _ _ => tGen_val) hr hs).imp fun σ H Q h => ?_
  obtain ⟨L, F, ρ, as, ds, ρ', st, e, k⟩ := h
  unfold evEs at e
  refine go1 st e fun F1 H1 x d ρ1 as1 s1 st1 r1 e1 => ?_
  refine goL st1 e1 fun F2 H2 xs ds2 ρ2 as2 s2 st2 r2 e2 => ?_
  cases e2
  exact k F2 H2 _ as2 (s1.trans s2) st2 (.cons (r1.mono s2.same) r2)
theorem s_tup {es : List Expr} {ms : List E} {k : Nat} {pos : Pos} (ha : PA X es (tLst X.K X.w (evEs Φ G ms))) : PE X (.Tuple es k pos) (tGen X.K X.w (evE Φ G (.tup ms))) := by
  refine (pe_tup ha).imp fun σ H Q h => ?_
  obtain ⟨L, F, ρ, as, r, ρ', st, e, p⟩ := h
  unfold evE at e
  refine goL st e fun F1 H1 xs ds ρ1 as1 s1 st1 r1 e1 => ?_
  split at e1
  · rename_i hl
    cases e1
    exact ⟨by rw [r1.length, ← lineN_eq]; exact hl, fun q hq => (p.step s1).nT st1 hq r1⟩
  · cases e1
theorem s_lst {es : List Expr} {ms : List E} {pos : Pos} (ha : PA X es (tLst X.K X.w (evEs Φ G ms))) : PE X (.List es pos) (tGen X.K X.w (evE Φ G (.lst ms))) := by
  refine (pe_lst ha).imp fun σ H Q h => ?_
  obtain ⟨L, F, ρ, as, r, ρ', st, e, p⟩ := h
  unfold evE at e
  refine goL st e fun F1 H1 xs ds ρ1 as1 s1 st1 r1 e1 => ?_
  split at e1
  · rename_i hl
    cases e1
    exact ⟨by rw [r1.length, ← lineN_eq]; exact hl, fun q hq => (p.step s1).nL st1 hq r1⟩
  · cases e1

/-! ### operators -/
variable {a b c : Expr} {ma mb mc : E} {pos : Pos}
theorem s_bin {op : Bop} (ha : PE X a (tGen X.K X.w (evE Φ G ma))) (hb : PE X b (tGen X.K X.w (evE Φ G mb))) : PE X (.BinOp a (pyB op) b pos) (tGen X.K X.w (evE Φ G (.bin op ma mb))) := by
  refine (pe_op (sem_bin op) (ha.imp fun _ _ _ => tGen_val) (hb.imp fun _ _ _ => tGen_val)).imp fun σ H Q h => ?_
  obtain ⟨L, F, ρ, as, r, ρ', st, e, p⟩ := h
  unfold evE at e
  refine go1 st e fun F1 H1 x d ρ1 as1 s1 st1 r1 e1 => ?_
  refine go1 st1 e1 fun F2 H2 y d2 ρ2 as2 s2 st2 r2 e2 => ?_
  obtain ⟨e3, rfl⟩ := oR_some e2
  exact ⟨L, F2, σ, ρ2, as2, d, d2, r, st2, r1.mono s2.same, r2, e3, (p.step s1).step s2⟩
theorem tTst_val {ev : Env → Option (Ret × Env)} {K : PySem.W.Frag} {w : World} {σ : L2.St} {H : Hp} {Q : Bool → Hp → Prop} (h : tTst K w ev σ H Q) : tGen K w ev σ H fun x H1 => ∃ c, x = .bl c ∧ Q c H1 := by
  obtain ⟨L, F, ρ, as, r, ρ', b, st, e, eb, k⟩ := h
  refine tGen_val ⟨L, F, ρ, as, r, ρ', st, e, fun F' H' v as' s' st' rp => ?_⟩
  rw [eb] at rp
  cases rp
  exact ⟨b, rfl, k F' H' as' s' st'⟩
theorem go_cmp {op : Cop} {L : List (Option Addr)} {F H : Hp} {σ : L2.St} {ρ ρ' : Env} {as : List Addr} {r : Ret} {Q : VK} (st : StOk X.K X.w L F H σ ρ as) (e : evE Φ G (.cmp op ma mb) ρ = some (r, ρ')) (p : Post X.K X.w L F H as σ ρ' r Q) :
    tOp (rDb X.K X.w (cmpop op)) (tVal X.K X.w (evE Φ G ma)) (tVal X.K X.w (evE Φ G mb)) σ H Q := by
  unfold evE at e
  refine go1 st e fun F1 H1 x d ρ1 as1 s1 st1 r1 e1 => ?_
  refine go1 st1 e1 fun F2 H2 y d2 ρ2 as2 s2 st2 r2 e2 => ?_
  obtain ⟨z, e3, rfl, rfl⟩ := oV_some e2
  obtain ⟨bb, e4, rfl⟩ := Option.map_eq_some_iff.mp e3
  exact ⟨L, F2, σ, ρ2, as2, d, d2, bb, st2, r1.mono s2.same, r2, e4, ((p.step s1).step s2).v st2 (.bl _)⟩
theorem s_cmp {op : Cop} (hu : X.A.units + 65 < cLine) (ha : PE X a (tGen X.K X.w (evE Φ G ma))) (hb : PE X b (tGen X.K X.w (evE Φ G mb))) (hm : behindInMarks (pyC op) b = false) :
    PE X (.Compare a [pyC op] [b] pos) (tGen X.K X.w (evE Φ G (.cmp op ma mb))) ∧ PT X (.Compare a [pyC op] [b] pos) (tTst X.K X.w (evE Φ G (.cmp op ma mb))) := by
  have ha' := ha.imp fun _ _ _ => tGen_val
  have hb' := hb.imp fun _ _ _ => tGen_val
  refine ⟨(pe_cmpR (sem_cmp hu op) ha' hb' hm).imp fun σ H Q h => ?_, (pt_cmpR (sem_cmp hu op) ha' hb' hm).imp fun σ H Q h => ?_⟩
  · obtain ⟨L, F, ρ, as, r, ρ', st, e, p⟩ := h
    exact go_cmp st e p
  · obtain ⟨L, F, ρ, as, r, ρ', st, e, p⟩ := tTst_val h
    exact go_cmp st e p
theorem go_chn {op op' : Cop} {L : List (Option Addr)} {F H : Hp} {σ : L2.St} {ρ ρ' : Env} {as : List Addr} {r : Ret} {Q : VK} (st : StOk X.K X.w L F H σ ρ as) (e : evE Φ G (.chn op op' ma mb mc) ρ = some (r, ρ')) (p : Post X.K X.w L F H as σ ρ' r Q) :
    tChain (rDb X.K X.w (cmpop op)) (rDb X.K X.w (cmpop op')) (tVal X.K X.w (evE Φ G ma)) (tVal X.K X.w (evE Φ G mb)) (tVal X.K X.w (evE Φ G mc)) σ H Q := by
  unfold evE at e
  refine go1 st e fun F1 H1 x d ρ1 as1 s1 st1 r1 e1 => ?_
  refine go1 st1 e1 fun F2 H2 y d2 ρ2 as2 s2 st2 r2 e2 => ?_
  split at e2
  · rename_i ec
    refine ⟨L, F2, σ, ρ2, as2, d, d2, true, st2, r1.mono s2.same, r2, ec, true, rfl, ?_⟩
    rw [if_pos rfl]
    refine go1 st2 e2 fun F3 H3 z d3 ρ3 as3 s3 st3 r3 e3 => ?_
    obtain ⟨zz, e5, rfl, rfl⟩ := oV_some e3
    obtain ⟨bb, e4, rfl⟩ := Option.map_eq_some_iff.mp e5
    exact ⟨L, F3, σ, ρ3, as3, d2, d3, bb, st3, r2.mono s3.same, r3, e4, (((p.step s1).step s2).step s3).v st3 (.bl _)⟩
  · rename_i ec
    cases e2
    refine ⟨L, F2, σ, _, as2, d, d2, false, st2, r1.mono s2.same, r2, ec, false, rfl, ?_⟩
    rw [if_neg Bool.false_ne_true]
    exact ((p.step s1).step s2).v st2 (.bl _)
  · cases e2
theorem s_chn {op op' : Cop} (hu : X.A.units + 65 < cLine) (ha : PE X a (tGen X.K X.w (evE Φ G ma))) (hb : PE X b (tGen X.K X.w (evE Φ G mb))) (hc : PE X c (tGen X.K X.w (evE Φ G mc))) (hm : lastMarks [pyC op, pyC op'] [b, c] = false) :
    PE X (.Compare a [pyC op, pyC op'] [b, c] pos) (tGen X.K X.w (evE Φ G (.chn op op' ma mb mc))) ∧ PT X (.Compare a [pyC op, pyC op'] [b, c] pos) (tTst X.K X.w (evE Φ G (.chn op op' ma mb mc))) := by
  have ha' := ha.imp fun _ _ _ => tGen_val
  have hb' := hb.imp fun _ _ _ => tGen_val
  have hc' := hc.imp fun _ _ _ => tGen_val
  refine ⟨(pe_chain (sem_cmp hu op) (sem_cmp hu op') ha' hb' hc' hm).imp fun σ H Q h => ?_, (pt_chain (sem_cmp hu op) (sem_cmp hu op') ha' hb' hc' hm).imp fun σ H Q h => ?_⟩
  · obtain ⟨L, F, ρ, as, r, ρ', st, e, p⟩ := h
    exact go_chn st e p
  · obtain ⟨L, F, ρ, as, r, ρ', st, e, p⟩ := tTst_val h
    exact go_chn st e p
/-- is None, is not None -/
theorem rep_isNon {K : PySem.W.Frag} {w : World} {F : Hp} {v : V} {d : D} (r : Rep K w F v d) : decide (v = .non) = isNon d := by
  cases r <;> simp [isNon]
theorem go_isn {neg : Bool} {L : List (Option Addr)} {F H : Hp} {σ : L2.St} {ρ ρ' : Env} {as : List Addr} {r : Ret} {Q : VK} (st : StOk X.K X.w L F H σ ρ as) (e : evE Φ G (.isn neg ma) ρ = some (r, ρ')) (p : Post X.K X.w L F H as σ ρ' r Q) :
    tVal X.K X.w (evE Φ G ma) σ H fun x H1 => Q (.bl (neg != decide (x = .non))) H1 := by
  unfold evE at e
  refine go1 st e fun F1 H1 x d ρ1 as1 s1 st1 r1 e1 => ?_
  cases e1
  rw [rep_isNon r1]
  exact (p.step s1).v st1 (.bl _)
def isOp (neg : Bool) : CmpOp := if neg then .IsNot else .Is
theorem s_isn {neg : Bool} {j : Nat} {pos' : Pos} (ha : PE X a (tGen X.K X.w (evE Φ G ma))) :
    PE X (.Compare a [isOp neg] [.Constant .none j pos'] pos) (tGen X.K X.w (evE Φ G (.isn neg ma))) ∧ PT X (.Compare a [isOp neg] [.Constant .none j pos'] pos) (tTst X.K X.w (evE Φ G (.isn neg ma))) := by
  have ha' := ha.imp fun _ _ _ => tGen_val
  cases neg with
  | false =>
    refine ⟨(pe_cmp (pc_isN ha')).imp fun σ H Q h => ?_, (pt_cmp (pc_isN ha')).imp fun σ H Q h => ?_⟩
    · obtain ⟨L, F, ρ, as, r, ρ', st, e, p⟩ := h
      have := go_isn st e p
      simpa [tIsN] using this
    · obtain ⟨L, F, ρ, as, r, ρ', st, e, p⟩ := tTst_val h
      have := go_isn st e p
      simpa [tB, tIsN] using this
  | true =>
    refine ⟨(pe_cmp (pc_notN ha')).imp fun σ H Q h => ?_, (pt_cmp (pc_notN ha')).imp fun σ H Q h => ?_⟩
    · obtain ⟨L, F, ρ, as, r, ρ', st, e, p⟩ := h
      have := go_isn st e p
      simpa [tNotN] using this
    · obtain ⟨L, F, ρ, as, r, ρ', st, e, p⟩ := tTst_val h
      have := go_isn st e p
      simpa [tB, tNotN] using this
end
end BP

set_option maxRecDepth 100000
set_option maxHeartbeats 4000000
/-! Expressions: and, or, not, if, subscripts, built-in calls, calls. -/
namespace BP
open PySem PySem.Spec PyProof.Rows L2

def plainT : Expr → Bool
  | .UnaryOp .Not _ _ => false
  | .BoolOp .. => false
  | .IfExp .. => false
  | .Compare .. => false
  | _ => true
theorem plainT_eq {e : Expr} (h : plainT e = true) (env : PySem.Env) (whole : Sem Value) : isTrue e env whole = (do let v ← whole; standAt e.pos; holding [v] (truthy v)) := by
  cases e with
  | UnaryOp op x p => cases op <;> first | rfl | cases h
  | BoolOp => cases h
  | IfExp => cases h
  | Compare => cases h
  | _ => rfl
def notSlice : Expr → Bool
  | .Slice .. => false
  | _ => true
theorem notSlice_ix {b : Expr} (h : notSlice b = true) : PlainIx b := by
  intro o i
  cases b with
  | Slice => cases h
  | _ => rfl
def notStar : Expr → Bool
  | .Starred .. => false
  | _ => true
theorem notStar_eq {e : Expr} (h : notStar e = true) (es : List Expr) (env : PySem.Env) : starEach (e :: es) env = (false, eval e env) :: starEach es env := by
  cases e with
  | Starred => cases h
  | _ => rfl
theorem notStar_any {es : List Expr} (h : es.all notStar = true) (pos : Pos) (env : PySem.Env) : (backTo pos (starEach es env)).any (·.1) = false := by
  induction es with
  | nil => rfl
  | cons e es ih =>
    simp only [List.all_cons, Bool.and_eq_true] at h
    rw [notStar_eq h.1]
    unfold backTo
    simp only [List.map_cons, List.any_cons, Bool.false_or]
    exact ih h.2

section
variable {X : Cx} {Φ : Calls} {G : Nat → Option D} {a b c e : Expr} {ma mb mc m : E} {pos : Pos}
theorem s_pt (h : PE X e (tGen X.K X.w (evE Φ G m))) (hp : plainT e = true) : PT X e (tTst X.K X.w (evE Φ G m)) := by
  refine (pt_val h (plainT_eq hp X.env)).imp fun σ H Q q => ?_
  exact tTst_val q

theorem s_and (ha : PE X a (tGen X.K X.w (evE Φ G ma))) {rest : List Expr} (hb : PE X (.BoolOp .And (b :: rest) pos) (tGen X.K X.w (evE Φ G mb))) : PE X (.BoolOp .And (a :: b :: rest) pos) (tGen X.K X.w (evE Φ G (.and ma mb))) := by
  refine (pe_and (ha.imp fun _ _ _ => tGen_val) hb).imp fun σ H Q h => ?_
  obtain ⟨L, F, ρ, as, r, ρ', st, e, p⟩ := h
  unfold evE at e
  refine go1 st e fun F1 H1 x d ρ1 as1 s1 st1 r1 e1 => ?_
  split at e1
  · cases r1
    refine ⟨true, rfl, ?_⟩
    rw [if_pos rfl]
    exact ⟨L, F1, ρ1, as1, r, ρ', st1, e1, p.step s1⟩
  · cases r1
    cases e1
    refine ⟨false, rfl, ?_⟩
    rw [if_neg Bool.false_ne_true]
    exact (p.step s1).v st1 (.bl _)
  · cases e1
theorem s_or (ha : PE X a (tGen X.K X.w (evE Φ G ma))) {rest : List Expr} (hb : PE X (.BoolOp .Or (b :: rest) pos) (tGen X.K X.w (evE Φ G mb))) : PE X (.BoolOp .Or (a :: b :: rest) pos) (tGen X.K X.w (evE Φ G (.or ma mb))) := by
  refine (pe_or (ha.imp fun _ _ _ => tGen_val) hb).imp fun σ H Q h => ?_
  obtain ⟨L, F, ρ, as, r, ρ', st, e, p⟩ := h
  unfold evE at e
  refine go1 st e fun F1 H1 x d ρ1 as1 s1 st1 r1 e1 => ?_
  split at e1
  · cases r1
    refine ⟨false, rfl, ?_⟩
    rw [if_neg Bool.false_ne_true]
    exact ⟨L, F1, ρ1, as1, r, ρ', st1, e1, p.step s1⟩
  · cases r1
    cases e1
    refine ⟨true, rfl, ?_⟩
    rw [if_pos rfl]
    exact (p.step s1).v st1 (.bl _)
  · cases e1
theorem t_and (ha : PT X a (tTst X.K X.w (evE Φ G ma))) {rest : List Expr} (hb : PW X (.BoolOp .And (b :: rest) pos) (tTst X.K X.w (evE Φ G mb))) : PW X (.BoolOp .And (a :: b :: rest) pos) (tTst X.K X.w (evE Φ G (.and ma mb))) := by
  refine (pw_and ha hb).imp fun σ H Q h => ?_
  obtain ⟨L, F, ρ, as, r, ρ', bb, st, e, eb, k⟩ := h
  unfold evE at e
  refine goT st e (fun d ρ1 h => by cases d <;> first | exact ⟨_, rfl⟩ | cases h) fun F1 H1 b1 ρ1 as1 s1 st1 e1 => ?_
  cases b1 with
  | true =>
    rw [if_pos rfl]
    exact ⟨L, F1, ρ1, as1, r, ρ', bb, st1, e1, eb, fun F' H' as' s' st' => k F' H' as' (s1.trans s') st'⟩
  | false =>
    rw [if_neg Bool.false_ne_true]
    cases e1
    cases eb
    exact k F1 H1 as1 s1 st1
theorem t_or (ha : PT X a (tTst X.K X.w (evE Φ G ma))) {rest : List Expr} (hb : PW X (.BoolOp .Or (b :: rest) pos) (tTst X.K X.w (evE Φ G mb))) : PW X (.BoolOp .Or (a :: b :: rest) pos) (tTst X.K X.w (evE Φ G (.or ma mb))) := by
  refine (pw_or ha hb).imp fun σ H Q h => ?_
  obtain ⟨L, F, ρ, as, r, ρ', bb, st, e, eb, k⟩ := h
  unfold evE at e
  refine goT st e (fun d ρ1 h => by cases d <;> first | exact ⟨_, rfl⟩ | cases h) fun F1 H1 b1 ρ1 as1 s1 st1 e1 => ?_
  cases b1 with
  | false =>
    rw [if_neg Bool.false_ne_true]
    exact ⟨L, F1, ρ1, as1, r, ρ', bb, st1, e1, eb, fun F' H' as' s' st' => k F' H' as' (s1.trans s') st'⟩
  | true =>
    rw [if_pos rfl]
    cases e1
    cases eb
    exact k F1 H1 as1 s1 st1
theorem s_not (ha : PE X a (tGen X.K X.w (evE Φ G ma))) : PE X (.UnaryOp .Not a pos) (tGen X.K X.w (evE Φ G (.not ma))) := by
  refine (pe_not (ha.imp fun _ _ _ => tGen_val)).imp fun σ H Q h => ?_
  obtain ⟨L, F, ρ, as, r, ρ', st, e, p⟩ := h
  unfold evE at e
  refine go1 st e fun F1 H1 x d ρ1 as1 s1 st1 r1 e1 => ?_
  split at e1
  · cases r1
    cases e1
    exact ⟨_, rfl, (p.step s1).v st1 (.bl _)⟩
  · cases e1
theorem t_not (ha : PT X a (tTst X.K X.w (evE Φ G ma))) : PT X (.UnaryOp .Not a pos) (tTst X.K X.w (evE Φ G (.not ma))) := by
  refine (pt_not ha).imp fun σ H Q h => ?_
  obtain ⟨L, F, ρ, as, r, ρ', bb, st, e, eb, k⟩ := h
  unfold evE at e
  refine goT st e (fun d ρ1 h => by cases d <;> first | exact ⟨_, rfl⟩ | cases h) fun F1 H1 b1 ρ1 as1 s1 st1 e1 => ?_
  cases e1
  cases eb
  exact k F1 H1 as1 s1 st1
theorem s_neg (ha : PE X a (tGen X.K X.w (evE Φ G ma))) : PE X (.UnaryOp .USub a pos) (tGen X.K X.w (evE Φ G (.neg ma))) := by
  refine (pe_un un_neg (ha.imp fun _ _ _ => tGen_val)).imp fun σ H Q h => ?_
  obtain ⟨L, F, ρ, as, r, ρ', st, e, p⟩ := h
  unfold evE at e
  refine go1 st e fun F1 H1 x d ρ1 as1 s1 st1 r1 e1 => ?_
  split at e1
  · cases r1
    cases e1
    exact ⟨_, rfl, (p.step s1).v st1 (.int _)⟩
  · cases e1
theorem s_ite (hc : PT X c (tTst X.K X.w (evE Φ G mc))) (ha : PE X a (tGen X.K X.w (evE Φ G ma))) (hb : PE X b (tGen X.K X.w (evE Φ G mb))) : PE X (.IfExp c a b pos) (tGen X.K X.w (evE Φ G (.ite mc ma mb))) := by
  refine (pe_ifExp hc ha hb).imp fun σ H Q h => ?_
  obtain ⟨L, F, ρ, as, r, ρ', st, e, p⟩ := h
  unfold evE at e
  refine goT st e (fun d ρ1 h => by cases d <;> first | exact ⟨_, rfl⟩ | cases h) fun F1 H1 b1 ρ1 as1 s1 st1 e1 => ?_
  cases b1 with
  | true => rw [if_pos rfl]; exact ⟨L, F1, ρ1, as1, r, ρ', st1, e1, p.step s1⟩
  | false => rw [if_neg Bool.false_ne_true]; exact ⟨L, F1, ρ1, as1, r, ρ', st1, e1, p.step s1⟩

/-! ### subscripts -/
theorem s_ix (hu : X.A.units + 65 < cLine) (ha : PE X a (tGen X.K X.w (evE Φ G ma))) (hb : PE X b (tGen X.K X.w (evE Φ G mb))) (hs : notSlice b = true) : PE X (.Subscript a b pos) (tGen X.K X.w (evE Φ G (.ix ma mb))) := by
  refine (pe_ix (sem_ix hu) (ha.imp fun _ _ _ => tGen_val) (hb.imp fun _ _ _ => tGen_val) (notSlice_ix hs)).imp fun σ H Q h => ?_
  obtain ⟨L, F, ρ, as, r, ρ', st, e, p⟩ := h
  unfold evE at e
  refine go1 st e fun F1 H1 x d ρ1 as1 s1 st1 r1 e1 => ?_
  refine go1 st1 e1 fun F2 H2 y d2 ρ2 as2 s2 st2 r2 e2 => ?_
  obtain ⟨z, e3, rfl, rfl⟩ := oV_some e2
  exact ⟨L, F2, σ, _, as2, d, d2, _, st2, r1.mono s2.same, r2, by show (ixop d d2).map Ret.val = _; rw [e3]; rfl, (p.step s1).step s2⟩
/-- a slice's part -/
def tOpt (K : PySem.W.Frag) (w : World) (ev : Env → Option (Option Int × Env)) : TO := fun σ H Q => ∃ L F ρ as o ρ', StOk K w L F H σ ρ as ∧ ev ρ = some (o, ρ') ∧
  ∀ F' H' as', Step F H as F' H' as' → StOk K w L F' H' σ ρ' as' → Q o H'
theorem PO.imp {X : Cx} {e : Option Expr} {t t' : TO} (h : PO X e t) (i : ∀ σ H Q, t' σ H Q → t σ H Q) : PO X e t' := ⟨fun pins s σ H Q I hw => h.run pins s σ H Q I (i _ _ _ hw)⟩
theorem s_o0 : PO X none (tOpt X.K X.w (evO Φ G none)) := by
  refine PO.imp po_none fun σ H Q h => ?_
  obtain ⟨L, F, ρ, as, r, ρ', st, e, k⟩ := h
  unfold evO at e
  cases e
  exact k F H as (Step.refl _ _ _) st
theorem s_o1 (ha : PE X a (tGen X.K X.w (evE Φ G ma))) : PO X (some a) (tOpt X.K X.w (evO Φ G (some ma))) := by
  refine PO.imp (po_some (ha.imp fun _ _ _ => tGen_val)) fun σ H Q h => ?_
  obtain ⟨L, F, ρ, as, r, ρ', st, e, k⟩ := h
  unfold evO at e
  refine go1 st e fun F1 H1 x d ρ1 as1 s1 st1 r1 e1 => ?_
  split at e1
  · cases r1
    cases e1
    exact ⟨_, rfl, k F1 H1 as1 s1 st1⟩
  · cases e1
theorem s_sl {lo hi : Option Expr} {ml mh : Option E} {p2 : Pos} (ha : PE X a (tGen X.K X.w (evE Φ G ma))) (hl : PO X lo (tOpt X.K X.w (evO Φ G ml))) (hh : PO X hi (tOpt X.K X.w (evO Φ G mh))) :
    PE X (.Subscript a (.Slice lo hi none p2) pos) (tGen X.K X.w (evE Φ G (.sl ma ml mh))) := by
  refine (pe_slice sem_sl (ha.imp fun _ _ _ => tGen_val) hl hh).imp fun σ H Q h => ?_
  obtain ⟨L, F, ρ, as, r, ρ', st, e, p⟩ := h
  unfold evE at e
  refine go1 st e fun F1 H1 x d ρ1 as1 s1 st1 r1 e1 => ?_
  split at e1
  · rename_i l ρl el
    refine ⟨L, F1, ρ1, as1, l, ρl, st1, el, fun F2 H2 as2 s2 st2 => ?_⟩
    split at e1
    · rename_i u ρu eu
      refine ⟨L, F2, ρl, as2, u, ρu, st2, eu, fun F3 H3 as3 s3 st3 => ?_⟩
      obtain ⟨e3, rfl⟩ := oR_some e1
      exact ⟨L, F3, σ, _, as3, d, r, st3, (r1.mono s2.same).mono s3.same, e3, ((p.step s1).step s2).step s3⟩
    · cases e1
  · cases e1

/-! ### built-in calls -/
def bltS : Blt → Str
  | .len => "len"
  | .sum => "sum"
  | .all => "all"
  | .abs => "abs"
  | .int => "int"
  | .min => "min"
  | .tuple => "tuple"
  | .list => "list"
  | .sorted => "sorted"
theorem bltS_mem (bt : Blt) : bltS bt ∈ bltNames := by cases bt <;> decide +kernel
theorem s_blt {nm : Nm} (C : COk nm Φ G X) {bt : Blt} {es : List Expr} {ms : List E} {p : Pos} (hg : Gl X (bltS bt)) (ha : PA X (e :: es) (tLst X.K X.w (evEs Φ G ms))) (hs : (e :: es).all notStar = true) :
    PE X (.Call (.Name (bltS bt) p) (e :: es) [] pos) (tGen X.K X.w (evE Φ G (.blt bt ms))) := by
  have hm := C.blt _ (bltS_mem bt)
  simp only [List.all_cons, Bool.and_eq_true] at hs
  have key : PE X (.Call (.Name (bltS bt) p) (e :: es) [] pos) (tCB (rDs X.K X.w (bltop bt)) (tLst X.K X.w (evEs Φ G ms))) := by
    have h := sem_blt C.calm bt
    have hst := notStar_eq hs.1 es X.env
    have hpl := notStar_any hs.2 pos X.env
    cases bt with
    | len => exact pe_callB h hg hm (by decide +kernel) ha (by decide) (by decide) hst hpl
    | sum => exact pe_callB h hg hm (by decide +kernel) ha (by decide) (by decide) hst hpl
    | all => exact pe_callB h hg hm (by decide +kernel) ha (by decide) (by decide) hst hpl
    | abs => exact pe_callB h hg hm (by decide +kernel) ha (by decide) (by decide) hst hpl
    | min => exact pe_callB h hg hm (by decide +kernel) ha (by decide) (by decide) hst hpl
    | sorted => exact pe_callB h hg hm (by decide +kernel) ha (by decide) (by decide) hst hpl
    | int => exact pe_callTy h hg hm (by decide +kernel) ha (by decide) (by decide) hst hpl
    | tuple => exact pe_callTy h hg hm (by decide +kernel) ha (by decide) (by decide) hst hpl
    | list => exact pe_callTy h hg hm (by decide +kernel) ha (by decide) (by decide) hst hpl
  refine key.imp fun σ H Q h => ?_
  obtain ⟨L, F, ρ, as, r, ρ', st, e, p⟩ := h
  unfold evE at e
  refine goL st e fun F1 H1 xs ds ρ1 as1 s1 st1 r1 e1 => ?_
  obtain ⟨e3, rfl⟩ := oR_some e1
  exact ⟨L, F1, σ, _, as1, ds, r, st1, r1, e3, p.step s1⟩
def tyStr : TyN → Str
  | .str => "str"
  | .int => "int"
  | .bool => "bool"
  | .tuple => "tuple"
  | .list => "list"
theorem tyStr_mem (t : TyN) : tyStr t ∈ bltNames := by cases t <;> decide +kernel
theorem s_isi {nm : Nm} (C : COk nm Φ G X) {t : TyN} {p p2 : Pos} (hg : Gl X "isinstance") (hg2 : Gl X (tyStr t)) (ha : PE X a (tGen X.K X.w (evE Φ G ma))) (hs : notStar a = true) :
    PE X (.Call (.Name "isinstance" p) [a, .Name (tyStr t) p2] [] pos) (tGen X.K X.w (evE Φ G (.isi t ma))) := by
  have hm := C.blt "isinstance" (by decide +kernel)
  have ht : PE X (.Name (tyStr t) p2) (tC (.ty (tyS t))) := by
    have hm2 := C.blt _ (tyStr_mem t)
    cases t with
    | str => exact pe_bltn hg2 hm2 (u := .type "str") (by decide +kernel) rfl (by decide) (by decide)
    | int => exact pe_bltn hg2 hm2 (u := .type "int") (by decide +kernel) rfl (by decide) (by decide)
    | bool => exact pe_bltn hg2 hm2 (u := .type "bool") (by decide +kernel) rfl (by decide) (by decide)
    | tuple => exact pe_bltn hg2 hm2 (u := .type "tuple") (by decide +kernel) rfl (by decide) (by decide)
    | list => exact pe_bltn hg2 hm2 (u := .type "list") (by decide +kernel) rfl (by decide) (by decide)
  have hst := notStar_eq hs [.Name (tyStr t) p2] X.env
  have key : PE X (.Call (.Name "isinstance" p) [a, .Name (tyStr t) p2] [] pos) (tCB _ (tCons (tVal X.K X.w (evE Φ G ma)) (tCons (tC (.ty (tyS t))) tNil))) :=
    pe_callB (sem_isi t) hg hm (by decide +kernel) (pa_cons (ha.imp fun _ _ _ => tGen_val) (pa_cons ht pa_nil rfl) hst) (by decide) (by decide) hst rfl
  refine key.imp fun σ H Q h => ?_
  obtain ⟨L, F, ρ, as, r, ρ', st, e, p⟩ := h
  unfold evE at e
  refine go1 st e fun F1 H1 x d ρ1 as1 s1 st1 r1 e1 => ?_
  obtain ⟨z, e3, rfl, rfl⟩ := oV_some e1
  obtain ⟨bb, e4, rfl⟩ := Option.map_eq_some_iff.mp e3
  exact ⟨L, F1, σ, _, as1, x, d, bb, st1, rfl, r1, e4, (p.step s1).v st1 (.bl _)⟩
end
end BP

set_option maxRecDepth 100000
set_option maxHeartbeats 4000000
/-! Calls of defs. -/
namespace BP
open PySem PySem.Spec PyProof.Rows L2

section
variable (F : Hp) (K : PySem.W.Frag) (w : World) (σ : L2.St)
/-- the arguments behind their evaluation: a lent one is the thing in its slot -/
inductive ArgsR : List E → List V → List Slot → Prop
  | nil : ArgsR [] [] []
  | lent {i : Nat} {v : V} {es : List E} {vs : List V} {ss : List Slot} : σ[i]? = some (some v) → ArgsR es vs ss → ArgsR (.lent i :: es) (v :: vs) (.emp :: ss)
  | val {e : E} {v : V} {d : D} {es : List E} {vs : List V} {ss : List Slot} : (∀ i, e ≠ .lent i) → Rep K w F v d → ArgsR es vs ss → ArgsR (e :: es) (v :: vs) (.val d :: ss)
end
section
variable {F F' : Hp} {K : PySem.W.Frag} {w : World} {σ : L2.St}
theorem ArgsR.mono (e : Same F F') {es : List E} {vs : List V} {ss : List Slot} (h : ArgsR F K w σ es vs ss) : ArgsR F' K w σ es vs ss := by
  induction h with
  | nil => exact .nil
  | lent h _ ih => exact .lent h ih
  | val n h _ ih => exact .val n (h.mono e) ih
def tArg (K : PySem.W.Frag) (w : World) (es : List E) (ev : Env → Option (List Slot × Env)) : TA := fun σ H Q => ∃ L F ρ as ss ρ', StOk K w L F H σ ρ as ∧ ev ρ = some (ss, ρ') ∧
  ∀ F' H' vs as', Step F H as F' H' as' → StOk K w L F' H' σ ρ' as' → ArgsR F' K w σ es vs ss → Q vs H'
theorem lentSlots_val {e : E} (h : ∀ i, e ≠ .lent i) (es : List E) : lentSlots (e :: es) = lentSlots es := by
  cases e with
  | lent j => exact absurd rfl (h j)
  | _ => first | rfl | simp [lentSlots]
theorem lentIn_val {e : E} (h : ∀ i, e ≠ .lent i) (es : List E) (s : Slot) (ss : List Slot) (ρ : Env) : lentIn (e :: es) (s :: ss) ρ = (lentIn es ss ρ).map (s :: ·) := by
  cases e with
  | lent j => exact absurd rfl (h j)
  | _ => first | rfl | simp [lentIn]
theorem evAs_val {Φ : Calls} {G : Nat → Option D} {e : E} (h : ∀ i, e ≠ .lent i) (es : List E) (ρ : Env) : evAs Φ G (e :: es) ρ = bV (evE Φ G e ρ) fun d ρ => match evAs Φ G es ρ with
    | some (ss, ρ) => some (.val d :: ss, ρ)
    | none => none := by
  cases e with
  | lent j => exact absurd rfl (h j)
  | _ => first | rfl | (unfold evAs; rfl) | simp [evAs]
/-- no lent argument -/
theorem ArgsR.plain {H : Hp} {ρ : Env} : ∀ {es : List E} {vs : List V} {ss ss' : List Slot}, ArgsR F K w σ es vs ss → lentSlots es = [] → lentIn es ss ρ = some ss' → ∃ L, EnvR K w F H L (vs.map some) ss' [] ∧ L.filterMap id = []
  | _, _, _, _, .nil, _, e => by cases e; exact ⟨[], .nil, rfl⟩
  | _, _, _, _, .lent _ _, hl, _ => by cases hl
  | _, _, _, _, .val n r q, hl, e => by
    rw [lentSlots_val n] at hl
    rw [lentIn_val n] at e
    obtain ⟨s2, e1, rfl⟩ := Option.map_eq_some_iff.mp e
    obtain ⟨L, h1, h2⟩ := ArgsR.plain q hl e1
    exact ⟨none :: L, .cons (as := []) (.val r) h1, by simpa using h2⟩
/-- one lent argument -/
theorem ArgsR.one {H : Hp} {ρ : Env} {i : Nat} {a : Addr} {o : O} {m : List Addr} (hσ : σ[i]? = some (some (.ref a))) (ho : gO ρ i = some o) (hr : OwnR K w F H a o m) :
    ∀ {es : List E} {vs : List V} {ss ss' : List Slot}, ArgsR F K w σ es vs ss → lentSlots es = [i] → lentIn es ss ρ = some ss' → ∃ L, EnvR K w F H L (vs.map some) ss' m ∧ L.filterMap id = [a]
  | _, _, _, _, .nil, hl, _ => by cases hl
  | _, _, _, _, .lent (i := j) (v := v) h q, hl, e => by
    have hl : j :: lentSlots _ = [i] := hl
    obtain ⟨rfl, hl2⟩ := List.cons.inj hl
    rw [hσ] at h
    cases h
    unfold lentIn at e
    rw [ho] at e
    obtain ⟨s2, e1, rfl⟩ := Option.map_eq_some_iff.mp e
    obtain ⟨L, h1, h2⟩ := ArgsR.plain (H := H) q hl2 e1
    refine ⟨some a :: L, ?_, by simpa using h2⟩
    have := EnvR.cons (.lnt hr) h1
    rwa [List.append_nil] at this
  | _, _, _, _, .val n r q, hl, e => by
    rw [lentSlots_val n] at hl
    rw [lentIn_val n] at e
    obtain ⟨s2, e1, rfl⟩ := Option.map_eq_some_iff.mp e
    obtain ⟨L, h1, h2⟩ := ArgsR.one hσ ho hr q hl e1
    exact ⟨none :: L, .cons (as := []) (.val r) h1, by simpa using h2⟩
theorem ArgsR.has {ρ : Env} {i : Nat} : ∀ {es : List E} {vs : List V} {ss ss' : List Slot}, ArgsR F K w σ es vs ss → lentSlots es = [i] → lentIn es ss ρ = some ss' → ∃ o0, gO ρ i = some o0
  | _, _, _, _, .nil, h, _ => by cases h
  | _, _, _, _, .lent (i := j) (es := es) hs q, h1, h2 => by
    have h1 : j :: lentSlots es = [i] := h1
    obtain ⟨rfl, _⟩ := List.cons.inj h1
    unfold lentIn at h2
    split at h2
    · rename_i o0 h3; exact ⟨o0, h3⟩
    · cases h2
  | _, _, _, _, .val n _ q, h1, h2 => by
    rw [lentSlots_val n] at h1
    rw [lentIn_val n] at h2
    obtain ⟨s2, e1, rfl⟩ := Option.map_eq_some_iff.mp h2
    exact ArgsR.has q h1 e1
/-- a callee's step within the caller's -/
theorem call_frame {H F2 H2 : Hp} {A m B m2 ar : List Addr} (nd : (A ++ m ++ B).Nodup) (ad : ∀ b ∈ A ++ m ++ B, F b = none ∧ H b ≠ none) (s : Step F H m F2 H2 (m2 ++ ar)) (nd2 : (m2 ++ ar).Nodup) :
    (∀ b ∈ A ++ B, H2 b = H b ∧ F2 b = none) ∧ Step F H (A ++ m ++ B) F2 H2 ((A ++ m2 ++ B) ++ ar) ∧ ((A ++ m2 ++ B) ++ ar).Nodup := by
  have dj : ∀ b ∈ A ++ B, b ∉ m := fun b hb hm => by
    rw [List.append_assoc, List.nodup_append] at nd
    rcases List.mem_append.mp hb with h | h
    · exact nd.2.2 b h b (List.mem_append_left _ hm) rfl
    · exact (List.nodup_append.mp nd.2.1).2.2 b hm b h rfl
  have dj2 : ∀ b ∈ A ++ B, b ∉ m2 ++ ar := fun b hb h => by
    rcases s.nw b h with z | z
    · exact dj b hb z
    · exact (ad b (by rcases List.mem_append.mp hb with h | h <;> simp [h])).2 z
  refine ⟨fun b hb => ?_, ⟨s.same, fun b x e h => s.keep b x e fun z => h (by simp [z]), fun b h => ?_, fun b h => ?_⟩, ?_⟩
  · have h0 := ad b (by rcases List.mem_append.mp hb with h | h <;> simp [h])
    refine ⟨?_, ?_⟩
    · cases e : H b with
      | none => exact absurd e h0.2
      | some x => exact s.keep b x e (dj b hb)
    · cases e : F2 b with
      | none => rfl
      | some x =>
        rcases s.fre b (by rw [e]; simp) with z | z | z
        · exact absurd h0.1 z
        · exact absurd z h0.2
        · exact absurd z (dj b hb)
  · rcases s.fre b h with z | z | z
    · exact .inl z
    · exact .inr (.inl z)
    · exact .inr (.inr (by simp [z]))
  · simp only [List.mem_append] at h
    rcases h with ((h | h) | h) | h
    · exact .inl (by simp [h])
    · rcases s.nw b (List.mem_append_left _ h) with z | z
      · exact .inl (by simp [z])
      · exact .inr z
    · exact .inl (by simp [h])
    · rcases s.nw b (List.mem_append_right _ h) with z | z
      · exact .inl (by simp [z])
      · exact .inr z
  · have nAB : (A ++ B).Nodup := by
      refine nd.sublist ?_
      rw [List.append_assoc]
      exact (List.Sublist.refl A).append (List.sublist_append_right m B)
    have : ((A ++ B) ++ (m2 ++ ar)).Nodup := by
      rw [List.nodup_append]
      exact ⟨nAB, nd2, fun b hb c hc e => dj2 b hb (e ▸ hc)⟩
    refine (List.Perm.nodup_iff ?_).mp this
    rw [List.append_assoc A B, List.append_assoc, List.append_assoc]
    refine List.Perm.append_left A ?_
    rw [← List.append_assoc, ← List.append_assoc]
    exact List.Perm.append_right ar List.perm_append_comm
end

section
variable {X : Cx} {Φ : Calls} {G : Nat → Option D} {nm : Nm} {pos : Pos}
theorem s_a0 : PA X [] (tArg X.K X.w [] (evAs Φ G [])) := by
  refine pa_nil.imp fun σ H Q h => ?_
  obtain ⟨L, F, ρ, as, ds, ρ', st, e, k⟩ := h
  unfold evAs at e
  cases e
  exact k F H [] as (Step.refl _ _ _) st .nil
theorem s_aV {e : Expr} {es : List Expr} {m : E} {ms : List E} (hn : ∀ i, m ≠ .lent i) (ha : PE X e (tGen X.K X.w (evE Φ G m))) (hr : PA X es (tArg X.K X.w ms (evAs Φ G ms))) (hs : notStar e = true) :
    PA X (e :: es) (tArg X.K X.w (m :: ms) (evAs Φ G (m :: ms))) := by
  refine (pa_cons (ha.imp fun _ _ _ => tGen_val) hr (notStar_eq hs es X.env)).imp fun σ H Q h => ?_
  obtain ⟨L, F, ρ, as, ss, ρ', st, e, k⟩ := h
  rw [evAs_val hn] at e
  refine go1 st e fun F1 H1 x d ρ1 as1 s1 st1 r1 e1 => ?_
  split at e1
  · rename_i s2 ρ2 e2
    cases e1
    exact ⟨L, F1, ρ1, as1, s2, _, st1, e2, fun F2 H2 vs as2 st2 st3 r => k F2 H2 _ as2 (s1.trans st2) st3 (.val hn (r1.mono st2.same) r)⟩
  · cases e1
theorem s_aL {i : Nat} {x : Str} {es : List Expr} {ms : List E} {p : Pos} (hN : X.N[i]? = some x) (hv : Vis X.env.scope x) (ho : okN x = true) (hr : PA X es (tArg X.K X.w ms (evAs Φ G ms))) :
    PA X (.Name x p :: es) (tArg X.K X.w (.lent i :: ms) (evAs Φ G (.lent i :: ms))) := by
  refine (pa_cons (pe_var hN hv (okN_of ho).1 (okN_of ho).2.1) hr (notStar_eq rfl es X.env)).imp fun σ H Q h => ?_
  obtain ⟨L, F, ρ, as, ss, ρ', st, e, k⟩ := h
  unfold evAs at e
  split at e
  · rename_i ht
    obtain ⟨o, hgo⟩ : ∃ o, gO ρ i = some o := by
      unfold gO
      unfold isThing at ht
      cases hg : get ρ i with
      | emp => rw [hg] at ht; cases ht
      | val d => rw [hg] at ht; cases ht
      | own o => exact ⟨o, rfl⟩
      | lnt o => exact ⟨o, rfl⟩
    obtain ⟨a, A, m, B, e1, e2, _⟩ := st.env.thing hgo
    refine ⟨_, e2, ?_⟩
    split at e
    · rename_i s2 ρ2 e3
      cases e
      exact ⟨L, F, ρ, as, s2, _, st, e3, fun F2 H2 vs as2 st2 st3 r => k F2 H2 _ as2 st2 st3 (.lent e2 r)⟩
    · cases e
  · cases e
theorem go_call {f : Nat} {ms : List E} {L : List (Option Addr)} {F H : Hp} {σ : L2.St} {ρ ρ' : Env} {as : List Addr} {r : Ret} {Q : VK} {EX : XK} (st : StOk X.K X.w L F H σ ρ as) (e : evE Φ G (.call f ms) ρ = some (r, ρ')) (p : Post X.K X.w L F H as σ ρ' r Q) :
    tCall (spF X.K X.w Φ f) [] EX (tArg X.K X.w ms (evAs Φ G ms)) σ H Q := by
  unfold evE at e
  split at e
  · rename_i ss ρ1 e1
    refine ⟨L, F, ρ, as, ss, ρ1, st, e1, fun F1 H1 vs as1 s1 st1 ar => ?_⟩
    show spF X.K X.w Φ f (vs ++ []) H1 Q EX
    rw [List.append_nil]
    split at e
    · rename_i ss2 e2
      split at e
      · rename_i r2 o2 e3
        split at e
        · rename_i ρ2 e4
          cases e
          unfold outsTo at e4
          split at e4
          · rename_i hl
            cases e4
            obtain ⟨L2, h1, h2⟩ := ar.plain (H := H1) (by simpa using hl) e2
            refine ⟨L2, F1, ss2, [], r, none, ⟨st1.sub, h1, .nil⟩, by rw [h2]; simp, e3, fun F' H' v as' ar' s2 sm ou rr nd => ?_⟩
            obtain rfl : as' = [] := by cases ou; rfl
            obtain ⟨k1, k2, k3⟩ := call_frame (A := as1) (m := []) (B := []) (m2 := []) (ar := ar') (F := F1) (H := H1) (by simpa using st1.nd) (by simpa using st1.env.ad) s2 nd
            simp only [List.append_nil] at k1 k2 k3
            exact (p.step s1) F' H' v as1 ar' k2 sm (st1.env.mono s2.same k1) rr k3
          · rename_i i o hl
            cases e4
            -- the lent thing
            obtain ⟨o0, hgo⟩ := ar.has hl e2
            obtain ⟨a, A, m, B, x1, x2, x3, x4, _, _⟩ := st1.env.thing hgo
            subst x1
            obtain ⟨L2, h1, h2⟩ := ar.one x2 hgo x3 hl e2
            have ndm : m.Nodup := by
              have := st1.nd
              rw [List.append_assoc, List.nodup_append] at this
              exact (List.nodup_append.mp this.2.1).1
            refine ⟨L2, F1, ss2, m, r, some o, ⟨st1.sub, h1, ndm⟩, by rw [h2]; simp, e3, fun F' H' v as' ar' s2 sm ou rr nd => ?_⟩
            obtain ⟨k1, k2, k3⟩ := call_frame st1.nd st1.env.ad s2 nd
            cases ou with
            | some ha ho =>
              rw [h2] at ha
              obtain ⟨rfl, _⟩ := List.cons.inj ha
              exact (p.step s1) F' H' v _ ar' k2 sm (x4 F' H' o as' s2.same k1 ho) rr k3
          · cases e4
        · cases e
      · cases e
    · cases e
  · cases e
theorem s_call {f : Nat} {e : Expr} {es : List Expr} {ms : List E} {p : Pos} (C : COk nm Φ G X) (hg : Gl X (nm.fn f)) (ho : okN (nm.fn f) = true) (ha : PA X (e :: es) (tArg X.K X.w ms (evAs Φ G ms))) (hs : (e :: es).all notStar = true) :
    PE X (.Call (.Name (nm.fn f) p) (e :: es) [] pos) (tGen X.K X.w (evE Φ G (.call f ms))) := by
  refine ⟨fun pins s σ H Q I h => ?_⟩
  obtain ⟨L, F, ρ, as, r, ρ', st, e0, p0⟩ := h
  have hc : ∃ ss r, Φ f ss = some r := by
    have e1 := e0
    unfold evE at e1
    split at e1
    · split at e1
      · split at e1
        · rename_i h; exact ⟨_, _, h⟩
        · cases e1
      · cases e1
    · cases e1
  obtain ⟨ss, r1, hf⟩ := hc
  obtain ⟨k, hr, fa, fd, ps, ds, F1, h1, h2, h3, h4⟩ := C.cal f ss r1 hf
  simp only [List.all_cons, Bool.and_eq_true] at hs
  cases h4
  exact (pe_call (E := fun _ _ _ => False) (CX := C8.CX0) (dvs := []) F1 hr hg h1 h2 h3 .nil C8.pass0 ha (okN_of ho).1 (notStar_eq hs.1 es X.env) (notStar_any hs.2 pos X.env)).run pins s σ H Q I (go_call st e0 p0)
theorem s_call0 {f : Nat} {p : Pos} (C : COk nm Φ G X) (hg : Gl X (nm.fn f)) (ho : okN (nm.fn f) = true) :
    PE X (.Call (.Name (nm.fn f) p) [] [] pos) (tGen X.K X.w (evE Φ G (.call f []))) := by
  refine ⟨fun pins s σ H Q I h => ?_⟩
  obtain ⟨L, F, ρ, as, r, ρ', st, e0, p0⟩ := h
  have hc : ∃ ss r, Φ f ss = some r := by
    have e1 := e0
    unfold evE at e1
    split at e1
    · split at e1
      · split at e1
        · rename_i h; exact ⟨_, _, h⟩
        · cases e1
      · cases e1
    · cases e1
  obtain ⟨ss, r1, hf⟩ := hc
  obtain ⟨k, hr, fa, fd, ps, ds, F1, h1, h2, h3, h4⟩ := C.cal f ss r1 hf
  cases h4
  refine (pe_call0 (E := fun _ _ _ => False) (CX := C8.CX0) (dvs := []) F1 hr hg h1 h2 h3 .nil C8.pass0 (okN_of ho).1).run pins s σ H Q I ?_
  have := go_call (EX := fun _ _ _ => False) st e0 p0
  obtain ⟨L1, F1, ρ1, as1, ss1, ρ1', st1, e1, k1⟩ := this
  unfold evAs at e1
  cases e1
  exact k1 F1 H [] as1 (Step.refl _ _ _) st1 .nil
end
end BP

set_option maxRecDepth 100000
set_option maxHeartbeats 4000000
/-! Targets; what is walked. -/
namespace BP
open PySem PySem.Spec PyProof.Rows L2

/-! ### targets -/
mutual
/-- lc: the names that may be stored -/
def chkTg (N : List Str) (lc : Str → Bool) : Tg → Expr → Bool
  | .nm i, .Name x _ => (N[i]? == some x) && lc x
  | .tp ts, .Tuple es _ _ => chkTgs N lc ts es
  | _, _ => false
def chkTgs (N : List Str) (lc : Str → Bool) : List Tg → List Expr → Bool
  | [], [] => true
  | t :: ts, e :: es => chkTg N lc t e && chkTgs N lc ts es
  | _, _ => false
end
theorem chkTg_star {N : List Str} {lc : Str → Bool} : ∀ {t : Tg} {e : Expr}, chkTg N lc t e = true → notStar e = true
  | .nm i, e, h => by cases e <;> first | rfl | (unfold chkTg at h; cases h)
  | .tp ts, e, h => by cases e <;> first | rfl | (unfold chkTg at h; cases h)
theorem notStar_asg {e : Expr} (h : notStar e = true) (es : List Expr) (env : PySem.Env) : assignEach (e :: es) env = (false, assign e env) :: assignEach es env := by
  cases e with
  | Starred => cases h
  | _ => rfl
theorem chkTgs_asg {N : List Str} {lc : Str → Bool} (env : PySem.Env) : ∀ {ts : List Tg} {es : List Expr}, chkTgs N lc ts es = true → (assignEach es env).length = ts.length ∧ (assignEach es env).findIdx? (·.1) = none
  | [], [], _ => ⟨rfl, rfl⟩
  | [], _ :: _, h => by unfold chkTgs at h; cases h
  | _ :: _, [], h => by unfold chkTgs at h; cases h
  | t :: ts, e :: es, h => by
    unfold chkTgs at h
    rw [Bool.and_eq_true] at h
    obtain ⟨h1, h2⟩ := chkTgs_asg env h.2
    rw [notStar_asg (chkTg_star h.1)]
    exact ⟨by simp [h1], by simp [List.findIdx?_cons, h2]⟩

section
variable (K : PySem.W.Frag) (w : World)
def tgEnd (L : List (Option Addr)) (F H : Hp) (as : List Addr) (σ : L2.St) (ρ' : Env) (vs : List Nat) (Q : L2.St → Hp → Prop) : Prop :=
  ∀ σ' as', Step F H as F H as' → StOk K w L F H σ' ρ' as' → (∀ us : List Nat, (∀ i ∈ vs, i ∈ us) → wipe σ' us = wipe σ us) → Q σ' H
def gTg (t : Tg) : TG := fun v σ H Q => ∃ L F ρ as d ρ', StOk K w L F H σ ρ as ∧ Rep K w F v d ∧ asg t d ρ = some ρ' ∧ tgEnd K w L F H as σ ρ' t.slots Q
def gTgs (ts : List Tg) : TGs := fun vs σ H Q => ∃ L F ρ as ds ρ', StOk K w L F H σ ρ as ∧ Reps K w F vs ds ∧ asgs ts ds ρ = some ρ' ∧ tgEnd K w L F H as σ ρ' (Tg.slotss ts) Q
end
theorem PG.imp {X : Cx} {e : Expr} {t t' : TG} (h : PG X e t) (i : ∀ v σ H Q, t' v σ H Q → t v σ H Q) : PG X e t' := ⟨fun pins s σ H v u Q I r hw => h.run pins s σ H v u Q I r (i _ _ _ _ hw)⟩
theorem PGs.imp {X : Cx} {e : List Expr} {t t' : TGs} (h : PGs X e t) (i : ∀ v σ H Q, t' v σ H Q → t v σ H Q) : PGs X e t' := ⟨fun pins s σ H v u Q I r hw => h.run pins s σ H v u Q I r (i _ _ _ _ hw)⟩
section
variable {X : Cx} {lc : Str → Bool}
theorem s_nm (hN : X.N.Nodup) {i : Nat} {x : Str} {p : Pos} (hi : X.N[i]? = some x) (hx : Loc X.env.scope x) (hf : X.fn x = true ∨ X.env.scope.names.lookup x = some .local) : PG X (.Name x p) (gTg X.K X.w (.nm i)) := by
  refine PG.imp (pg_name hN hi hx hf) fun v σ H Q h => ?_
  obtain ⟨L, F, ρ, as, d, ρ', st, r, e, k⟩ := h
  unfold asg at e
  obtain ⟨as', h1, h2, h3⟩ := st.env.store_val st.nd e r
  exact k _ as' ⟨Same.refl F, fun _ _ e _ => e, fun _ h => .inl h, fun b hb => .inl (h2 b hb)⟩ ⟨st.sub, h1, h3⟩ fun us h => wipe_set (h i (by simp [Tg.slots]))
mutual
theorem s_tg (hc : X.calm = true) (hN : X.N.Nodup) (hl : ∀ x, lc x = true → Loc X.env.scope x ∧ (X.fn x = true ∨ X.env.scope.names.lookup x = some .local)) : ∀ {t : Tg} {e : Expr}, chkTg X.N lc t e = true → PG X e (gTg X.K X.w t)
  | .nm i, e, h => by
    cases e with
    | Name x p =>
      unfold chkTg at h
      simp only [Bool.and_eq_true, beq_iff_eq] at h
      obtain ⟨h2, h3⟩ := hl x h.2
      exact s_nm hN h.1 h2 h3
    | _ => (unfold chkTg at h; cases h)
  | .tp ts, e, h => by
    cases e with
    | Tuple es k p =>
      unfold chkTg at h
      have ih := s_tgs hc hN hl h
      obtain ⟨h1, h2⟩ := chkTgs_asg X.env h
      refine ⟨fun pins s σ H v u Q I r hw => ?_⟩
      obtain ⟨L, F, ρ, as, d, ρ', st, rp, e, kk⟩ := hw
      have len : ∀ {ts : List Tg} {ds : List D} {ρ ρ' : Env}, asgs ts ds ρ = some ρ' → ds.length = ts.length := by
        intro ts
        induction ts with
        | nil => intro ds ρ ρ' h; cases ds with
          | nil => rfl
          | cons => unfold asgs at h; cases h
        | cons t ts ih => intro ds ρ ρ' h; cases ds with
          | nil => unfold asgs at h; cases h
          | cons d ds =>
            unfold asgs at h
            obtain ⟨ρ1, _, h2⟩ := Option.bind_eq_some_iff.mp h
            simp [ih h2]
      cases rp with
      | tup ha ra =>
        unfold asg at e
        exact (pg_tup hc ih h1 h2).run pins s σ H _ u Q I r ⟨_, _, rfl, Same.seqT st.sub ha, by rw [ra.length]; exact len e, L, F, ρ, as, _, ρ', st, ra, e, kk⟩
      | lst ha ra =>
        unfold asg at e
        exact (pg_unl hc ih h1 h2).run pins s σ H _ u Q I r ⟨_, _, rfl, .of (st.sub _ _ ha), by rw [ra.length]; exact len e, L, F, ρ, as, _, ρ', st, ra, e, kk⟩
      | _ => (unfold asg at e; cases e)
    | _ => (unfold chkTg at h; cases h)
theorem s_tgs (hc : X.calm = true) (hN : X.N.Nodup) (hl : ∀ x, lc x = true → Loc X.env.scope x ∧ (X.fn x = true ∨ X.env.scope.names.lookup x = some .local)) : ∀ {ts : List Tg} {es : List Expr}, chkTgs X.N lc ts es = true → PGs X es (gTgs X.K X.w ts)
  | [], [], _ => by
    refine PGs.imp pgs_nil fun v σ H Q h => ?_
    obtain ⟨L, F, ρ, as, ds, ρ', st, r, e, k⟩ := h
    cases r with
    | nil =>
      unfold asgs at e
      cases e
      exact ⟨rfl, k σ as (Step.refl _ _ _) st fun _ _ => rfl⟩
    | cons _ _ => unfold asgs at e; cases e
  | [], _ :: _, h => by unfold chkTgs at h; cases h
  | _ :: _, [], h => by unfold chkTgs at h; cases h
  | t :: ts, e :: es, h => by
    unfold chkTgs at h
    rw [Bool.and_eq_true] at h
    refine PGs.imp (pgs_cons (s_tg hc hN hl h.1) (s_tgs hc hN hl h.2) (by rw [notStar_asg (chkTg_star h.1)]; rfl)) fun v σ H Q hh => ?_
    obtain ⟨L, F, ρ, as, ds, ρ', st, r, e, k⟩ := hh
    cases r with
    | nil => unfold asgs at e; cases e
    | cons r1 r2 =>
      unfold asgs at e
      obtain ⟨ρ1, e1, e2⟩ := Option.bind_eq_some_iff.mp e
      refine ⟨_, _, rfl, L, F, ρ, as, _, ρ1, st, r1, e1, fun σ1 as1 s1 st1 w1 => ?_⟩
      refine ⟨L, F, ρ1, as1, _, ρ', st1, r2, e2, fun σ2 as2 s2 st2 w2 => k σ2 as2 (s1.trans s2) st2 fun us hu => ?_⟩
      rw [w2 us fun i hi => hu i (by simp [Tg.slotss, hi]), w1 us fun i hi => hu i (by simp [Tg.slotss, hi])]
end
end

/-! ### what is walked -/
section
variable (K : PySem.W.Frag) (w : World)
/-- an item comes: it stands already, or it is a new tuple -/
def YD (F0 : Hp) (ds : List D) (i : Nat) (H : Hp) (x : V) (H' : Hp) : Prop :=
  (H' = H ∧ ∃ d, ds[i]? = some d ∧ Rep K w F0 x d) ∨ ∃ q xs es, H q = none ∧ H' = upd H q (.tup xs) ∧ x = .ref q ∧ Reps K w F0 xs es ∧ ds[i]? = some (.tup es)
def WalkD (J : L2.It) (F0 : Hp) (ds : List D) : Prop := Walk J ds.length (fun H => Same F0 H) (YD K w F0 ds)
def tIt (ev : Env → Option (List D × Env)) : TI := fun σ H R => ∃ L F ρ as ds ρ', StOk K w L F H σ ρ as ∧ ev ρ = some (ds, ρ') ∧
  ∀ F' H' as' J, Step F H as F' H' as' → StOk K w L F' H' σ ρ' as' → WalkD K w J F' ds → R J H'
end
theorem PI.imp {X : Cx} {tg e : Expr} {t t' : TI} (h : PI X tg e t) (i : ∀ σ H R, t' σ H R → t σ H R) : PI X tg e t' := ⟨fun pins s σ H R I hw => h.run pins s σ H R I (i _ _ _ hw)⟩
section
variable {K : PySem.W.Frag} {w : World} {F0 : Hp} {a : Addr} {xs : List V} {ds : List D}
theorem yd_at (r : Reps K w F0 xs ds) {i : Nat} {H : Hp} {x : V} {H' : Hp} (y : YAt xs i H x H') : YD K w F0 ds i H x H' := by
  obtain ⟨rfl, y⟩ := y
  obtain ⟨d, h1, h2⟩ := r.get' y
  exact .inl ⟨rfl, d, h1, h2⟩
theorem wd_list (h : F0 a = some (.lst xs)) (r : Reps K w F0 xs ds) : WalkD K w (Itl K a) F0 ds := by
  have := (walk_list (K := K) (a := a) (xs := xs)).mono (G' := fun H => Same F0 H) (Y' := YD K w F0 ds) (fun H s => .of (s _ _ h)) fun i H x H' _ _ y => yd_at r y
  rw [r.length] at this
  exact this
theorem wd_tup (h : SqT K F0 a xs) (r : Reps K w F0 xs ds) : WalkD K w (Itt K a) F0 ds := by
  have := (walk_tup (K := K) (a := a) (xs := xs)).mono (G' := fun H => Same F0 H) (Y' := YD K w F0 ds) (fun H s => Same.seqT s h) fun i H x H' _ _ y => yd_at r y
  rw [r.length] at this
  exact this
theorem enum_get : ∀ (ds : List D) (n i : Nat) (d : D), ds[i]? = some d → (enumD ds n)[i]? = some (.tup [.int ((n + i : Nat) : Int), d])
  | [], _, i, d, h => by simp at h
  | x :: ds, n, 0, d, h => by
    simp at h
    subst h
    simp [enumD]
  | x :: ds, n, i + 1, d, h => by
    have := enum_get ds (n + 1) i d (by simpa using h)
    simp only [enumD, List.getElem?_cons_succ]
    rw [this, show n + 1 + i = n + (i + 1) by omega]
theorem enum_len : ∀ (ds : List D) (n : Nat), (enumD ds n).length = ds.length
  | [], _ => rfl
  | x :: ds, n => by simp [enumD, enum_len ds (n + 1)]
theorem wd_enum (h : F0 a = some (.lst xs)) (r : Reps K w F0 xs ds) : WalkD K w (Ite K a) F0 (enumD ds 0) := by
  have := (walk_enum (K := K) (a := a) (xs := xs)).mono (G' := fun H => Same F0 H) (Y' := YD K w F0 (enumD ds 0)) (fun H s => .of (s _ _ h)) fun i H x H' _ _ y => by
    obtain ⟨T, u, v, h1, h2, h3, h4, h5⟩ := y
    obtain ⟨d, h6, h7⟩ := r.get' h5
    have h4 : some (V.int (i : Nat)) = some u := h4
    cases h4
    refine .inr ⟨T, _, [.int i, d], h2, h3, h1, .cons (.int _) (.cons h7 .nil), ?_⟩
    have := enum_get ds 0 i d h6
    rwa [Nat.zero_add] at this
  rw [r.length, ← enum_len ds 0] at this
  exact this
theorem wd_range (lo : Int) (n : Nat) : WalkD K w (Itr lo n) F0 (rangeD lo n) := by
  have := (walk_range (lo := lo) (n := n)).mono (G' := fun H => Same F0 H) (Y' := YD K w F0 (rangeD lo n)) (fun H s => True.intro) fun i H x H' hi _ y => by
    obtain ⟨rfl, rfl⟩ := y
    exact .inl ⟨rfl, .int (lo + i), by simp [rangeD, hi], .int _⟩
  unfold WalkD
  rw [show (rangeD lo n).length = n by simp [rangeD]]
  exact this
theorem wd_str (z : List Nat) : WalkD K w (Its (toStr z)) F0 (z.map fun c => .str [c]) := by
  have := (walk_str (z := toStr z)).mono (G' := fun H => Same F0 H) (Y' := YD K w F0 (z.map fun c => .str [c])) (fun H s => True.intro) fun i H x H' hi _ y => by
    obtain ⟨rfl, c, h1, rfl⟩ := y
    refine .inl ⟨rfl, .str [c], ?_, .str [c]⟩
    have h1 : z[i]? = some c := by simpa [toStr] using h1
    simp [h1]
  rw [show (toStr z).cps.size = (z.map fun c => D.str [c]).length by simp [toStr]] at this
  exact this
end
def noSet : Expr → Bool
  | .Set .. => false
  | _ => true
theorem noSet_fold {e : Expr} (h : noSet e = true) (env : PySem.Env) (x : Value) : foldedSetIterable e env x = pure x := by
  cases e with
  | Set => cases h
  | _ => rfl
def isTup : Expr → Bool
  | .Tuple .. => true
  | _ => false
section
variable {X : Cx} {Φ : Calls} {G : Nat → Option D} {nm : Nm} {tg a b : Expr} {ma mb : E} {p pos : Pos}
theorem s_seq (ha : PE X a (tGen X.K X.w (evE Φ G ma))) : PI X tg a (tIt X.K X.w (evI Φ G (.seq ma))) := by
  have ha' := ha.imp fun _ _ _ => tGen_val
  refine ⟨fun pins s σ H R I h => ?_⟩
  obtain ⟨L, F, ρ, as, ds, ρ', st, e, k⟩ := h
  unfold evI at e
  obtain ⟨r, ρ1, e1, e2⟩ := bV_some e
  split at e2
  · rename_i zs hz
    cases e2
    refine (pi_list ha').run pins s σ H R I ?_
    refine ⟨L, F, ρ, as, r, _, st, e1, fun F' H' v as' s' st' rp => ?_⟩
    rw [hz] at rp
    cases rp with
    | lst hf rr => exact ⟨_, rfl, ⟨_, .of (st'.sub _ _ hf)⟩, k F' H' as' _ s' st' (wd_list hf rr)⟩
  · rename_i zs hz
    cases e2
    refine (pi_tup ha').run pins s σ H R I ?_
    refine ⟨L, F, ρ, as, r, _, st, e1, fun F' H' v as' s' st' rp => ?_⟩
    rw [hz] at rp
    cases rp with
    | tup hf rr => exact ⟨_, rfl, ⟨_, Same.seqT st'.sub hf⟩, k F' H' as' _ s' st' (wd_tup hf rr)⟩
  · rename_i zs hz
    cases e2
    refine (pi_str ha').run pins s σ H R I ?_
    refine ⟨L, F, ρ, as, r, _, st, e1, fun F' H' v as' s' st' rp => ?_⟩
    rw [hz] at rp
    cases rp with
    | str => exact ⟨_, rfl, k F' H' as' _ s' st' (wd_str _)⟩
  · cases e2
theorem s_sgn (ha : PE X a (tGen X.K X.w (evE Φ G ma))) : PI X tg a (tIt X.K X.w (evI Φ G (.sgn ma))) := by
  have ha' := ha.imp fun _ _ _ => tGen_val
  refine PI.imp (pi_str ha') fun σ H R h => ?_
  obtain ⟨L, F, ρ, as, ds, ρ', st, e, k⟩ := h
  unfold evI at e
  refine go1 st e fun F1 H1 x d ρ1 as1 s1 st1 r1 e1 => ?_
  split at e1
  · cases e1
    cases r1
    exact ⟨_, rfl, k F1 H1 as1 _ s1 st1 (wd_str _)⟩
  · cases e1
theorem small62_of {i : Int} (h : small62 i = true) : -(2 ^ 62) ≤ i ∧ i < 2 ^ 62 := by
  unfold small62 at h
  simpa using h
theorem s_rng (C : COk nm Φ G X) (hg : Gl X "range") (ha : PE X a (tGen X.K X.w (evE Φ G ma))) (hs : notStar a = true) : PI X tg (.Call (.Name "range" p) [a] [] pos) (tIt X.K X.w (evI Φ G (.rng ma))) := by
  have ha' := ha.imp fun _ _ _ => tGen_val
  refine PI.imp (pi_range1 hg (C.blt "range" (by decide +kernel)) (pa_cons ha' pa_nil (notStar_eq hs [] X.env)) (notStar_eq hs [] X.env)) fun σ H R h => ?_
  obtain ⟨L, F, ρ, as, ds, ρ', st, e, k⟩ := h
  unfold evI at e
  refine go1 st e fun F1 H1 x d ρ1 as1 s1 st1 r1 e1 => ?_
  split at e1
  · split at e1
    · rename_i hn
      cases e1
      cases r1
      have := small62_of hn
      exact ⟨_, rfl, this.1, this.2, k F1 H1 as1 _ s1 st1 (wd_range 0 _)⟩
    · cases e1
  · cases e1
theorem s_rng2 (C : COk nm Φ G X) (hg : Gl X "range") (ha : PE X a (tGen X.K X.w (evE Φ G ma))) (hb : PE X b (tGen X.K X.w (evE Φ G mb))) (hs : notStar a = true) (hs2 : notStar b = true) : PI X tg (.Call (.Name "range" p) [a, b] [] pos) (tIt X.K X.w (evI Φ G (.rng2 ma mb))) := by
  have ha' := ha.imp fun _ _ _ => tGen_val
  have hb' := hb.imp fun _ _ _ => tGen_val
  refine PI.imp (pi_range2 hg (C.blt "range" (by decide +kernel)) (pa_cons ha' (pa_cons hb' pa_nil (notStar_eq hs2 [] X.env)) (notStar_eq hs [b] X.env)) (by rw [notStar_eq hs, notStar_eq hs2]; rfl) (notStar_eq hs2 [] X.env)) fun σ H R h => ?_
  obtain ⟨L, F, ρ, as, ds, ρ', st, e, k⟩ := h
  unfold evI at e
  refine go1 st e fun F1 H1 x d ρ1 as1 s1 st1 r1 e1 => ?_
  refine go1 st1 e1 fun F2 H2 y d2 ρ2 as2 s2 st2 r2 e2 => ?_
  split at e2
  · split at e2
    · rename_i hn
      cases e2
      cases r1
      cases r2
      rw [Bool.and_eq_true] at hn
      have z1 := small62_of hn.1
      have z2 := small62_of hn.2
      exact ⟨_, _, rfl, ⟨z1.1, z1.2, z2.1, z2.2⟩, k F2 H2 as2 _ (s1.trans s2) st2 (wd_range _ _)⟩
    · cases e2
  · cases e2
end
end BP

set_option maxRecDepth 100000
set_option maxHeartbeats 4000000
/-! Comprehensions. -/
namespace BP
open PySem PySem.Spec PyProof.Rows L2

section
variable {K : PySem.W.Frag} {w : World}
/-- the heap behind an item's coming -/
theorem yd_use {L : List (Option Addr)} {F0 F H H' : Hp} {σ : L2.St} {ρ : Env} {as : List Addr} {ds : List D} {i : Nat} {x : V} (sm : Same F0 F) (st : StOk K w L F H σ ρ as) (y : YD K w F0 ds i H x H') :
    ∃ F2 d, Step F H as F2 H' as ∧ StOk K w L F2 H' σ ρ as ∧ ds[i]? = some d ∧ Rep K w F2 x d := by
  rcases y with ⟨rfl, d, h1, h2⟩ | ⟨q, xs, es, h1, rfl, rfl, h2, h3⟩
  · exact ⟨F, d, Step.refl _ _ _, st, h1, h2.mono sm⟩
  · have hs := Step.newF (as := as) (o := .tup xs) h1 (same_F st.sub h1)
    exact ⟨upd F q (.tup xs), .tup es, hs, st.newF h1, h3, .tup (.of upd_same) ((h2.mono sm).mono hs.same)⟩
/-- an object apart through a step -/
theorem apart {F H F' H' : Hp} {as as' : List Addr} {q : Addr} {o : HO} (s : Step F H as F' H' as') (h : H q = some o) (hf : F q = none) (hn : q ∉ as) : H' q = some o ∧ F' q = none ∧ q ∉ as' := by
  refine ⟨s.keep q o h hn, ?_, fun z => ?_⟩
  · cases e : F' q with
    | none => rfl
    | some x =>
      rcases s.fre q (by rw [e]; simp) with z | z | z
      · exact absurd hf z
      · rw [h] at z; cases z
      · exact absurd z hn
  · rcases s.nw q z with z | z
    · exact hn z
    · rw [h] at z; cases z
theorem step_apart {F H F' H' : Hp} {as as' : List Addr} {q : Addr} {o : HO} (s : Step F H as F' H' as') : Step F H (as ++ [q]) F' (upd H' q o) (as' ++ [q]) := by
  refine ⟨s.same, fun b x e h => ?_, fun b h => ?_, fun b h => ?_⟩
  · have hb : b ≠ q := fun z => h (by simp [z])
    rw [upd_ne hb]
    exact s.keep b x e fun z => h (by simp [z])
  · rcases s.fre b h with z | z | z
    · exact .inl z
    · exact .inr (.inl z)
    · exact .inr (.inr (by simp [z]))
  · rcases List.mem_append.mp h with h | h
    · rcases s.nw b h with z | z
      · exact .inl (by simp [z])
      · exact .inr z
    · exact .inl (by simp at h; simp [h])
theorem step_apart0 {F H F' H' : Hp} {as as' : List Addr} {q : Addr} {o : HO} (s : Step F H as F' H' as') (h : H q = some o) (hn : q ∉ as) : Step F H (as ++ [q]) F' H' (as' ++ [q]) := by
  have := step_apart (o := o) s (q := q)
  have e : upd H' q o = H' := by
    funext b
    by_cases hb : b = q
    · subst hb; rw [upd_same, s.keep b o h hn]
    · rw [upd_ne hb]
  rwa [e] at this
theorem StOk.updA {L : List (Option Addr)} {F H : Hp} {σ : L2.St} {ρ : Env} {as : List Addr} {q : Addr} {o : HO} (st : StOk K w L F H σ ρ as) (hf : F q = none) (hn : q ∉ as) : StOk K w L F (upd H q o) σ ρ as := by
  refine ⟨fun b x e => ?_, st.env.mono (Same.refl F) fun b hb => ?_, st.nd⟩
  · rw [upd_ne (ne_of_none e hf)]; exact st.sub b x e
  · have hb' : b ≠ q := fun z => hn (z ▸ hb)
    rw [upd_ne hb']
    exact ⟨rfl, (st.env.ad b hb).1⟩
theorem wipe_wipe (σ : L2.St) (vs : List Nat) : wipe (wipe σ vs) vs = wipe σ vs := by
  apply List.ext_getElem?
  intro j
  rw [wipe_get, wipe_get]
  cases σ[j]? with
  | none => rfl
  | some x => by_cases h : j ∈ vs <;> simp [h]
def tCs (K : PySem.W.Frag) (w : World) (ev : Env → Option (Bool × Env)) : TT := fun σ H Q => ∃ L F ρ as b ρ', StOk K w L F H σ ρ as ∧ ev ρ = some (b, ρ') ∧
  ∀ F' H' as', Step F H as F' H' as' → StOk K w L F' H' σ ρ' as' → Q b H'
theorem PTs.imp {X : Cx} {ifs : List Expr} {t t' : TT} (h : PTs X ifs t) (i : ∀ σ H Q, t' σ H Q → t σ H Q) : PTs X ifs t' := ⟨fun pins s σ H Q I hw => h.run pins s σ H Q I (i _ _ _ hw)⟩
theorem wipeC_some {vs : List Nat} {ρ ρ' : Env} (h : wipeC vs ρ = some ρ') : (vs.all fun v => !isThing (get ρ v)) = true ∧ ρ' = wipeE vs 0 ρ := by
  unfold wipeC at h
  split at h
  · rename_i hh
    cases h
    exact ⟨hh, rfl⟩
  · cases h
theorem addR_some {α : Type} {x y : α} {o : Option Env} {ρ : Env} (h : addR x o = some (y, ρ)) : x = y ∧ o = some ρ := by
  cases o with
  | none => cases h
  | some r => cases h; exact ⟨rfl, rfl⟩
end

section
variable {X : Cx} {Φ : Calls} {G : Nat → Option D}
theorem s_c0 : PTs X [] (tCs X.K X.w (evCs Φ G [])) := by
  refine PTs.imp pts_nil fun σ H Q h => ?_
  obtain ⟨L, F, ρ, as, b, ρ', st, e, k⟩ := h
  unfold evCs at e
  cases e
  exact k F H as (Step.refl _ _ _) st
theorem s_c1 {c : Expr} {m : E} (hc : PT X c (tTst X.K X.w (evE Φ G m))) : PTs X [c] (tCs X.K X.w (evCs Φ G [m])) := by
  refine PTs.imp (pts_one hc) fun σ H Q h => ?_
  obtain ⟨L, F, ρ, as, b, ρ', st, e, k⟩ := h
  unfold evCs at e
  refine goT st e (fun d ρ1 h => by cases d <;> first | exact ⟨_, rfl⟩ | cases h) fun F1 H1 b1 ρ1 as1 s1 st1 e1 => ?_
  cases e1
  exact k F1 H1 as1 s1 st1
theorem drop_cons {α : Type} {l : List α} {i : Nat} {d : α} (h : l[i]? = some d) : l.drop i = d :: l.drop (i + 1) := by
  obtain ⟨h1, h2⟩ := List.getElem?_eq_some_iff.mp h
  rw [List.drop_eq_getElem_cons h1, h2]
def compF (Φ : Calls) (G : Nat → Option D) (m : E) (tgm : Tg) (conds : List E) : D → Env → Option (List D × Env) := fun d ρ => match asg tgm d ρ with
  | some ρ => match evCs Φ G conds ρ with
    | some (true, ρ) => bV (evE Φ G m ρ) fun y ρ => addR [y] (wipeC tgm.slots ρ)
    | some (false, ρ) => addR [] (wipeC tgm.slots ρ)
    | none => none
  | none => none
theorem go_comp {m : E} {tgm : Tg} {it : It} {conds : List E} {L : List (Option Addr)} {F H : Hp} {σ : L2.St} {ρ ρ' : Env} {as : List Addr} {r : Ret} {Q : VK} (st : StOk X.K X.w L F H σ ρ as) (e : evE Φ G (.comp m tgm it conds) ρ = some (r, ρ')) (p : Post X.K X.w L F H as σ ρ' r Q) :
    tLc (tIt X.K X.w (evI Φ G it)) (gTg X.K X.w tgm) (tCs X.K X.w (evCs Φ G conds)) (tVal X.K X.w (evE Φ G m)) tgm.slots σ H Q := by
  unfold evE at e
  split at e
  · rename_i ds ρ1 e1
    split at e
    · rename_i hcond
      rw [Bool.and_eq_true] at hcond
      split at e
      · rename_i ys ρ2 e2
        change compLoop (compF Φ G m tgm conds) ds (wipeE tgm.slots 0 ρ1) [] = some (ys, ρ2) at e2
        cases e
        refine ⟨L, F, ρ, as, ds, ρ1, st, e1, fun F1 H1 as1 J s1 st1 wk q hq => ?_⟩
        obtain ⟨n1, n2, n3, n4⟩ := st1.newO (o := .lst []) hq
        refine lc_it wk (fun i H => ∃ Fi ρi asi acc xs, Step F1 (upd H1 q (.lst [])) (as1 ++ [q]) Fi H (asi ++ [q]) ∧ StOk X.K X.w L Fi H (wipe σ tgm.slots) ρi asi ∧ q ∉ asi ∧ Fi q = none ∧ H q = some (.lst xs) ∧ Reps X.K X.w Fi xs acc ∧
          (tgm.slots.all fun v => !isThing (get ρi v)) = true ∧ compLoop (compF Φ G m tgm conds) (ds.drop i) ρi acc = some (ys, ρ2)) ?_ ?_ ?_ ?_
        · exact ⟨F1, _, as1, [], [], Step.refl _ _ _, ⟨n1, n2.wipe hcond.1, st1.nd⟩, fun z => by
            rw [List.nodup_append] at n3
            exact n3.2.2 q z q (by simp) rfl, n4, upd_same, .nil, wipeE_no _ _, by simpa using e2⟩
        · rintro i H2 _ ⟨Fi, ρi, asi, acc, xs, S, sti, _⟩
          exact S.same.trans sti.sub
        · rintro i x H2 H3 hi ⟨Fi, ρi, asi, acc, xs, S, sti, hqa, hqf, hqh, rxs, nth, el⟩ y
          obtain ⟨F3, d, s3, st3, hd, rd⟩ := yd_use S.same sti y
          rw [drop_cons hd] at el
          unfold compLoop at el
          split at el
          · rename_i ys1 ρ3 ef
            split at el
            · rename_i hlen
              unfold compF at ef
              split at ef
              · rename_i ρa ea
                refine ⟨L, F3, ρi, asi, d, ρa, st3, rd, ea, fun σ2 as4 s4 st4 wq => ⟨by rw [wq _ fun i h => h, wipe_wipe], ?_⟩⟩
                have wq2 : wipe σ2 tgm.slots = wipe σ tgm.slots := by rw [wq _ fun i h => h, wipe_wipe]
                split at ef
                · rename_i ρb eb
                  refine ⟨L, F3, ρa, as4, true, ρb, st4, eb, fun F5 H5 as5 s5 st5 => ?_⟩
                  dsimp only
                  rw [if_pos rfl]
                  refine go1 st5 ef fun F6 H6 v dv ρc as6 s6 st6 rv e6 => ?_
                  obtain ⟨rfl, e7⟩ := addR_some e6
                  obtain ⟨nth2, rfl⟩ := wipeC_some e7
                  have sAll := ((s3.trans s4).trans s5).trans s6
                  obtain ⟨a1, a2, a3⟩ := apart sAll hqh hqf hqa
                  have hxl : xs.length < sizeLine := by
                    rw [rxs.length, ← lineN_eq]
                    simp at hlen
                    omega
                  refine ⟨xs, a1, hxl, F6, _, as6, acc ++ [dv], xs ++ [v], S.trans (step_apart sAll), ?_, a3, a2, upd_same, (rxs.mono sAll.same).append (.cons rv .nil), wipeE_no _ _, el⟩
                  have := st6.env.wipe nth2
                  rw [wq2] at this
                  exact StOk.updA ⟨st6.sub, this, st6.nd⟩ a2 a3
                · rename_i ρb eb
                  refine ⟨L, F3, ρa, as4, false, ρb, st4, eb, fun F5 H5 as5 s5 st5 => ?_⟩
                  dsimp only
                  rw [if_neg Bool.false_ne_true]
                  obtain ⟨rfl, e7⟩ := addR_some ef
                  obtain ⟨nth2, rfl⟩ := wipeC_some e7
                  have sAll := (s3.trans s4).trans s5
                  obtain ⟨a1, a2, a3⟩ := apart sAll hqh hqf hqa
                  have := st5.env.wipe nth2
                  rw [wq2] at this
                  exact ⟨F5, _, as5, acc, xs, S.trans (step_apart0 sAll hqh hqa), ⟨st5.sub, this, st5.nd⟩, a3, a2, a1, rxs.mono sAll.same, wipeE_no _ _, by simpa using el⟩
                · cases ef
              · cases ef
            · cases el
          · cases el
        · rintro H2 ⟨Fi, ρi, asi, acc, xs, S, sti, hqa, hqf, hqh, rxs, nth, el⟩
          rw [List.drop_length] at el
          unfold compLoop at el
          cases el
          refine (p.step s1) Fi H2 _ asi [q] ((Step.newO hq).trans S) sti.sub ?_ (.own (.lst hqf hqh rxs)) ?_
          · exact EnvR.back S.same st1.env hcond.1 sti.env nth
          · rw [List.nodup_append]
            exact ⟨sti.nd, by simp, fun a ha b hb e => by simp at hb; subst hb; subst e; exact hqa ha⟩
      · cases e
    · cases e
  · cases e
variable {elt tg iter : Expr} {ifs : List Expr} {scope : Scope} {own : List (Str × Nat)} {pos : Pos} {m : E} {tgm : Tg} {it : It} {conds : List E}
theorem s_comp (hc : X.calm = true) (hN : X.N.Nodup) (hi : PI X tg iter (tIt X.K X.w (evI Φ G it))) (ok : BlkOk X.N X.env.scope scope own) (ho : own.map (·.2) = tgm.slots)
    (hg : ∀ (s : Shared) (H : Hp) (C : Addr) (cl : List (Str × Addr)) (fp : List Addr), PG (X.blk s H scope (compEnvC scope cl C X.env) fp) tg (gTg X.K X.w tgm))
    (ht : ∀ (s : Shared) (H : Hp) (C : Addr) (cl : List (Str × Addr)) (fp : List Addr), PTs (X.blk s H scope (compEnvC scope cl C X.env) fp) ifs (tCs X.K X.w (evCs Φ G conds)))
    (he : ∀ (s : Shared) (H : Hp) (C : Addr) (cl : List (Str × Addr)) (fp : List Addr), PE (X.blk s H scope (compEnvC scope cl C X.env) fp) elt (tGen X.K X.w (evE Φ G m)))
    (hs : noSet iter = true) : PE X (.ListComp elt [⟨tg, iter, ifs, 0⟩] scope pos) (tGen X.K X.w (evE Φ G (.comp m tgm it conds))) := by
  refine (pe_lc hc hN hi ok hg ht (fun s H C cl fp => (he s H C cl fp).imp fun _ _ _ => tGen_val) (noSet_fold hs X.env)).imp fun σ H Q h => ?_
  obtain ⟨L, F, ρ, as, r, ρ', st, e, p⟩ := h
  rw [ho]
  exact go_comp st e p
theorem s_setLc {i : Nat} {y : Str} {py spos : Pos} (hc : X.calm = true) (hN : X.N.Nodup) (hy : X.N[i]? = some y) (hyl : X.env.scope.names.lookup y = some .local)
    (hsw : swapsWith (.ListComp elt [⟨tg, iter, ifs, 0⟩] scope pos) (some (.Name y py)) spos.line X.env = pure true) (hi : PI X tg iter (tIt X.K X.w (evI Φ G it))) (ok : BlkOk X.N X.env.scope scope own) (ho : own.map (·.2) = tgm.slots)
    (hg : ∀ (s : Shared) (H : Hp) (C : Addr) (cl : List (Str × Addr)) (fp : List Addr), PG (X.blk s H scope (compEnvC scope cl C X.env) fp) tg (gTg X.K X.w tgm))
    (ht : ∀ (s : Shared) (H : Hp) (C : Addr) (cl : List (Str × Addr)) (fp : List Addr), PTs (X.blk s H scope (compEnvC scope cl C X.env) fp) ifs (tCs X.K X.w (evCs Φ G conds)))
    (he : ∀ (s : Shared) (H : Hp) (C : Addr) (cl : List (Str × Addr)) (fp : List Addr), PE (X.blk s H scope (compEnvC scope cl C X.env) fp) elt (tGen X.K X.w (evE Φ G m)))
    (hs : noSet iter = true) : PS X (.Assign [.Name y py] (.ListComp elt [⟨tg, iter, ifs, 0⟩] scope pos) spos) (tAsg (tGen X.K X.w (evE Φ G (.comp m tgm it conds))) (gName i)) := by
  refine (ps_setLc hc hN hy hyl hsw hi ok hg ht (fun s H C cl fp => (he s H C cl fp).imp fun _ _ _ => tGen_val) (noSet_fold hs X.env)).imp fun D σ H h => ?_
  obtain ⟨L, F, ρ, as, r, ρ', st, e, p⟩ := h
  rw [ho]
  exact go_comp st e p
end
end BP

set_option maxRecDepth 100000
set_option maxHeartbeats 4000000
/-! Things in slots; statements. -/
namespace BP
open PySem PySem.Spec PyProof.Rows L2

section
variable {X : Cx} {Φ : Calls} {G : Nat → Option D} {nm : Nm} {a b e : Expr} {m mk : E} {pos p : Pos} {i : Nat} {x : Str}
theorem thing_of {ρ : Env} {i : Nat} (h : isThing (get ρ i) = true) : ∃ o, gO ρ i = some o := by
  unfold gO
  unfold isThing at h
  cases hg : get ρ i with
  | emp => rw [hg] at h; cases h
  | val d => rw [hg] at h; cases h
  | own o => exact ⟨o, rfl⟩
  | lnt o => exact ⟨o, rfl⟩
/-- x[e] of a thing -/
theorem s_oix (hu : X.A.units + 65 < cLine) (hN : X.N[i]? = some x) (hv : Vis X.env.scope x) (ho : okN x = true) (hb : PE X b (tGen X.K X.w (evE Φ G m))) (hs : notSlice b = true) : PE X (.Subscript (.Name x p) b pos) (tGen X.K X.w (evE Φ G (.oix i m))) := by
  refine (pe_ix (IxR.or ix_list (ix_dict hu)) (pe_var hN hv (okN_of ho).1 (okN_of ho).2.1) (hb.imp fun _ _ _ => tGen_val) (notSlice_ix hs)).imp fun σ H Q h => ?_
  obtain ⟨L, F, ρ, as, r, ρ', st, e, p⟩ := h
  unfold evE at e
  split at e
  · rename_i ht
    obtain ⟨o, hgo⟩ := thing_of ht
    obtain ⟨a0, A, mm, B, e1, e2, _⟩ := st.env.thing hgo
    refine ⟨_, e2, ?_⟩
    refine go1 st e fun F1 H1 y d ρ1 as1 s1 st1 r1 e1 => ?_
    split at e1
    · rename_i ds j hgo1
      obtain ⟨a1, A1, m1, B1, x1, x2, x3, _⟩ := st1.env.thing hgo1
      rw [e2] at x2
      cases x2
      cases r1
      cases x3 with
      | lst h1 h2 h3 =>
        obtain ⟨z, e5, rfl, rfl⟩ := oV_some e1
        obtain ⟨v, e6, rv⟩ := h3.at e5
        exact .inl ⟨_, _, j, v, rfl, rfl, .of h2, e6, (p.step s1).v st1 rv⟩
    · rename_i ks vs hgo1
      obtain ⟨a1, A1, m1, B1, x1, x2, x3, _⟩ := st1.env.thing hgo1
      rw [e2] at x2
      cases x2
      split at e1
      · rename_i hk
        split at e1
        · rename_i dv hl
          cases e1
          cases x3 with
          | dic h1 h2 h3 =>
            obtain ⟨v, e6, rv⟩ := h3.lookV hk hl
            exact .inr ⟨F1, _, _, _, v, rfl, st1.sub, h2, h3.keysR, r1, hk, e6, (p.step s1).v st1 rv⟩
        · cases e1
      · cases e1
    · cases e1
  · cases e
/-- len(x) of a list in a slot -/
theorem s_olen (C : COk nm Φ G X) (hg : Gl X "len") (hN : X.N[i]? = some x) (hv : Vis X.env.scope x) (ho : okN x = true) : PE X (.Call (.Name "len" p) [.Name x a.pos] [] pos) (tGen X.K X.w (evE Φ G (.olen i))) := by
  refine (pe_callB call_len hg (C.blt "len" (by decide +kernel)) (by decide +kernel) (pa_cons (pe_var hN hv (okN_of ho).1 (okN_of ho).2.1) pa_nil (notStar_eq rfl [] X.env)) (by decide) (by decide) (notStar_eq rfl [] X.env) rfl).imp fun σ H Q h => ?_
  obtain ⟨L, F, ρ, as, r, ρ', st, e, p⟩ := h
  unfold evE at e
  split at e
  · rename_i ds hgo
    cases e
    obtain ⟨a0, A, mm, B, e1, e2, e3, _⟩ := st.env.thing hgo
    refine ⟨_, e2, ?_⟩
    cases e3 with
    | lst h1 h2 h3 => exact ⟨_, ds.length, rfl, .inl ⟨_, .of h2, h3.length.symm⟩, p.v st (.int _)⟩
  · cases e

/-! ### statements -/
section
variable (K : PySem.W.Frag) (w : World)
def PostS (L : List (Option Addr)) (F H : Hp) (as : List Addr) (out : Out) (D : Ends) : Prop :=
  match out with
  | .nx ρ' => ∀ F' H' σ' as', Step F H as F' H' as' → StOk K w L F' H' σ' ρ' as' → D.nx σ' H'
  | .rt r ρ' => ∀ F' H' σ' v as' ar, Step F H as F' H' (as' ++ ar) → Same F' H' → EnvR K w F' H' L σ' ρ' as' → RetR K w F' H' v r ar → (as' ++ ar).Nodup → D.rt v H'
def tS (ev : Env → Option Out) : TS := fun D σ H => ∃ L F ρ as out, StOk K w L F H σ ρ as ∧ ev ρ = some out ∧ PostS K w L F H as out D
end
theorem PostS.step {K : PySem.W.Frag} {w : World} {L : List (Option Addr)} {F H F1 H1 : Hp} {as as1 : List Addr} {out : Out} {D : Ends} (h : PostS K w L F H as out D) (s : Step F H as F1 H1 as1) : PostS K w L F1 H1 as1 out D := by
  cases out with
  | nx ρ => exact fun F' H' σ' as' s' st => h F' H' σ' as' (s.trans s') st
  | rt r ρ => exact fun F' H' σ' v as' ar s' => h F' H' σ' v as' ar (s.trans s')
variable {W : Nat} {st : Stmt} {sts : List Stmt}
theorem s_nev : PS X st (tS X.K X.w (evS Φ G W .nev)) := ⟨fun pins s σ H D I h => by
  obtain ⟨L, F, ρ, as, out, st, e, k⟩ := h
  unfold evS at e
  cases e⟩
theorem s_ss0 : PSs X [] (tS X.K X.w (evSs Φ G W [])) := by
  refine pss_nil.imp fun D σ H h => ?_
  obtain ⟨L, F, ρ, as, out, st, e, k⟩ := h
  unfold evSs at e
  cases e
  exact k F H σ as (Step.refl _ _ _) st
theorem s_ss1 {s : S} {ss : List S} (h1 : PS X st (tS X.K X.w (evS Φ G W s))) (h2 : PSs X sts (tS X.K X.w (evSs Φ G W ss))) : PSs X (st :: sts) (tS X.K X.w (evSs Φ G W (s :: ss))) := by
  refine (pss_cons h1 h2).imp fun D σ H h => ?_
  obtain ⟨L, F, ρ, as, out, st, e, k⟩ := h
  unfold evSs at e
  split at e
  · rename_i ρ1 e1
    refine ⟨L, F, ρ, as, .nx ρ1, st, e1, fun F' H' σ' as' s' st' => ?_⟩
    exact ⟨L, F', ρ1, as', out, st', e, k.step s'⟩
  · rename_i hne
    refine ⟨L, F, ρ, as, out, st, e, ?_⟩
    cases out with
    | nx ρ1 => exact absurd e (hne ρ1)
    | rt r ρ1 => exact k
theorem s_set (h : PS X st (tAsg (tGen X.K X.w (evE Φ G m)) (gName i))) : PS X st (tS X.K X.w (evS Φ G W (.set (.nm i) m))) := by
  refine h.imp fun D σ H h => ?_
  obtain ⟨L, F, ρ, as, out, st, e, k⟩ := h
  unfold evS at e
  refine tGen_val (go1 st e fun F1 H1 v d ρ1 as1 s1 st1 r1 e1 => ?_)
  obtain ⟨ρ2, e2, rfl⟩ := Option.map_eq_some_iff.mp e1
  unfold asg at e2
  obtain ⟨as', h1, h2, h3⟩ := st1.env.store_val st1.nd e2 r1
  exact k F1 H1 _ as' (s1.less h2) ⟨st1.sub, h1, h3⟩
theorem s_seto (h : PS X st (tAsg (tGen X.K X.w (evE Φ G m)) (gName i))) : PS X st (tS X.K X.w (evS Φ G W (.seto i m))) := by
  refine h.imp fun D σ H h => ?_
  obtain ⟨L, F, ρ, as, out, st, e, k⟩ := h
  unfold evS at e
  obtain ⟨r, ρ1, e1, e2⟩ := bR_some e
  refine ⟨L, F, ρ, as, r, ρ1, st, e1, fun F1 H1 v as1 ar s1 sm en rr nd => ?_⟩
  split at e2
  · rename_i o
    obtain ⟨ρ2, e3, rfl⟩ := Option.map_eq_some_iff.mp e2
    cases rr with
    | own ro =>
      obtain ⟨as', h1, h2, h3⟩ := en.store_own nd e3 ro
      exact k F1 H1 _ as' (s1.less h2) ⟨sm, h1, h3⟩
  · cases e2
theorem s_setT {t : Tg} {tg : Expr} (he : PE X e (tGen X.K X.w (evE Φ G m))) (hg : PG X tg (gTg X.K X.w t)) (hs : swapsWithSole [tg] e pos.line X.env = pure false) (hw : swappedStores [tg] e X.env = pure none) (h1 : (assignEach [tg] X.env).map (·.2) = [assign tg X.env]) :
    PS X (.Assign [tg] e pos) (tS X.K X.w (evS Φ G W (.set t m))) := by
  refine (ps_asg he hg hs hw h1).imp fun D σ H h => ?_
  obtain ⟨L, F, ρ, as, out, st, e, k⟩ := h
  unfold evS at e
  refine tGen_val (go1 st e fun F1 H1 v d ρ1 as1 s1 st1 r1 e1 => ?_)
  obtain ⟨ρ2, e2, rfl⟩ := Option.map_eq_some_iff.mp e1
  exact ⟨L, F1, ρ1, as1, d, ρ2, st1, r1, e2, fun σ' as' s' st' _ => k F1 H1 σ' as' (s1.trans s') st'⟩
theorem puts_ok {K : PySem.W.Frag} {w : World} {L : List (Option Addr)} {F H : Hp} {σ : L2.St} {ρ ρ' : Env} {as : List Addr} {d : D} {v : V} (st : StOk K w L F H σ ρ as) (e : setS ρ i (.val d) = some ρ') (r : Rep K w F v d) :
    ∃ as', Step F H as F H as' ∧ StOk K w L F H (σ.set i (some v)) ρ' as' := by
  obtain ⟨as', h1, h2, h3⟩ := st.env.store_val st.nd e r
  exact ⟨as', (Step.refl F H as).less h2, st.sub, h1, h3⟩
theorem s_par2 {j : Nat} {es : List E} {ta : List Expr} (ha : PS X st (tPar i j (tLst X.K X.w (evEs Φ G es)))) : PS X st (tS X.K X.w (evS Φ G W (.par [i, j] es))) := by
  refine ha.imp fun D σ H h => ?_
  obtain ⟨L, F, ρ, as, out, st, e, k⟩ := h
  unfold evS at e
  refine goL st e fun F1 H1 xs ds ρ1 as1 s1 st1 r1 e1 => ?_
  obtain ⟨ρ2, e2, rfl⟩ := Option.map_eq_some_iff.mp e1
  match ds, e2 with
  | [], e2 => cases e2
  | [d1], e2 => (unfold puts at e2; obtain ⟨ρ3, _, e3⟩ := Option.bind_eq_some_iff.mp e2; cases e3)
  | [d1, d2], e2 =>
    obtain ⟨x1, x2, rfl, q1, q2⟩ := reps2 r1
    unfold puts at e2
    obtain ⟨ρ3, e3, e4⟩ := Option.bind_eq_some_iff.mp e2
    unfold puts at e4
    obtain ⟨ρ4, e5, e6⟩ := Option.bind_eq_some_iff.mp e4
    unfold puts at e6
    cases e6
    obtain ⟨as2, s2, st2⟩ := puts_ok st1 e3 q1
    obtain ⟨as3, s3, st3⟩ := puts_ok st2 e5 q2
    exact ⟨x1, x2, rfl, k F1 H1 _ as3 ((s1.trans s2).trans s3) st3⟩
  | d1 :: d2 :: d3 :: _, e2 =>
    unfold puts at e2
    obtain ⟨ρ3, e3, e4⟩ := Option.bind_eq_some_iff.mp e2
    unfold puts at e4
    obtain ⟨ρ4, e5, e6⟩ := Option.bind_eq_some_iff.mp e4
    cases e6
theorem s_par3 {j l : Nat} {es : List E} (ha : PS X st (tPar3 i j l (tLst X.K X.w (evEs Φ G es)))) : PS X st (tS X.K X.w (evS Φ G W (.par [i, j, l] es))) := by
  refine ha.imp fun D σ H h => ?_
  obtain ⟨L, F, ρ, as, out, st, e, k⟩ := h
  unfold evS at e
  refine goL st e fun F1 H1 xs ds ρ1 as1 s1 st1 r1 e1 => ?_
  obtain ⟨ρ2, e2, rfl⟩ := Option.map_eq_some_iff.mp e1
  match ds, e2 with
  | [], e2 => cases e2
  | [d1], e2 => (unfold puts at e2; obtain ⟨ρ3, _, e3⟩ := Option.bind_eq_some_iff.mp e2; cases e3)
  | [d1, d2], e2 =>
    unfold puts at e2
    obtain ⟨ρ3, e3, e4⟩ := Option.bind_eq_some_iff.mp e2
    unfold puts at e4
    obtain ⟨ρ4, e5, e6⟩ := Option.bind_eq_some_iff.mp e4
    cases e6
  | [d1, d2, d3], e2 =>
    cases r1 with
    | cons q1 r2 =>
      obtain ⟨x2, x3, rfl, q2, q3⟩ := reps2 r2
      unfold puts at e2
      obtain ⟨ρ3, e3, e4⟩ := Option.bind_eq_some_iff.mp e2
      unfold puts at e4
      obtain ⟨ρ4, e5, e6⟩ := Option.bind_eq_some_iff.mp e4
      unfold puts at e6
      obtain ⟨ρ5, e7, e8⟩ := Option.bind_eq_some_iff.mp e6
      unfold puts at e8
      cases e8
      obtain ⟨as2, s2, st2⟩ := puts_ok st1 e3 q1
      obtain ⟨as3, s3, st3⟩ := puts_ok st2 e5 q2
      obtain ⟨as4, s4, st4⟩ := puts_ok st3 e7 q3
      exact ⟨_, x2, x3, rfl, k F1 H1 _ as4 (((s1.trans s2).trans s3).trans s4) st4⟩
  | d1 :: d2 :: d3 :: d4 :: _, e2 =>
    unfold puts at e2
    obtain ⟨ρ3, e3, e4⟩ := Option.bind_eq_some_iff.mp e2
    unfold puts at e4
    obtain ⟨ρ4, e5, e6⟩ := Option.bind_eq_some_iff.mp e4
    unfold puts at e6
    obtain ⟨ρ5, e7, e8⟩ := Option.bind_eq_some_iff.mp e6
    cases e8
def notComp : Expr → Bool
  | .ListComp .. => false
  | .SetComp .. => false
  | .DictComp .. => false
  | _ => true
theorem notComp_sw {e : Expr} (h : notComp e = true) (t : Option Expr) (l : Nat) (env : PySem.Env) : swapsWith e t l env = pure false := by
  cases e with
  | ListComp => cases h
  | SetComp => cases h
  | DictComp => cases h
  | _ => rfl
theorem s_drop (he : PE X e (tGen X.K X.w (evE Φ G m))) (hn : notComp e = true) : PS X (.Expr e pos) (tS X.K X.w (evS Φ G W (.drop m))) := by
  refine (ps_expr he (notComp_sw hn _ _ _)).imp fun D σ H h => ?_
  obtain ⟨L, F, ρ, as, out, st, e, k⟩ := h
  unfold evS at e
  obtain ⟨r, ρ1, e1, e2⟩ := bR_some e
  cases e2
  exact ⟨L, F, ρ, as, r, ρ1, st, e1, fun F1 H1 v as1 ar s1 sm en rr nd => k F1 H1 σ as1 (s1.less fun b hb => List.mem_append_left _ hb) ⟨sm, en, (List.nodup_append.mp nd).1⟩⟩
theorem s_ret (he : PE X e (tGen X.K X.w (evE Φ G m))) : PS X (.Return (some e) pos) (tS X.K X.w (evS Φ G W (.ret m))) := by
  refine (ps_ret he).imp fun D σ H h => ?_
  obtain ⟨L, F, ρ, as, out, st, e, k⟩ := h
  unfold evS at e
  refine tGen_val (go1 st e fun F1 H1 v d ρ1 as1 s1 st1 r1 e1 => ?_)
  cases e1
  exact k F1 H1 σ v as1 [] (by rw [List.append_nil]; exact s1) st1.sub st1.env (.val r1) (by rw [List.append_nil]; exact st1.nd)
theorem s_reto (he : PE X e (tGen X.K X.w (evE Φ G m))) : PS X (.Return (some e) pos) (tS X.K X.w (evS Φ G W (.reto m))) := by
  refine (ps_ret he).imp fun D σ H h => ?_
  obtain ⟨L, F, ρ, as, out, st, e, k⟩ := h
  unfold evS at e
  obtain ⟨r, ρ1, e1, e2⟩ := bR_some e
  cases e2
  exact ⟨L, F, ρ, as, r, ρ1, st, e1, fun F1 H1 v as1 ar s1 sm en rr nd => k F1 H1 σ v as1 ar s1 sm en rr nd⟩
theorem s_retN : PS X (.Return none pos) (tS X.K X.w (evS Φ G W .retN)) := by
  refine ps_retN.imp fun D σ H h => ?_
  obtain ⟨L, F, ρ, as, out, st, e, k⟩ := h
  unfold evS at e
  cases e
  exact k F H σ .non as [] (by rw [List.append_nil]; exact Step.refl _ _ _) st.sub st.env (.val .non) (by rw [List.append_nil]; exact st.nd)
theorem s_if {sa sb : List Stmt} {ma mb : List S} (hc : PT X e (tTst X.K X.w (evE Φ G m))) (ha : PSs X sa (tS X.K X.w (evSs Φ G W ma))) (hb : PSs X sb (tS X.K X.w (evSs Φ G W mb))) : PS X (.If e sa sb pos) (tS X.K X.w (evS Φ G W (.iff m ma mb))) := by
  refine (ps_if hc ha hb).imp fun D σ H h => ?_
  obtain ⟨L, F, ρ, as, out, st, e, k⟩ := h
  unfold evS at e
  refine goT st e (fun d ρ1 h => by cases d <;> first | exact ⟨_, rfl⟩ | cases h) fun F1 H1 b1 ρ1 as1 s1 st1 e1 => ?_
  cases b1 with
  | true => rw [if_pos rfl]; exact ⟨L, F1, ρ1, as1, out, st1, e1, k.step s1⟩
  | false => rw [if_neg Bool.false_ne_true]; exact ⟨L, F1, ρ1, as1, out, st1, e1, k.step s1⟩
theorem s_for {tg iter : Expr} {t : Tg} {it : It} {body : List Stmt} {mb : List S} (C : COk nm Φ G X) (hi : PI X tg iter (tIt X.K X.w (evI Φ G it))) (hg : PG X tg (gTg X.K X.w t)) (hb : PSs X body (tS X.K X.w (evSs Φ G W mb))) (hs : noSet iter = true) :
    PS X (.For tg iter body [] pos) (tS X.K X.w (evS Φ G W (.for_ t it mb))) := by
  refine (ps_for (by rw [C.xe]; exact PassesOwn.never) C.calm hi hg hb (noSet_fold hs X.env)).imp fun D σ H h => ?_
  obtain ⟨L, F, ρ, as, out, st, e, k⟩ := h
  unfold evS at e
  split at e
  · rename_i ds ρ1 e1
    refine ⟨L, F, ρ, as, ds, ρ1, st, e1, fun F1 H1 as1 J s1 st1 wk => ?_⟩
    refine for_it wk (fun i σ H => ∃ Fi ρi asi, Step F1 H1 as1 Fi H asi ∧ StOk X.K X.w L Fi H σ ρi asi ∧ forLoop t (evSs Φ G W mb) (ds.drop i) ρi = some out) ⟨F1, ρ1, as1, Step.refl _ _ _, st1, e⟩ ?_ ?_ ?_
    · rintro i σ2 H2 _ ⟨Fi, ρi, asi, S, sti, _⟩
      exact S.same.trans sti.sub
    · rintro i x σ2 H2 H3 hi ⟨Fi, ρi, asi, S, sti, el⟩ y
      obtain ⟨F3, d, s3, st3, hd, rd⟩ := yd_use S.same sti y
      rw [drop_cons hd] at el
      unfold forLoop at el
      split at el
      · rename_i ρa ea
        refine ⟨L, F3, ρi, asi, d, ρa, st3, rd, ea, fun σ4 as4 s4 st4 _ => ?_⟩
        split at el
        · rename_i ρb eb
          refine ⟨L, F3, ρa, as4, .nx ρb, st4, eb, fun F5 H5 σ5 as5 s5 st5 => ?_⟩
          exact ⟨F5, ρb, as5, S.trans ((s3.trans s4).trans s5), st5, el⟩
        · rename_i hne
          refine ⟨L, F3, ρa, as4, out, st4, el, ?_⟩
          cases out with
          | nx ρb => exact absurd el (hne ρb)
          | rt r ρb => exact ((k.step s1).step S).step (s3.trans s4)
      · cases el
    · rintro σ2 H2 ⟨Fi, ρi, asi, S, sti, el⟩
      rw [List.drop_length] at el
      unfold forLoop at el
      cases el
      exact (k.step s1) Fi H2 σ2 asi S sti
  · cases e
theorem s_whl {body : List Stmt} {mb : List S} (C : COk nm Φ G X) (hc : PT X e (tTst X.K X.w (evE Φ G m))) (hb : PSs X body (tS X.K X.w (evSs Φ G W mb))) :
    PS X (.While e body [] pos) (tS X.K X.w (evS Φ G W (.whl m mb))) := by
  refine (ps_while (by rw [C.xe]; exact PassesOwn.never) hc hb).imp fun D σ H h => ?_
  obtain ⟨L, F, ρ, as, out, st, e, k⟩ := h
  unfold evS at e
  refine ⟨fun n σ H1 => ∃ Fi ρi asi, Step F H as Fi H1 asi ∧ StOk X.K X.w L Fi H1 σ ρi asi ∧ whlLoop (evE Φ G m) (evSs Φ G W mb) n ρi = some out, ⟨W, F, ρ, as, Step.refl _ _ _, st, e⟩, ?_⟩
  rintro n σ1 H1 ⟨Fi, ρi, asi, S, sti, el⟩
  cases n with
  | zero => unfold whlLoop at el; cases el
  | succ n =>
    unfold whlLoop at el
    refine goT sti el (fun d ρ1 h => by cases d <;> first | exact ⟨_, rfl⟩ | cases h) fun F2 H2 b1 ρ1 as2 s2 st2 e2 => ?_
    cases b1 with
    | true =>
      dsimp only
      rw [if_pos rfl]
      refine ⟨fun σ' H' => ∃ Fi ρi asi, Step F H as Fi H' asi ∧ StOk X.K X.w L Fi H' σ' ρi asi ∧ whlLoop (evE Φ G m) (evSs Φ G W mb) n ρi = some out, fun σ' H' h => ⟨n, Nat.lt_succ_self n, h⟩, ?_⟩
      dsimp only at e2
      split at e2
      · rename_i ρb eb
        refine ⟨L, F2, ρ1, as2, .nx ρb, st2, eb, fun F5 H5 σ5 as5 s5 st5 => ⟨F5, ρb, as5, (S.trans s2).trans s5, st5, e2⟩⟩
      · rename_i hne
        refine ⟨L, F2, ρ1, as2, out, st2, e2, ?_⟩
        cases out with
        | nx ρb => exact absurd e2 (hne ρb)
        | rt r ρb => exact (k.step S).step s2
    | false =>
      dsimp only
      rw [if_neg Bool.false_ne_true]
      dsimp only at e2
      cases e2
      exact (k.step S) F2 H2 σ1 as2 s2 st2
end
end BP

set_option maxRecDepth 100000
set_option maxHeartbeats 4000000
/-! x[k] = e; x.append(e). -/
namespace BP
open PySem PySem.Spec PyProof.Rows L2

theorem PSet.or {X : Cx} {r r' : TSet} (h : PSet X r) (h' : PSet X r') : PSet X (fun o i v H Q => r o i v H Q ∨ r' o i v H Q) := by
  intro pins s σ H o i v ov iv u Q I ro ri rv q
  rcases q with q | q
  · exact h pins s σ H o i v ov iv u Q I ro ri rv q
  · exact h' pins s σ H o i v ov iv u Q I ro ri rv q
def rSetN (K : PySem.W.Frag) (w : World) : TSet := fun o i v H Q => ∃ F a kvs k, o = .ref a ∧ Same F H ∧ H a = some (dicO w a kvs) ∧ KeysR K w F kvs ∧ Rep K w F i k ∧ okKey k = true ∧ kvs.length < sizeLine ∧ ((kvs.map (·.1)).Nodup → Q (upd H a (dicO w a (storeK kvs (toKey k) i v))))
section
variable {X : Cx} {Φ : Calls} {G : Nat → Option D} {nm : Nm} {a b e : Expr} {m mk : E} {pos p : Pos} {i : Nat} {x : Str} {W : Nat}
theorem set_N (hu : X.A.units + 65 < cLine) : PSet X (rSetN X.K X.w) := by
  intro pins s σ H o i v ov iv u Q I ro ri rv h
  obtain ⟨F, a, kvs, k, rfl, sm, ha, kr, rk, ok, hz, q⟩ := h
  cases ro
  obtain ⟨_, _, _, _, _, hnd⟩ := Inv.dict I sm ha kr
  exact sem_dict_set hu I sm ha kr ri rk ok rv hz fun s' I' => ⟨_, I', q hnd⟩
/-- the thing in a slot is changed -/
theorem StOk.chg {K : PySem.W.Frag} {w : World} {L : List (Option Addr)} {F H : Hp} {σ : L2.St} {ρ : Env} {as : List Addr} {o : O} (st : StOk K w L F H σ ρ as) (h : gO ρ i = some o) :
    ∃ a A m B, as = A ++ m ++ B ∧ σ[i]? = some (some (.ref a)) ∧ OwnR K w F H a o m ∧ ∀ (ho : HO) (o' : O), OwnR K w F (upd H a ho) a o' m → Step F H as F (upd H a ho) as ∧ StOk K w L F (upd H a ho) σ (pO ρ i o') as := by
  obtain ⟨a, A, m, B, e1, e2, e3, e4, _⟩ := st.env.thing h
  refine ⟨a, A, m, B, e1, e2, e3, fun ho o' hw => ?_⟩
  have ham := e3.self
  have had := st.env.ad a (by rw [e1]; simp [ham])
  have nd := st.nd
  rw [e1] at nd
  have dj : ∀ b ∈ A ++ B, b ≠ a := fun b hb e => by
    subst e
    rw [List.append_assoc, List.nodup_append] at nd
    rcases List.mem_append.mp hb with h | h
    · exact nd.2.2 b h b (List.mem_append_left _ ham) rfl
    · exact (List.nodup_append.mp nd.2.1).2.2 b ham b h rfl
  refine ⟨⟨Same.refl F, fun b y hb hn => ?_, fun _ h => .inl h, fun _ h => .inl h⟩, fun b y e => ?_, ?_, st.nd⟩
  · have : b ≠ a := fun z => hn (by rw [z, e1]; simp [ham])
    rw [upd_ne this]; exact hb
  · rw [upd_ne (ne_of_none e had.1)]; exact st.sub b y e
  · rw [e1]
    refine e4 F (upd H a ho) o' m (Same.refl F) (fun b hb => ⟨upd_ne (dj b hb), ?_⟩) hw
    exact (st.env.ad b (by rw [e1]; rcases List.mem_append.mp hb with h | h <;> simp [h])).1
theorem notComp_sole {e : Expr} (h : notComp e = true) (t : Expr) (l : Nat) (env : PySem.Env) : swapsWithSole [t] e l env = pure false := by
  cases e with
  | ListComp => cases h
  | SetComp => cases h
  | DictComp => cases h
  | _ => rfl
theorem notSlice_asg {o i : Expr} (h : notSlice i = true) (p : Pos) (env : PySem.Env) (v : Value) : assign (.Subscript o i p) env v = (do
      let ov ← holding [v] (eval o env)
      let iv ← holding [v, ov] (eval i env)
      standAt p
      holding [v, ov, iv] (setItem ov iv v)
      release [v, ov, iv] []) := by
  cases i with
  | Slice => cases h
  | _ => rfl
theorem s_put (hu : X.A.units + 65 < cLine) (hN : X.N[i]? = some x) (hv : Vis X.env.scope x) (ho : okN x = true) (he : PE X e (tGen X.K X.w (evE Φ G m))) (hk : PE X b (tGen X.K X.w (evE Φ G mk))) (hs : notSlice b = true) (hn : notComp e = true) {p2 : Pos} :
    PS X (.Assign [.Subscript (.Name x p) b p2] e pos) (tS X.K X.w (evS Φ G W (.put i mk m))) := by
  refine (ps_asg (he.imp fun _ _ _ => tGen_val) (pg_sub (pe_var hN hv (okN_of ho).1 (okN_of ho).2.1) (hk.imp fun _ _ _ => tGen_val) (PSet.or set_list (set_N hu)) (notSlice_asg hs p2 X.env)) (notComp_sole hn _ _ _) rfl rfl).imp fun D σ H h => ?_
  obtain ⟨L, F, ρ, as, out, st, e, k⟩ := h
  unfold evS at e
  refine go1 st e fun F1 H1 v d ρ1 as1 s1 st1 r1 e1 => ?_
  split at e1
  · rename_i ht
    obtain ⟨o, hgo⟩ := thing_of ht
    obtain ⟨a0, A, mm, B, x1, x2, _⟩ := st1.env.thing hgo
    refine ⟨_, x2, ?_⟩
    refine go1 st1 e1 fun F2 H2 y d2 ρ2 as2 s2 st2 r2 e2 => ?_
    split at e2
    · rename_i ds j hgo2
      split at e2
      · rename_i n hn2
        cases e2
        obtain ⟨a1, A1, m1, B1, y1, y2, y3, y4⟩ := st2.chg hgo2
        rw [x2] at y2
        cases y2
        cases r2
        cases y3 with
        | lst h1 h2 h3 =>
          obtain ⟨s3, st3⟩ := y4 (.lst (_ : List V)) (.lst (ds.set n d)) (.lst h1 upd_same (h3.set n (r1.mono s2.same)))
          exact .inl ⟨_, _, j, n, rfl, rfl, h2, by rw [h3.length]; exact hn2, k _ _ σ as2 ((s1.trans s2).trans s3) st3⟩
      · cases e2
    · rename_i d2 _ _ ks vs hgo2
      split at e2
      · rename_i hk2
        rw [Bool.and_eq_true, decide_eq_true_eq] at hk2
        obtain ⟨a1, A1, m1, B1, y1, y2, y3, y4⟩ := st2.chg hgo2
        rw [x2] at y2
        cases y2
        have hnl : ∀ ds, lookF d2 ks vs ≠ some (.l ds) := fun ds hl => by rw [hl] at e2; cases e2
        have e3 : some (Out.nx (pO ρ2 i (.dic (putF d2 (.v d) ks vs).1 (putF d2 (.v d) ks vs).2))) = some out := by
          split at e2
          · cases e2
          · exact e2
        cases e3
        cases y3 with
        | dic h1 h2 h3 =>
          rename_i kvs as3
          refine .inr ⟨F2, _, kvs, d2, rfl, st2.sub, h2, h3.keysR, r2, hk2.1, by rw [h3.len, ← lineN_eq]; exact hk2.2, fun hnd => ?_⟩
          have hna : ∀ b ∈ as3, b ≠ a0 := fun b hb e => by
            have nd := st2.nd
            rw [y1, List.append_assoc, List.nodup_append] at nd
            have := nd.2.1
            rw [List.cons_append, List.nodup_cons] at this
            exact this.1 (List.mem_append_left _ (e ▸ hb))
          obtain ⟨s3, st3⟩ := y4 (dicO X.w _ (storeK kvs (toKey d2) y v)) _ (.dic h1 upd_same ((h3.putV hk2.1 r2 (r1.mono s2.same) hnd hnl).mono (Same.refl F2) fun b hb => ⟨upd_ne (hna b hb), (h3.ad b hb).1⟩))
          exact k _ _ σ as2 ((s1.trans s2).trans s3) st3
      · cases e2
    · cases e2
  · cases e1
end
end BP

set_option maxRecDepth 100000
set_option maxHeartbeats 4000000
/-! The look at a text: is it this mini text? -/
namespace BP
open PySem PySem.Spec PyProof.Rows L2

def noIf : Expr → Bool
  | .IfExp .. => false
  | _ => true
def blkB (N : List Str) (sc scope : Scope) (slots : List Nat) : Bool :=
  decide (scope.kind = .function) && scope.names.all (fun y => decide (scope.names.lookup y.1 = some y.2)) && slots.all (fun i => decide (i < N.length)) &&
    scope.names.all (fun y => !decide (y.2 = .free) || decide (sc.names.lookup y.1 = some .cell) || decide (sc.names.lookup y.1 = some .free)) &&
    scope.names.all (fun y => !(decide (y.2 = .local) || decide (y.2 = .cell)) || slots.any (fun i => decide (N[i]? = some y.1)) || !decide (y.1 ∈ N))
def ownOf (N : List Str) (slots : List Nat) : List (Str × Nat) := slots.map fun i => (N[i]?.getD "", i)
theorem blk_of {N : List Str} {sc scope : Scope} {slots : List Nat} (h : blkB N sc scope slots = true) : BlkOk N sc scope (ownOf N slots) ∧ (ownOf N slots).map (·.2) = slots := by
  unfold blkB at h
  simp only [Bool.and_eq_true, List.all_eq_true, decide_eq_true_eq, Bool.or_eq_true, Bool.not_eq_true', decide_eq_false_iff_not, List.any_eq_true] at h
  obtain ⟨⟨⟨⟨h1, h2⟩, h3⟩, h4⟩, h5⟩ := h
  refine ⟨⟨h1, h2, fun p hp => ?_, fun y hy e => ?_, fun y hy e => ?_⟩, ?_⟩
  · obtain ⟨i, hi, rfl⟩ := List.mem_map.mp hp
    have := h3 i hi
    simp [this]
  · rcases h4 y hy with (z | z) | z
    · exact absurd e z
    · exact .inl z
    · exact .inr z
  · rcases h5 y hy with (z | ⟨i, hi, z⟩) | z
    · exact absurd e (by simpa using z)
    · exact .inl (List.mem_map.mpr ⟨(N[i]?.getD "", i), List.mem_map.mpr ⟨i, hi, rfl⟩, by simp [z]⟩)
    · exact .inr z
  · unfold ownOf
    rw [List.map_map]
    conv => rhs; rw [← List.map_id slots]
    rfl

section
variable (nm : Nm) (N : List Str)
def chkV (sc : Scope) (i : Nat) (e : Expr) : Bool := match e with
  | .Name x _ => (N[i]? == some x) && visB sc x && okN x
  | _ => false
def chkN (sc : Scope) (x y : Str) : Bool := (x == y) && glB sc x && okN x
mutual
def chkE (sc : Scope) : E → Expr → Bool
  | .var i, e => chkV N sc i e
  | .frz i, e => chkV N sc i e
  | .mov i, e => chkV N sc i e
  | .glb n, e => match e with
    | .Name x _ => chkN sc x (nm.gl n)
    | _ => false
  | .gix _ _, _ => false
  | .cst d, e => chkC d e
  | .tup ms, e => match e with
    | .Tuple es _ _ => chkEs sc ms es
    | _ => false
  | .lst ms, e => match e with
    | .List es _ => chkEs sc ms es
    | _ => false
  | .dct _ _, _ => false
  | .bin op a b, e => match e with
    | .BinOp x o y _ => (o == pyB op) && chkE sc a x && chkE sc b y
    | _ => false
  | .cmp op a b, e => match e with
    | .Compare x [o] [y] _ => (o == pyC op) && !behindInMarks o y && chkE sc a x && chkE sc b y
    | _ => false
  | .chn op op' a b c, e => match e with
    | .Compare x [o, o'] [y, z] _ => (o == pyC op) && (o' == pyC op') && !lastMarks [o, o'] [y, z] && chkE sc a x && chkE sc b y && chkE sc c z
    | _ => false
  | .isn neg a, e => match e with
    | .Compare x [o] [.Constant .none _ _] _ => (o == isOp neg) && chkE sc a x
    | _ => false
  | .and a b, e => match e with
    | .BoolOp .And [x, y] _ => noIf x && noIf y && chkE sc a x && chkE sc b y
    | .BoolOp .And (x :: y :: z :: r) p => noIf x && chkE sc a x && chkE sc b (.BoolOp .And (y :: z :: r) p)
    | _ => false
  | .or a b, e => match e with
    | .BoolOp .Or [x, y] _ => noIf x && noIf y && chkE sc a x && chkE sc b y
    | .BoolOp .Or (x :: y :: z :: r) p => noIf x && chkE sc a x && chkE sc b (.BoolOp .Or (y :: z :: r) p)
    | _ => false
  | .not a, e => match e with
    | .UnaryOp .Not x _ => noIf x && chkE sc a x
    | _ => false
  | .neg a, e => match e with
    | .UnaryOp .USub x _ => chkE sc a x
    | _ => false
  | .ite t a b, e => match e with
    | .IfExp x y z _ => noIf x && chkE sc t x && chkE sc a y && chkE sc b z
    | _ => false
  | .ix a i, e => match e with
    | .Subscript x y _ => notSlice y && chkE sc a x && chkE sc i y
    | _ => false
  | .sl a lo hi, e => match e with
    | .Subscript x (.Slice l h none _) _ => chkE sc a x && chkO sc lo l && chkO sc hi h
    | _ => false
  | .rev _, _ => false
  | .call f ms, e => match e with
    | .Call (.Name x _) es [] _ => chkN sc x (nm.fn f) && es.all notStar && chkAs sc ms es
    | _ => false
  | .lent _, _ => false
  | .blt b ms, e => match e with
    | .Call (.Name x _) es [] _ => (x == bltS b) && glB sc x && !es.isEmpty && es.all notStar && chkEs sc ms es
    | _ => false
  | .isi t a, e => match e with
    | .Call (.Name x _) [y, .Name z _] [] _ => (x == ("isinstance" : Str)) && glB sc x && (z == tyStr t) && glB sc z && notStar y && chkE sc a y
    | _ => false
  | .mth _ _ _, _ => false
  | .oix i a, e => match e with
    | .Subscript x y _ => chkV N sc i x && notSlice y && chkE sc a y
    | _ => false
  | .oin _ _ _, _ => false
  | .olen _, _ => false
  | .oemp _ _, _ => false
  | .oget _ _ _, _ => false
  | .okeys _, _ => false
  | .comp m tg it conds, e => match e with
    | .ListComp elt [⟨t, iter, ifs, k⟩] scope _ => decide (k = 0) && noSet iter && blkB N sc scope tg.slots && chkTg N (locB (relS scope sc)) tg t && chkI sc it t iter && chkCs (relS scope sc) conds ifs && chkE (relS scope sc) m elt
    | _ => false
  | .comp2 _ _ _ _ _, _ => false
def chkEs (sc : Scope) : List E → List Expr → Bool
  | [], es => es.isEmpty
  | m :: ms, es => match es with
    | e :: es => notStar e && chkE sc m e && chkEs sc ms es
    | [] => false
def chkO (sc : Scope) : Option E → Option Expr → Bool
  | none, e => e.isNone
  | some m, e => match e with
    | some e => chkE sc m e
    | none => false
def chkAs (sc : Scope) : List E → List Expr → Bool
  | [], es => es.isEmpty
  | .lent i :: ms, es => match es with
    | e :: es => chkV N sc i e && chkAs sc ms es
    | [] => false
  | m :: ms, es => match es with
    | e :: es => notStar e && chkE sc m e && chkAs sc ms es
    | [] => false
def chkCs (sc : Scope) : List E → List Expr → Bool
  | [], es => es.isEmpty
  | [m], es => match es with
    | [e] => noIf e && chkE sc m e
    | _ => false
  | _ :: _ :: _, _ => false
def chkI (sc : Scope) : It → Expr → Expr → Bool
  | .seq a, _, e => chkE sc a e
  | .sgn a, _, e => chkE sc a e
  | .rng a, _, e => match e with
    | .Call (.Name x _) [y] [] _ => (x == ("range" : Str)) && glB sc x && notStar y && chkE sc a y
    | _ => false
  | .rng2 a b, _, e => match e with
    | .Call (.Name x _) [y, z] [] _ => (x == ("range" : Str)) && glB sc x && notStar y && notStar z && chkE sc a y && chkE sc b z
    | _ => false
  | .enm _, _, _ => false
end
end

def Cx.blkOk {nm : Nm} {Φ : Calls} {G : Nat → Option D} {X : Cx} (C : COk nm Φ G X) (s : Shared) (H : Hp) (scope : Scope) (cenv : PySem.Env) (fp : List Addr) : COk nm Φ G (X.blk s H scope cenv fp) :=
  ⟨C.calm, C.hu, C.nd, rfl, C.blt, C.con, C.cal⟩

section
variable {nm : Nm} {N : List Str} {Φ : Calls} {G : Nat → Option D}
structure Snd (Φ : Calls) (G : Nat → Option D) (X : Cx) (e : Expr) (m : E) : Prop where
  pe : PE X e (tGen X.K X.w (evE Φ G m))
  pt : noIf e = true → PT X e (tTst X.K X.w (evE Φ G m))
  pw : ∀ op es p, e = .BoolOp op es p → PW X e (tTst X.K X.w (evE Φ G m))
  lc : ∀ (i : Nat) (y : Str) (py spos : Pos), X.N[i]? = some y → X.env.scope.names.lookup y = some .local → notComp e = false → swapsWith e (some (.Name y py)) spos.line X.env = pure true →
    PS X (.Assign [.Name y py] e spos) (tAsg (tGen X.K X.w (evE Φ G m)) (gName i))
/-- .. of an expression that is none of the tests' own forms -/
theorem Snd.plain {X : Cx} {e : Expr} {m : E} (h : PE X e (tGen X.K X.w (evE Φ G m))) (hp : plainT e = true) (hn : notComp e = true) : Snd Φ G X e m :=
  ⟨h, fun _ => s_pt h hp, fun op es p he => (by subst he; cases hp), fun _ _ _ _ _ _ hc => (by rw [hn] at hc; cases hc)⟩
theorem chkV_of {sc : Scope} {i : Nat} {e : Expr} (h : chkV N sc i e = true) : ∃ x p, e = .Name x p ∧ N[i]? = some x ∧ Vis sc x ∧ okN x = true := by
  unfold chkV at h
  split at h
  · simp only [Bool.and_eq_true, beq_iff_eq] at h
    exact ⟨_, _, rfl, h.1.1, vis_of h.1.2, h.2⟩
  · cases h
theorem chkN_of {X : Cx} {x y : Str} (h : chkN X.env.scope x y = true) : x = y ∧ Gl X x ∧ okN x = true := by
  unfold chkN at h
  simp only [Bool.and_eq_true, beq_iff_eq] at h
  exact ⟨h.1.1, gl_of h.1.2, h.2⟩
theorem chkC_plain {d : D} {e : Expr} (h : chkC d e = true) : plainT e = true ∧ notComp e = true := by
  unfold chkC at h
  split at h <;> first | exact ⟨rfl, rfl⟩ | cases h
theorem chkAs_val {sc : Scope} {m : E} (h : ∀ i, m ≠ .lent i) (ms : List E) (es : List Expr) : chkAs nm N sc (m :: ms) es = match es with
    | e :: es => notStar e && chkE nm N sc m e && chkAs nm N sc ms es
    | [] => false := by
  cases m with
  | lent j => exact absurd rfl (h j)
  | _ => first | rfl | (unfold chkAs; rfl) | simp [chkAs]
mutual
theorem sndE : ∀ (m : E) {X : Cx} {e : Expr}, COk nm Φ G X → X.N = N → chkE nm N X.env.scope m e = true → Snd Φ G X e m
  | .var i, X, e, C, hN, h => by
    unfold chkE at h
    obtain ⟨x, p, rfl, h1, h2, h3⟩ := chkV_of h
    exact .plain (s_var (by rw [hN]; exact h1) h2 h3) rfl rfl
  | .frz i, X, e, C, hN, h => by
    unfold chkE at h
    obtain ⟨x, p, rfl, h1, h2, h3⟩ := chkV_of h
    exact .plain (s_frz (by rw [hN]; exact h1) h2 h3) rfl rfl
  | .mov i, X, e, C, hN, h => by
    unfold chkE at h
    obtain ⟨x, p, rfl, h1, h2, h3⟩ := chkV_of h
    exact .plain (s_mov (by rw [hN]; exact h1) h2 h3) rfl rfl
  | .glb n, X, e, C, hN, h => by
    unfold chkE at h
    split at h
    · obtain ⟨rfl, h1, h2⟩ := chkN_of h
      exact .plain (s_glb C h1 h2) rfl rfl
    · cases h
  | .gix _ _, X, e, C, hN, h => by unfold chkE at h; cases h
  | .cst d, X, e, C, hN, h => by
    unfold chkE at h
    exact .plain (s_cst h) (chkC_plain h).1 (chkC_plain h).2
  | .tup ms, X, e, C, hN, h => by
    unfold chkE at h
    split at h
    · exact .plain (s_tup (sndEs ms C hN h).1) rfl rfl
    · cases h
  | .lst ms, X, e, C, hN, h => by
    unfold chkE at h
    split at h
    · exact .plain (s_lst (sndEs ms C hN h).1) rfl rfl
    · cases h
  | .dct _ _, X, e, C, hN, h => by unfold chkE at h; cases h
  | .bin op a b, X, e, C, hN, h => by
    unfold chkE at h
    split at h
    · simp only [Bool.and_eq_true, beq_iff_eq] at h
      obtain ⟨⟨rfl, h2⟩, h3⟩ := h
      exact .plain (s_bin (sndE a C hN h2).pe (sndE b C hN h3).pe) rfl rfl
    · cases h
  | .cmp op a b, X, e, C, hN, h => by
    unfold chkE at h
    split at h
    · simp only [Bool.and_eq_true, beq_iff_eq, Bool.not_eq_true'] at h
      obtain ⟨⟨⟨rfl, h1⟩, h2⟩, h3⟩ := h
      have := s_cmp (pos := by assumption) C.hu (sndE a C hN h2).pe (sndE b C hN h3).pe h1
      exact ⟨this.1, fun _ => this.2, fun _ _ _ he => by (cases he), fun _ _ _ _ _ _ hc => by cases hc⟩
    · cases h
  | .chn op op' a b c, X, e, C, hN, h => by
    unfold chkE at h
    split at h
    · simp only [Bool.and_eq_true, beq_iff_eq, Bool.not_eq_true'] at h
      obtain ⟨⟨⟨⟨⟨rfl, rfl⟩, h1⟩, h2⟩, h3⟩, h4⟩ := h
      have := s_chn (pos := by assumption) C.hu (sndE a C hN h2).pe (sndE b C hN h3).pe (sndE c C hN h4).pe h1
      exact ⟨this.1, fun _ => this.2, fun _ _ _ he => by (cases he), fun _ _ _ _ _ _ hc => by cases hc⟩
    · cases h
  | .isn neg a, X, e, C, hN, h => by
    unfold chkE at h
    split at h
    · rename_i x o k p1 p2
      simp only [Bool.and_eq_true, beq_iff_eq] at h
      obtain ⟨rfl, h2⟩ := h
      have := s_isn (neg := neg) (pos := p2) (j := k) (pos' := p1) (sndE a C hN h2).pe
      exact ⟨this.1, fun _ => this.2, fun _ _ _ he => by (cases he), fun _ _ _ _ _ _ hc => by cases hc⟩
    · cases h
  | .and a b, X, e, C, hN, h => by
    unfold chkE at h
    split at h
    · simp only [Bool.and_eq_true] at h
      obtain ⟨⟨⟨h1, h2⟩, h3⟩, h4⟩ := h
      have ha := sndE a C hN h3
      have hb := sndE b C hN h4
      have pw := t_and (pos := by assumption) (ha.pt h1) (pw_and1 (hb.pt h2))
      exact ⟨s_and ha.pe (pe_one hb.pe), fun _ => pw.pt, fun _ _ _ _ => pw, fun _ _ _ _ _ _ hc => by cases hc⟩
    · simp only [Bool.and_eq_true] at h
      obtain ⟨⟨h1, h3⟩, h4⟩ := h
      have ha := sndE a C hN h3
      have hb := sndE b C hN h4
      have pw := t_and (ha.pt h1) (hb.pw _ _ _ rfl)
      exact ⟨s_and ha.pe hb.pe, fun _ => pw.pt, fun _ _ _ _ => pw, fun _ _ _ _ _ _ hc => by cases hc⟩
    · cases h
  | .or a b, X, e, C, hN, h => by
    unfold chkE at h
    split at h
    · simp only [Bool.and_eq_true] at h
      obtain ⟨⟨⟨h1, h2⟩, h3⟩, h4⟩ := h
      have ha := sndE a C hN h3
      have hb := sndE b C hN h4
      have pw := t_or (pos := by assumption) (ha.pt h1) (pw_or1 (hb.pt h2))
      exact ⟨s_or ha.pe (pe_one hb.pe), fun _ => pw.pt, fun _ _ _ _ => pw, fun _ _ _ _ _ _ hc => by cases hc⟩
    · simp only [Bool.and_eq_true] at h
      obtain ⟨⟨h1, h3⟩, h4⟩ := h
      have ha := sndE a C hN h3
      have hb := sndE b C hN h4
      have pw := t_or (ha.pt h1) (hb.pw _ _ _ rfl)
      exact ⟨s_or ha.pe hb.pe, fun _ => pw.pt, fun _ _ _ _ => pw, fun _ _ _ _ _ _ hc => by cases hc⟩
    · cases h
  | .not a, X, e, C, hN, h => by
    unfold chkE at h
    split at h
    · simp only [Bool.and_eq_true] at h
      have ha := sndE a C hN h.2
      exact ⟨s_not ha.pe, fun _ => t_not (ha.pt h.1), fun _ _ _ he => (nomatch he), fun _ _ _ _ _ _ hc => by cases hc⟩
    · cases h
  | .neg a, X, e, C, hN, h => by
    unfold chkE at h
    split at h
    · exact .plain (s_neg (sndE a C hN h).pe) rfl rfl
    · cases h
  | .ite t a b, X, e, C, hN, h => by
    unfold chkE at h
    split at h
    · simp only [Bool.and_eq_true] at h
      obtain ⟨⟨⟨h1, h2⟩, h3⟩, h4⟩ := h
      exact ⟨s_ite ((sndE t C hN h2).pt h1) (sndE a C hN h3).pe (sndE b C hN h4).pe, fun hi => (nomatch hi), fun _ _ _ he => (nomatch he), fun _ _ _ _ _ _ hc => by cases hc⟩
    · cases h
  | .ix a i, X, e, C, hN, h => by
    unfold chkE at h
    split at h
    · simp only [Bool.and_eq_true] at h
      obtain ⟨⟨h1, h2⟩, h3⟩ := h
      exact .plain (s_ix C.hu (sndE a C hN h2).pe (sndE i C hN h3).pe h1) rfl rfl
    · cases h
  | .sl a lo hi, X, e, C, hN, h => by
    unfold chkE at h
    split at h
    · simp only [Bool.and_eq_true] at h
      obtain ⟨⟨h1, h2⟩, h3⟩ := h
      exact .plain (s_sl (sndE a C hN h1).pe (sndO lo C hN h2) (sndO hi C hN h3)) rfl rfl
    · cases h
  | .rev _, X, e, C, hN, h => by unfold chkE at h; cases h
  | .call f ms, X, e, C, hN, h => by
    unfold chkE at h
    split at h
    · rename_i x p es q
      simp only [Bool.and_eq_true] at h
      obtain ⟨⟨h1, h2⟩, h3⟩ := h
      obtain ⟨rfl, h4, h5⟩ := chkN_of h1
      cases es with
      | nil =>
        have : ms = [] := by
          cases ms with
          | nil => rfl
          | cons m ms => cases m <;> (unfold chkAs at h3; cases h3)
        subst this
        exact .plain (s_call0 C h4 h5) rfl rfl
      | cons e es => exact .plain (s_call C h4 h5 (sndAs ms C hN h3) h2) rfl rfl
    · cases h
  | .lent _, X, e, C, hN, h => by unfold chkE at h; cases h
  | .blt b ms, X, e, C, hN, h => by
    unfold chkE at h
    split at h
    · rename_i x p es q
      simp only [Bool.and_eq_true, beq_iff_eq, Bool.not_eq_true'] at h
      obtain ⟨⟨⟨⟨rfl, h1⟩, h2⟩, h3⟩, h4⟩ := h
      cases es with
      | nil => cases h2
      | cons e es => exact .plain (s_blt C (gl_of h1) (sndEs ms C hN h4).1 h3) rfl rfl
    · cases h
  | .isi t a, X, e, C, hN, h => by
    unfold chkE at h
    split at h
    · simp only [Bool.and_eq_true, beq_iff_eq] at h
      obtain ⟨⟨⟨⟨⟨rfl, h1⟩, rfl⟩, h2⟩, h3⟩, h4⟩ := h
      exact .plain (s_isi C (gl_of h1) (gl_of h2) (sndE a C hN h4).pe h3) rfl rfl
    · cases h
  | .mth _ _ _, X, e, C, hN, h => by unfold chkE at h; cases h
  | .oix i a, X, e, C, hN, h => by
    unfold chkE at h
    split at h
    · simp only [Bool.and_eq_true] at h
      obtain ⟨⟨h1, h2⟩, h3⟩ := h
      obtain ⟨x, p, rfl, h4, h5, h6⟩ := chkV_of h1
      exact .plain (s_oix C.hu (by rw [hN]; exact h4) h5 h6 (sndE a C hN h3).pe h2) rfl rfl
    · cases h
  | .oin _ _ _, X, e, C, hN, h => by unfold chkE at h; cases h
  | .olen _, X, e, C, hN, h => by unfold chkE at h; cases h
  | .oemp _ _, X, e, C, hN, h => by unfold chkE at h; cases h
  | .oget _ _ _, X, e, C, hN, h => by unfold chkE at h; cases h
  | .okeys _, X, e, C, hN, h => by unfold chkE at h; cases h
  | .comp m tg it conds, X, e, C, hN, h => by
    unfold chkE at h
    split at h
    · rename_i elt t iter ifs k scope p
      simp only [Bool.and_eq_true, decide_eq_true_eq] at h
      obtain ⟨⟨⟨⟨⟨⟨rfl, h1⟩, h2⟩, h3⟩, h4⟩, h5⟩, h6⟩ := h
      obtain ⟨b1, b2⟩ := blk_of h2
      have hb : ∀ (s : Shared) (H : Hp) (cl : List (Str × Addr)) (A : Addr) (fp : List Addr), (X.blk s H scope (compEnvC scope cl A X.env) fp).env.scope = relS scope X.env.scope := fun _ _ _ _ _ => rfl
      have hg : ∀ (s : Shared) (H : Hp) (A : Addr) (cl : List (Str × Addr)) (fp : List Addr), PG (X.blk s H scope (compEnvC scope cl A X.env) fp) t (gTg X.K X.w tg) := fun s H A cl fp =>
        s_tg (X := X.blk s H scope (compEnvC scope cl A X.env) fp) (lc := locB (relS scope X.env.scope)) C.calm C.nd (fun x hx => ⟨.inl (loc_of hx), .inr (loc_of hx)⟩) (by show chkTg X.N _ _ _ = true; rw [hN]; exact h3)
      have ht : ∀ (s : Shared) (H : Hp) (A : Addr) (cl : List (Str × Addr)) (fp : List Addr), PTs (X.blk s H scope (compEnvC scope cl A X.env) fp) ifs (tCs X.K X.w (evCs Φ G conds)) := fun s H A cl fp =>
        sndCs conds (Cx.blkOk C s H scope _ fp) hN h5
      have he : ∀ (s : Shared) (H : Hp) (A : Addr) (cl : List (Str × Addr)) (fp : List Addr), PE (X.blk s H scope (compEnvC scope cl A X.env) fp) elt (tGen X.K X.w (evE Φ G m)) := fun s H A cl fp =>
        (sndE m (Cx.blkOk C s H scope _ fp) hN h6).pe
      have hi := sndI it C hN h4
      have hp := s_comp (pos := p) C.calm C.nd hi (by rw [hN]; exact b1) b2 hg ht he h1
      exact ⟨hp, fun _ => s_pt hp rfl, fun _ _ _ e => (nomatch e), fun i y py spos hy hyl _ hsw => s_setLc C.calm C.nd hy hyl hsw hi (by rw [hN]; exact b1) b2 hg ht he h1⟩
    · cases h
  | .comp2 _ _ _ _ _, X, e, C, hN, h => by unfold chkE at h; cases h
theorem sndEs : ∀ (ms : List E) {X : Cx} {es : List Expr}, COk nm Φ G X → X.N = N → chkEs nm N X.env.scope ms es = true → PA X es (tLst X.K X.w (evEs Φ G ms)) ∧ es.length = ms.length
  | [], X, es, C, hN, h => by
    unfold chkEs at h
    cases es with
    | nil => exact ⟨s_nil, rfl⟩
    | cons => cases h
  | m :: ms, X, es, C, hN, h => by
    unfold chkEs at h
    split at h
    · simp only [Bool.and_eq_true] at h
      obtain ⟨⟨h1, h2⟩, h3⟩ := h
      obtain ⟨i1, i2⟩ := sndEs ms C hN h3
      exact ⟨s_cons (sndE m C hN h2).pe i1 (notStar_eq h1 _ _), by simp [i2]⟩
    · cases h
theorem sndO : ∀ (m : Option E) {X : Cx} {e : Option Expr}, COk nm Φ G X → X.N = N → chkO nm N X.env.scope m e = true → PO X e (tOpt X.K X.w (evO Φ G m))
  | none, X, e, C, hN, h => by
    unfold chkO at h
    cases e with
    | none => exact s_o0
    | some => cases h
  | some m, X, e, C, hN, h => by
    unfold chkO at h
    split at h
    · exact s_o1 (sndE m C hN h).pe
    · cases h
theorem sndAs : ∀ (ms : List E) {X : Cx} {es : List Expr}, COk nm Φ G X → X.N = N → chkAs nm N X.env.scope ms es = true → PA X es (tArg X.K X.w ms (evAs Φ G ms))
  | [], X, es, C, hN, h => by
    unfold chkAs at h
    cases es with
    | nil => exact s_a0
    | cons => cases h
  | m :: ms, X, es, C, hN, h => by
    by_cases hl : ∃ i, m = .lent i
    · obtain ⟨i, rfl⟩ := hl
      unfold chkAs at h
      split at h
      · simp only [Bool.and_eq_true] at h
        obtain ⟨x, p, rfl, h4, h5, h6⟩ := chkV_of h.1
        exact s_aL (by rw [hN]; exact h4) h5 h6 (sndAs ms C hN h.2)
      · cases h
    · have hn : ∀ i, m ≠ .lent i := fun i e => hl ⟨i, e⟩
      rw [chkAs_val hn] at h
      have h' := h
      split at h'
      · simp only [Bool.and_eq_true] at h'
        exact s_aV hn (sndE m C hN h'.1.2).pe (sndAs ms C hN h'.2) h'.1.1
      · cases h'
theorem sndCs : ∀ (ms : List E) {X : Cx} {es : List Expr}, COk nm Φ G X → X.N = N → chkCs nm N X.env.scope ms es = true → PTs X es (tCs X.K X.w (evCs Φ G ms))
  | [], X, es, C, hN, h => by
    unfold chkCs at h
    cases es with
    | nil => exact s_c0
    | cons => cases h
  | [m], X, es, C, hN, h => by
    unfold chkCs at h
    split at h
    · rw [Bool.and_eq_true] at h
      exact s_c1 ((sndE m C hN h.2).pt h.1)
    · cases h
  | _ :: _ :: _, X, es, C, hN, h => by unfold chkCs at h; cases h
theorem sndI : ∀ (it : It) {X : Cx} {tg e : Expr}, COk nm Φ G X → X.N = N → chkI nm N X.env.scope it tg e = true → PI X tg e (tIt X.K X.w (evI Φ G it))
  | .seq a, X, tg, e, C, hN, h => by
    unfold chkI at h
    exact s_seq (sndE a C hN h).pe
  | .sgn a, X, tg, e, C, hN, h => by
    unfold chkI at h
    exact s_sgn (sndE a C hN h).pe
  | .rng a, X, tg, e, C, hN, h => by
    unfold chkI at h
    split at h
    · simp only [Bool.and_eq_true, beq_iff_eq] at h
      obtain ⟨⟨⟨rfl, h1⟩, h2⟩, h3⟩ := h
      exact s_rng C (gl_of h1) (sndE a C hN h3).pe h2
    · cases h
  | .rng2 a b, X, tg, e, C, hN, h => by
    unfold chkI at h
    split at h
    · simp only [Bool.and_eq_true, beq_iff_eq] at h
      obtain ⟨⟨⟨⟨⟨rfl, h1⟩, h2⟩, h3⟩, h4⟩, h5⟩ := h
      exact s_rng2 C (gl_of h1) (sndE a C hN h4).pe (sndE b C hN h5).pe h2 h3
    · cases h
  | .enm _, X, tg, e, C, hN, h => by unfold chkI at h; cases h
end
end
end BP

set_option maxRecDepth 100000
set_option maxHeartbeats 4000000
/-! The look at statements. -/
namespace BP
open PySem PySem.Spec PyProof.Rows L2

/-- does name = [..] swap, within a function -/
def swB (sc : Scope) (t : Str) (tp : Pos) : Expr → Option Bool
  | .ListComp _ _ s p => some (sc.names.lookup t == some .local && tp.line == p.line && !(s.names.any fun (n, k) => n == t && (k == .local || k == .cell)))
  | .SetComp .. => none
  | .DictComp .. => none
  | _ => some false
theorem blockKind_fn {env : PySem.Env} (h : env.scope.kind = .function) : env.blockKind = .function := by
  unfold Env.blockKind
  rw [h]; rfl
theorem swB_eq {env : PySem.Env} (hk : env.scope.kind = .function) {t : Str} {tp : Pos} {e : Expr} {l : Nat} {b : Bool} (h : swB env.scope t tp e = some b) : swapsWith e (some (.Name t tp)) l env = pure b := by
  cases e with
  | ListComp elt gs s p =>
    unfold swB at h
    cases h
    show (pure (env.blockKind == .function && env.kindOf t == some .local && tp.line == p.line && !(s.names.any fun (n, k) => n == t && (k == .local || k == .cell))) : Sem Bool) = _
    rw [blockKind_fn hk]
    rfl
  | SetComp => cases h
  | DictComp => cases h
  | _ => (cases h; rfl)
def isStar : Expr → Bool
  | .Starred .. => true
  | _ => false
def namesS (sc : Scope) (line : Nat) (ts : List Expr) : List Str := ts.filterMap fun
    | .Name id pos => if sc.names.lookup id == some .local && pos.line == line then some id else none
    | _ => none
def swS (sc : Scope) (ts vs : List Expr) : Option (Option (List Str)) :=
  if !(ts.length == 2 || ts.length == 3) || vs.length != ts.length then some none else
  if vs.any isStar then some none else
  if (namesS sc ((ts.head?.map (·.pos.line)).getD 0) ts).length != ts.length || (namesS sc ((ts.head?.map (·.pos.line)).getD 0) ts).eraseDups.length != (namesS sc ((ts.head?.map (·.pos.line)).getD 0) ts).length then some none else
  if vs.all (foldedForSure 8) then some none else
  if vs.all (constantsAlone 8) then none else some (some (namesS sc ((ts.head?.map (·.pos.line)).getD 0) ts))
theorem swS_eq {env : PySem.Env} (hk : env.scope.kind = .function) {ts vs : List Expr} {k k2 : Nat} {p p2 : Pos} {r : Option (List Str)} (h : swS env.scope ts vs = some r) :
    swappedStores [.Tuple ts k p] (.Tuple vs k2 p2) env = pure r := by
  show (if (!(ts.length == 2 || ts.length == 3) || vs.length != ts.length || env.blockKind != ScopeKind.function) = true then (pure none : Sem (Option (List Str))) else
    if (vs.any isStar) = true then pure none else
    if ((namesS env.scope ((ts.head?.map (·.pos.line)).getD 0) ts).length != ts.length || (namesS env.scope ((ts.head?.map (·.pos.line)).getD 0) ts).eraseDups.length != (namesS env.scope ((ts.head?.map (·.pos.line)).getD 0) ts).length) = true then pure none else
    if (vs.all (foldedForSure 8)) = true then pure none else
    if (vs.all (constantsAlone 8)) = true then (do let _ ← (unsupported "assign.tuple-of-constant-expressions:order-of-the-stores" : Sem Unit); pure (some (namesS env.scope ((ts.head?.map (·.pos.line)).getD 0) ts)))
    else pure (some (namesS env.scope ((ts.head?.map (·.pos.line)).getD 0) ts))) = pure r
  rw [blockKind_fn hk, show (ScopeKind.function != ScopeKind.function) = false from rfl, Bool.or_false]
  unfold swS at h
  split at h
  · rename_i c; rw [if_pos c]; cases h; rfl
  · rename_i c; rw [if_neg c]
    split at h
    · rename_i c; rw [if_pos c]; cases h; rfl
    · rename_i c; rw [if_neg c]
      split at h
      · rename_i c; rw [if_pos c]; cases h; rfl
      · rename_i c; rw [if_neg c]
        split at h
        · rename_i c; rw [if_pos c]; cases h; rfl
        · rename_i c; rw [if_neg c]
          split at h
          · cases h
          · rename_i c; rw [if_neg c]; cases h; rfl

section
variable (nm : Nm) (N : List Str)
def lcB (sc : Scope) (x : Str) : Bool := (sc.names.lookup x == some .local) || (sc.names.lookup x == some .cell)
theorem lcB_of {sc : Scope} {x : Str} (h : lcB sc x = true) : Loc sc x := by
  unfold lcB at h
  simp only [Bool.or_eq_true, beq_iff_eq] at h
  exact h
def nameOf : Expr → Str
  | .Name x _ => x
  | _ => ""
/-- a name in that slot that may be stored; its value is e -/
def chkSet (sc : Scope) (i : Nat) (m : E) (t e : Expr) : Bool := match t with
  | .Name x p => (N[i]? == some x) && lcB sc x && (swB sc x p e).isSome && chkE nm N sc m e
  | _ => false
mutual
def chkS (sc : Scope) : S → Stmt → Bool
  | .set t m, s => match s with
    | .Assign [tg] e _ => match t with
      | .nm i => chkSet nm N sc i m tg e
      | .tp ts => match tg, e with
        | .Tuple tes _ _, .Tuple ves _ _ => chkTgs N (lcB sc) ts tes && (swS sc tes ves == some none) && chkE nm N sc m e
        | .Tuple tes _ _, _ => chkTgs N (lcB sc) ts tes && chkE nm N sc m e
        | _, _ => false
    | _ => false
  | .seto i m, s => match s with
    | .Assign [tg] e _ => chkSet nm N sc i m tg e
    | _ => false
  | .par is ms, s => match s with
    | .Assign [.Tuple ts _ _] (.Tuple es _ _) _ => match is, ts, es with
      | [i, j], [.Name x _, .Name y _], [_, _] => (N[i]? == some x) && (N[j]? == some y) && decide (i ≠ j) && locB sc x && locB sc y && (swS sc ts es == some (some [x, y])) && chkEs nm N sc ms es
      | [i, j, l], [.Name x _, .Name y _, .Name z _], [_, _, _] => (N[i]? == some x) && (N[j]? == some y) && (N[l]? == some z) && decide (i ≠ j) && decide (i ≠ l) && decide (j ≠ l) && locB sc x && locB sc y && locB sc z &&
          (swS sc ts es == some (some [x, y, z])) && chkEs nm N sc ms es
      | _, _, _ => false
    | _ => false
  | .drop m, s => match s with
    | .Expr e _ => notComp e && chkE nm N sc m e
    | _ => false
  | .app _ _, _ => false
  | .appf _ _ _, _ => false
  | .put i k m, s => match s with
    | .Assign [.Subscript x b _] e _ => chkV N sc i x && notSlice b && notComp e && chkE nm N sc k b && chkE nm N sc m e
    | _ => false
  | .iff t a b, s => match s with
    | .If c x y _ => noIf c && chkE nm N sc t c && chkSs sc a x && chkSs sc b y
    | _ => false
  | .whl t a, s => match s with
    | .While c x [] _ => noIf c && chkE nm N sc t c && chkSs sc a x
    | _ => false
  | .for_ tg it a, s => match s with
    | .For t iter x [] _ => noSet iter && chkTg N (lcB sc) tg t && chkI nm N sc it t iter && chkSs sc a x
    | _ => false
  | .ret m, s => match s with
    | .Return (some e) _ => chkE nm N sc m e
    | _ => false
  | .reto m, s => match s with
    | .Return (some e) _ => chkE nm N sc m e
    | _ => false
  | .retN, s => match s with
    | .Return none _ => true
    | _ => false
  | .nev, _ => true
def chkSs (sc : Scope) : List S → List Stmt → Bool
  | [], ss => ss.isEmpty
  | m :: ms, ss => match ss with
    | s :: ss => chkS sc m s && chkSs sc ms ss
    | [] => false
end
end

section
variable {nm : Nm} {N : List Str} {Φ : Calls} {G : Nat → Option D} {W : Nat}
theorem set_of {X : Cx} {i : Nat} {m : E} {t e : Expr} {p : Pos} (C : COk nm Φ G X) (hN : X.N = N) (hk : X.env.scope.kind = .function) (hf : ∀ x, X.fn x = true) (h : chkSet nm N X.env.scope i m t e = true) :
    PS X (.Assign [t] e p) (tAsg (tGen X.K X.w (evE Φ G m)) (gName i)) := by
  unfold chkSet at h
  split at h
  · rename_i x px
    simp only [Bool.and_eq_true, beq_iff_eq] at h
    obtain ⟨⟨⟨h1, h2⟩, h3⟩, h4⟩ := h
    obtain ⟨b, hb⟩ := Option.isSome_iff_exists.mp h3
    have sn := sndE m C hN h4
    have hi : X.N[i]? = some x := by rw [hN]; exact h1
    cases b with
    | false => exact ps_set C.nd hi (lcB_of h2) sn.pe (swB_eq hk hb) (.inl (hf x))
    | true =>
      have hc : notComp e = false := by
        cases e with
        | ListComp => rfl
        | SetComp => cases hb
        | DictComp => cases hb
        | _ => cases hb
      have hl : X.env.scope.names.lookup x = some .local := by
        cases e with
        | ListComp =>
          unfold swB at hb
          simp only [Option.some.injEq, Bool.and_eq_true, beq_iff_eq] at hb
          exact hb.1.1
        | SetComp => cases hb
        | DictComp => cases hb
        | _ => cases hb
      exact sn.lc i x px p hi hl hc (swB_eq hk hb)
  · cases h
theorem notTup_sw {t e : Expr} (h : ∀ es k p, e ≠ .Tuple es k p) (env : PySem.Env) : swappedStores [t] e env = pure none := by
  cases e with
  | Tuple es k p => exact absurd rfl (h es k p)
  | _ => cases t <;> rfl
theorem tup_sole (tes : List Expr) (k : Nat) (p : Pos) (e : Expr) (l : Nat) (env : PySem.Env) : swapsWithSole [.Tuple tes k p] e l env = pure false := by
  cases e <;> rfl
mutual
theorem sndS : ∀ (m : S) {X : Cx} {s : Stmt}, COk nm Φ G X → X.N = N → X.env.scope.kind = .function → (∀ x, X.fn x = true) → chkS nm N X.env.scope m s = true → PS X s (tS X.K X.w (evS Φ G W m))
  | .set (.nm i) m, X, s, C, hN, hk, hf, h => by
    unfold chkS at h
    split at h
    · exact s_set (set_of C hN hk hf h)
    · cases h
  | .set (.tp ts) m, X, s, C, hN, hk, hf, h => by
    unfold chkS at h
    split at h
    · rename_i tg e p
      dsimp only at h
      have hl : ∀ x, lcB X.env.scope x = true → Loc X.env.scope x ∧ (X.fn x = true ∨ X.env.scope.names.lookup x = some .local) := fun x hx => ⟨lcB_of hx, .inl (hf x)⟩
      split at h
      · rename_i tes k1 p1 ves k2 p2
        simp only [Bool.and_eq_true, beq_iff_eq] at h
        obtain ⟨⟨h1, h2⟩, h3⟩ := h
        exact s_setT (sndE m C hN h3).pe (s_tg (t := .tp ts) (lc := lcB X.env.scope) C.calm C.nd hl (by unfold chkTg; rw [hN]; exact h1)) rfl (swS_eq hk h2) rfl
      · rename_i tes k1 p1 _ hne
        simp only [Bool.and_eq_true] at h
        obtain ⟨h1, h3⟩ := h
        exact s_setT (sndE m C hN h3).pe (s_tg (t := .tp ts) (lc := lcB X.env.scope) C.calm C.nd hl (by unfold chkTg; rw [hN]; exact h1)) (tup_sole _ _ _ _ _ _) (notTup_sw (fun es k p e => by subst e; exact hne _ _ _ rfl) _) rfl
      · cases h
    · cases h
  | .seto i m, X, s, C, hN, hk, hf, h => by
    unfold chkS at h
    split at h
    · exact s_seto (set_of C hN hk hf h)
    · cases h
  | .par is ms, X, s, C, hN, hk, hf, h => by
    unfold chkS at h
    split at h
    · rename_i ts k1 p1 es k2 p2 p
      split at h
      · simp only [Bool.and_eq_true, beq_iff_eq, decide_eq_true_eq] at h
        obtain ⟨⟨⟨⟨⟨⟨h1, h2⟩, h3⟩, h4⟩, h5⟩, h6⟩, h7⟩ := h
        exact s_par2 (ta := []) (ps_par C.calm C.nd (by rw [hN]; exact h1) (by rw [hN]; exact h2) h3 (loc_of h4) (loc_of h5) (sndEs ms C hN h7).1 (swS_eq hk h6))
      · simp only [Bool.and_eq_true, beq_iff_eq, decide_eq_true_eq] at h
        obtain ⟨⟨⟨⟨⟨⟨⟨⟨⟨⟨h1, h2⟩, h2'⟩, h3⟩, h3'⟩, h3''⟩, h4⟩, h5⟩, h5'⟩, h6⟩, h7⟩ := h
        exact s_par3 (ps_par3 C.calm C.nd (by rw [hN]; exact h1) (by rw [hN]; exact h2) (by rw [hN]; exact h2') h3 h3' h3'' (loc_of h4) (loc_of h5) (loc_of h5') (sndEs ms C hN h7).1 (swS_eq hk h6))
      · cases h
    · cases h
  | .drop m, X, s, C, hN, hk, hf, h => by
    unfold chkS at h
    split at h
    · rw [Bool.and_eq_true] at h
      exact s_drop (sndE m C hN h.2).pe h.1
    · cases h
  | .app _ _, X, s, C, hN, hk, hf, h => by unfold chkS at h; cases h
  | .appf _ _ _, X, s, C, hN, hk, hf, h => by unfold chkS at h; cases h
  | .put i k m, X, s, C, hN, hk, hf, h => by
    unfold chkS at h
    split at h
    · simp only [Bool.and_eq_true] at h
      obtain ⟨⟨⟨⟨h1, h2⟩, h3⟩, h4⟩, h5⟩ := h
      obtain ⟨x, p, rfl, h6, h7, h8⟩ := chkV_of h1
      exact s_put C.hu (by rw [hN]; exact h6) h7 h8 (sndE m C hN h5).pe (sndE k C hN h4).pe h2 h3
    · cases h
  | .iff t a b, X, s, C, hN, hk, hf, h => by
    unfold chkS at h
    split at h
    · simp only [Bool.and_eq_true] at h
      obtain ⟨⟨⟨h1, h2⟩, h3⟩, h4⟩ := h
      exact s_if ((sndE t C hN h2).pt h1) (sndSs a C hN hk hf h3) (sndSs b C hN hk hf h4)
    · cases h
  | .whl t a, X, s, C, hN, hk, hf, h => by
    unfold chkS at h
    split at h
    · simp only [Bool.and_eq_true] at h
      obtain ⟨⟨h1, h2⟩, h3⟩ := h
      exact s_whl C ((sndE t C hN h2).pt h1) (sndSs a C hN hk hf h3)
    · cases h
  | .for_ tg it a, X, s, C, hN, hk, hf, h => by
    unfold chkS at h
    split at h
    · simp only [Bool.and_eq_true] at h
      obtain ⟨⟨⟨h1, h2⟩, h3⟩, h4⟩ := h
      have hl : ∀ x, lcB X.env.scope x = true → Loc X.env.scope x ∧ (X.fn x = true ∨ X.env.scope.names.lookup x = some .local) := fun x hx => ⟨lcB_of hx, .inl (hf x)⟩
      exact s_for C (sndI it C hN h3) (s_tg (lc := lcB X.env.scope) C.calm C.nd hl (by rw [hN]; exact h2)) (sndSs a C hN hk hf h4) h1
    · cases h
  | .ret m, X, s, C, hN, hk, hf, h => by
    unfold chkS at h
    split at h
    · exact s_ret (sndE m C hN h).pe
    · cases h
  | .reto m, X, s, C, hN, hk, hf, h => by
    unfold chkS at h
    split at h
    · exact s_reto (sndE m C hN h).pe
    · cases h
  | .retN, X, s, C, hN, hk, hf, h => by
    unfold chkS at h
    split at h
    · exact s_retN
    · cases h
  | .nev, X, s, C, hN, hk, hf, h => s_nev
theorem sndSs : ∀ (ms : List S) {X : Cx} {ss : List Stmt}, COk nm Φ G X → X.N = N → X.env.scope.kind = .function → (∀ x, X.fn x = true) → chkSs nm N X.env.scope ms ss = true → PSs X ss (tS X.K X.w (evSs Φ G W ms))
  | [], X, ss, C, hN, hk, hf, h => by
    unfold chkSs at h
    cases ss with
    | nil => exact s_ss0
    | cons => cases h
  | m :: ms, X, ss, C, hN, hk, hf, h => by
    unfold chkSs at h
    split at h
    · rw [Bool.and_eq_true] at h
      exact s_ss1 (sndS m C hN hk hf h.1) (sndSs ms C hN hk hf h.2)
    · cases h
end
end
end BP

set_option maxRecDepth 100000
set_option maxHeartbeats 4000000
/-! Arguments meet parameters. -/
namespace BP
open PySem PySem.Spec PyProof.Rows L2

theorem zip_look {α : Type} : ∀ {ns : List Str} {us : List α} {x : Str}, us.length = ns.length → x ∈ ns → ((ns.zip us).lookup x).isSome = true
  | [], _, _, _, h => absurd h (by simp)
  | n :: ns, [], _, h, _ => by simp at h
  | n :: ns, u :: us, x, hl, h => by
    rw [List.zip_cons_cons, List.lookup_cons]
    cases e : x == n with
    | true => rfl
    | false =>
      rcases List.mem_cons.mp h with z | z
      · subst z; simp at e
      · exact zip_look (by simpa using hl) z
theorem zip_fm {α : Type} : ∀ (ns : List Str) (us : List α), ns.Nodup → us.length = ns.length → ∀ (pre : List (Str × α)), (∀ p ∈ pre, p.1 ∉ ns) → ns.filterMap (fun n => ((pre ++ ns.zip us).lookup n).map fun x => (n, x)) = ns.zip us
  | [], us, _, _, _, _ => by simp
  | n :: ns, [], _, h, _, _ => by simp at h
  | n :: ns, u :: us, nd, hl, pre, hp => by
    rw [List.nodup_cons] at nd
    have e1 : (pre ++ (n :: ns).zip (u :: us)).lookup n = some u := by
      clear hl nd
      induction pre with
      | nil => simp
      | cons p pre ih =>
        have hne : (n == p.1) = false := by
          have := hp p List.mem_cons_self
          simp at this ⊢
          exact fun e => this.1 e.symm
        obtain ⟨p1, p2⟩ := p
        rw [List.cons_append, List.lookup_cons, hne]
        exact ih fun q hq => hp q (List.mem_cons_of_mem _ hq)
    rw [List.filterMap_cons, e1]
    have := zip_fm ns us nd.2 (by simpa using hl) (pre ++ [(n, u)]) fun p hpm => by
      rcases List.mem_append.mp hpm with z | z
      · exact fun h => hp p z (List.mem_cons_of_mem _ h)
      · obtain rfl : p = (n, u) := by simpa using z
        exact nd.1
    rw [List.append_assoc] at this
    rw [List.zip_cons_cons]
    exact congrArg _ this
def plainArgs (as : List Arg) : Arguments := ⟨[], as, none, [], [], none, []⟩
theorem bind_plain {x qual : Str} {as : List Arg} {body : List Stmt} {scope : Scope} {kV doc pm : Value} {an : Option Addr} {cdv ct : Value} {us : List Value} (nd : (as.map (·.arg)).Nodup) (hl : us.length = (as.map (·.arg)).length) :
    bindArgs (PySem.W.fnOf x qual (plainArgs as) body scope .none kV doc pm an cdv ct) ⟨us, []⟩ = pure ((as.map (·.arg)).zip us) := by
  have hl2 : us.length = as.length := by simpa using hl
  have e0 : seqItems? Value.none = pure none := rfl
  have e1 : ((as.map (·.arg)).filter fun n => (((as.map (·.arg)).zip us).lookup n).isNone) = [] := by
    rw [List.filter_eq_nil_iff]
    intro n hn
    have := zip_look hl hn
    simp [Option.isSome_iff_ne_none] at this ⊢
    exact this
  have e2 := zip_fm (as.map (·.arg)) us nd hl [] (by simp)
  rw [List.nil_append] at e2
  unfold bindArgs
  show (do
    let dv ← seqItems? Value.none
    _) = _
  rw [e0]
  simp only [pure_bind]
  simp [plainArgs, PySem.W.fnOf, hl2]
  refine Eq.trans (if_neg ?_) ?_
  · simp only [List.map_nil, List.nil_append, List.drop_nil, List.length_nil, Nat.sub_zero, List.take_length]
    rw [e1]
    simp
  · rw [← List.filterMap_map, e2]
end BP

set_option maxRecDepth 100000
set_option maxHeartbeats 4000000
/-! Defs: the interpreter's answer is what the def gives. -/
namespace BP
open PySem PySem.Spec PyProof.Rows L2

section
variable {K : PySem.W.Frag} {w : World}
theorem EnvR.append {F H : Hp} : ∀ {L M : List (Option Addr)} {σ τ : L2.St} {ρ π : Env} {as bs : List Addr}, EnvR K w F H L σ ρ as → EnvR K w F H M τ π bs → EnvR K w F H (L ++ M) (σ ++ τ) (ρ ++ π) (as ++ bs)
  | _, _, _, _, _, _, _, _, .nil, h => h
  | _, _, _, _, _, _, _, bs, .cons (as := as) (bs := cs) s r, h => by
    have := EnvR.cons s (r.append h)
    rwa [← List.append_assoc] at this
theorem EnvR.blank {F H : Hp} : ∀ n : Nat, EnvR K w F H (List.replicate n none) (List.replicate n none) (List.replicate n .emp) []
  | 0 => .nil
  | n + 1 => .cons (as := []) .emp (EnvR.blank n)
theorem outs_skip : ∀ (ss : List Slot) (n : Nat) (s : Slot) (ρ : Env), outs ss (n + 1) (s :: ρ) = outs ss n ρ
  | [], _, _, _ => rfl
  | .lnt o :: ss, n, s, ρ => rfl
  | .emp :: ss, n, s, ρ => outs_skip ss (n + 1) s ρ
  | .val d :: ss, n, s, ρ => outs_skip ss (n + 1) s ρ
  | .own d :: ss, n, s, ρ => outs_skip ss (n + 1) s ρ
theorem outs_ok {F0 H0 F H : Hp} {M : List (Option Addr)} : ∀ {L : List (Option Addr)} {vs : L2.St} {ss : List Slot} {as0 : List Addr} {σ : L2.St} {ρ : Env} {as : List Addr} {o : Option O}, EnvR K w F0 H0 L vs ss as0 → EnvR K w F H (L ++ M) σ ρ as → (L.filterMap id).length ≤ 1 → outs ss 0 ρ = some o →
    ∃ as2 : List Addr, OutR K w F H L o as2 ∧ as2.Sublist as
  | _, _, _, _, _, _, as, o, .nil, _, _, e => by
    cases e
    exact ⟨[], .none rfl, List.nil_sublist _⟩
  | _, _, _, _, _, _, _, o, .cons (L := L) s r, h, hl, e => by
    cases h with
    | cons s2 r2 =>
      rename_i x2 sl2 σ2 ρ2 bs cs
      have skip : ∀ {l : Option Addr} {sl : Slot} {ss : List Slot} {as0' bs0 : List Addr} {x : Option V} {σ0 : L2.St}, l = none → outs ss 0 ρ2 = some o → EnvR K w F0 H0 L σ0 ss bs0 → ((l :: L).filterMap id).length ≤ 1 → ∃ as2 : List Addr, OutR K w F H (l :: L) o as2 ∧ as2.Sublist (bs ++ cs) := by
        intro l sl ss as0' bs0 x σ0 hl e r hf
        subst hl
        obtain ⟨as2, q1, q2⟩ := outs_ok r r2 (by simpa using hf) e
        refine ⟨as2, ?_, q2.trans (List.sublist_append_right _ _)⟩
        cases q1 with
        | none z => exact .none (by simpa using z)
        | some z1 z2 => exact .some (by simpa using z1) z2
      cases s with
      | emp => exact skip (sl := .emp) (as0' := []) (x := none) rfl (by rw [← outs_skip _ 0 sl2]; exact e) r hl
      | val q => exact skip (sl := .emp) (as0' := []) (x := none) rfl (by rw [← outs_skip _ 0 sl2]; exact e) r hl
      | own q => exact skip (sl := .emp) (as0' := []) (x := none) rfl (by rw [← outs_skip _ 0 sl2]; exact e) r hl
      | lnt q =>
        unfold outs at e
        cases s2 with
        | lnt q2 =>
          cases e
          refine ⟨bs, .some ?_ q2, List.sublist_append_left _ _⟩
          have hf : L.filterMap id = [] := by
            rw [List.filterMap_cons] at hl
            simp at hl
            exact List.filterMap_eq_nil_iff.mpr fun a ha => by rw [hl a ha]; rfl
          simp [hf]
end

/-! ### a def's text -/
structure DT where
  /-- the def's names, the parameters first -/
  N : List Str
  st : Stmt
def plainB (a : Arguments) : Bool := a.posonlyargs.isEmpty && a.vararg.isNone && a.kwonlyargs.isEmpty && a.kw_defaults.isEmpty && a.kwarg.isNone && a.defaults.isEmpty
theorem plainB_ok {a : Arguments} (h : plainB a = true) : a = plainArgs a.args := by
  obtain ⟨a1, a2, a3, a4, a5, a6, a7⟩ := a
  unfold plainB at h
  simp only [Bool.and_eq_true, List.isEmpty_iff, Option.isNone_iff_eq_none] at h
  obtain ⟨⟨⟨⟨⟨rfl, rfl⟩, rfl⟩, rfl⟩, rfl⟩, rfl⟩ := h
  rfl
/-- the text is that mini text -/
def chkD (nm : Nm) (t : DT) (ps ns : Nat) (body : List S) : Bool :=
  plainB (C8.fnArgs t.st) && decide ((C8.fnArgs t.st).args.map (·.arg) = t.N.take ps) && decide (ps ≤ ns) && decide (t.N.length = ns) && C8.scC t.N (t.N.take ps) (C8.fnScope t.st) && chkSs nm t.N (C8.fnScope t.st) body (C8.fnBody t.st)

/-- what the top has left for a law: its names, its constants, its defs -/
structure TopOk (K : PySem.W.Frag) (w : World) (mg : Str → Option Value) (nm : Nm) (T : Nat → Option Def) (G : Nat → Option D) (tx : Nat → DT) : Prop where
  blt : ∀ x ∈ bltNames, mg x = none
  con : ∀ n d, G n = some d → ∃ v u, mg (nm.gl n) = some u ∧ RelV v u ∧ ∀ F, Rep K w F v d
  fn : ∀ f ps ns body, T f = some (.fn ps ns body) → chkD nm (tx f) ps ns body = true ∧ ∃ fa fd, FunD K (nm.fn f) (nm.fn f) (C8.fnArgs (tx f).st) (C8.fnBody (tx f).st) (C8.fnScope (tx f).st) [] [] fa fd ∧ mg (nm.fn f) = some (.ref fa)

section
variable {P : Program} {w : World} {K : PySem.W.Frag} {mg : Str → Option Value} {base : Heap} {nm : Nm} {T : Nat → Option Def} {G : Nat → Option D} {W : Nat} {tx : Nat → DT}
theorem spF_len {Φ : Calls} {f ps ns : Nat} {body : List S} {k : Nat} (hT : T f = some (.fn ps ns body)) {vs : List V} {H : Hp} {Q : VK} {EX : XK} (h : spF K w (runF T G W k) f vs H Q EX) : vs.length = ps := by
  obtain ⟨L, F, ss, as, r, o, st, hL, e, _⟩ := h
  have hl := st.env.len.1
  rw [List.length_map] at hl
  cases k with
  | zero => unfold runF at e; cases e
  | succ k =>
    unfold runF at e
    rw [hT] at e
    dsimp only at e
    split at e
    · rename_i hh; rw [hl, hh.1]
    · cases e
theorem tOf_end {Φ : Calls} {N : List Str} {ps ns : Nat} {body : List S} {vs : List V} {H : Hp} {Q : VK} {L : List (Option Addr)} {F : Hp} {ss : List Slot} {as : List Addr} {r : Ret} {o : Option O} (st : StOk K w L F H (vs.map some) ss as) (hL : (L.filterMap id).length ≤ 1)
    (hN : N.length = ns) (e : endO ss (evSs Φ G W body (BP.start ns ss)) = some (r, o))
    (k : ∀ F' H' v as' ar, Step F H as F' H' (as' ++ ar) → Same F' H' → OutR K w F' H' L o as' → RetR K w F' H' v r ar → (as' ++ ar).Nodup → Q v H') :
    tS K w (evSs Φ G W body) { nx := fun _ H' => Q .non H', rt := Q } (L2.start N vs) H := by
  have hl := st.env.len.1
  rw [List.length_map] at hl
  have env : EnvR K w F H (L ++ List.replicate (ns - ss.length) none) (L2.start N vs) (BP.start ns ss) as := by
    have := st.env.append (EnvR.blank (K := K) (w := w) (F := F) (H := H) (ns - ss.length))
    rw [List.append_nil] at this
    unfold L2.start BP.start
    rw [hN, hl]
    exact this
  cases he : evSs Φ G W body (BP.start ns ss) with
  | none => rw [he] at e; cases e
  | some out =>
    rw [he] at e
    refine ⟨_, F, BP.start ns ss, as, out, ⟨st.sub, env, st.nd⟩, he, ?_⟩
    cases out with
    | nx ρ =>
      unfold endO at e
      obtain ⟨o2, e1, e2⟩ := Option.map_eq_some_iff.mp e
      cases e2
      intro F' H' σ' as' s' st'
      obtain ⟨as2, q1, q2⟩ := outs_ok st.env st'.env hL e1
      exact k F' H' .non as2 [] (by rw [List.append_nil]; exact s'.less fun b hb => q2.subset hb) st'.sub q1 (.val .non) (by rw [List.append_nil]; exact st'.nd.sublist q2)
    | rt r2 ρ =>
      unfold endO at e
      obtain ⟨o2, e1, e2⟩ := Option.map_eq_some_iff.mp e
      cases e2
      intro F' H' σ' v as' ar s' sm en rr nd
      obtain ⟨as2, q1, q2⟩ := outs_ok st.env en hL e1
      exact k F' H' v as2 ar (s'.less fun b hb => by
        rcases List.mem_append.mp hb with h | h
        · exact List.mem_append_left _ (q2.subset h)
        · exact List.mem_append_right _ h) sm q1 rr (nd.sublist (q2.append (List.Sublist.refl ar)))
theorem chk_binds {f ps ns : Nat} {body : List S} {fa : Addr} {fd : FuncData} (hc : chkD nm (tx f) ps ns body = true) (FD : FunD K (nm.fn f) (nm.fn f) (C8.fnArgs (tx f).st) (C8.fnBody (tx f).st) (C8.fnScope (tx f).st) [] [] fa fd) :
    Binds K fd ((tx f).N.take ps) [] ∧ ∀ (s : Shared) (us : List Value), us.length = ((tx f).N.take ps).length → BindsTo s fd ⟨us, []⟩ (((tx f).N.take ps).zip us) := by
  unfold chkD at hc
  simp only [Bool.and_eq_true, decide_eq_true_eq] at hc
  obtain ⟨⟨⟨⟨⟨c1, c2⟩, c3⟩, c4⟩, c5⟩, c6⟩ := hc
  have S := C8.fnScope_by c5
  have nd : ((C8.fnArgs (tx f).st).args.map (·.arg)).Nodup := by
    rw [c2]
    exact S.nd.sublist (List.take_sublist _ _)
  have hbd : ∀ (kV doc pm : Value) (an : Option Addr) (cdv ct : Value) (us : List Value), us.length = ((tx f).N.take ps).length →
      bindArgs (PySem.W.fnOf (nm.fn f) (nm.fn f) (C8.fnArgs (tx f).st) (C8.fnBody (tx f).st) (C8.fnScope (tx f).st) .none kV doc pm an cdv ct) ⟨us, []⟩ = pure (((tx f).N.take ps).zip us) := fun kV doc pm an cdv ct us hl => by
    rw [plainB_ok c1, ← c2] at *
    exact bind_plain nd hl
  exact ⟨FD.bindsN hbd, fun s us hl => FD.bindsA hbd s us hl⟩
/-- a def of the text, one call deeper -/
theorem cal_fn {k j : Nat} (A : TopOk K w mg nm T G tx) (ih : ∀ f ss r, runF T G W k f ss = some r → C8.Cal P w K mg base j (nm.fn f) (spF K w (runF T G W k) f) []) {f ps ns : Nat} {body : List S} {fa : Addr} {fd : FuncData} (hT : T f = some (.fn ps ns body))
    (hc : chkD nm (tx f) ps ns body = true) (FD : FunD K (nm.fn f) (nm.fn f) (C8.fnArgs (tx f).st) (C8.fnBody (tx f).st) (C8.fnScope (tx f).st) [] [] fa fd) :
    FnOk P w K mg base C8.CX0 (j + 1) fa fd ((tx f).N.take ps) (spF K w (runF T G W (k + 1)) f) := by
  unfold chkD at hc
  simp only [Bool.and_eq_true, decide_eq_true_eq] at hc
  obtain ⟨⟨⟨⟨⟨c1, c2⟩, c3⟩, c4⟩, c5⟩, c6⟩ := hc
  have S := C8.fnScope_by c5
  have hpl : ((tx f).N.take ps).length = ps := by rw [List.length_take, c4]; omega
  refine FD.ok S (fun vs H Q E h => by rw [hpl]; exact spF_len (Φ := runF T G W k) hT h) fun cdv A' outer s H vs Q E hr h => ?_
  obtain ⟨L, F, ss, as, r, o, st, hL, e, kk⟩ := h
  unfold runF at e
  rw [hT] at e
  dsimp only at e
  split at e
  · refine ⟨tS K w (evSs (runF T G W k) G W body), PSs.nox ?_, tOf_end (ps := 0) st hL c4 e kk⟩
    have C : COk nm (runF T G W k) G (cxOf C8.CX0 P w K mg base (tx f).N (nm.fn f) (C8.fnScope (tx f).st) fa cdv A' outer s H E).nox := by
      refine ⟨rfl, ?_, S.nd, rfl, A.blt, A.con, fun g ss r hg => ⟨j, hr, ih g ss r hg⟩⟩
      have := hr.un
      show (A'.deeper _).units + 65 < cLine
      omega
    exact sndSs body C rfl S.kind (fun _ => rfl) c6
  · cases e
/-- every def, at every depth -/
theorem cal_all (A : TopOk K w mg nm T G tx) (hx : ∀ f ps g, T f = some (.ext ps g) → ∀ k, (∀ f ss r, runF T G W k f ss = some r → C8.Cal P w K mg base (3 * k) (nm.fn f) (spF K w (runF T G W k) f) []) →
      C8.Cal P w K mg base (3 * (k + 1)) (nm.fn f) (spF K w (runF T G W (k + 1)) f) []) :
    ∀ k f ss r, runF T G W k f ss = some r → C8.Cal P w K mg base (3 * k) (nm.fn f) (spF K w (runF T G W k) f) []
  | 0, f, ss, r, h => by unfold runF at h; cases h
  | k + 1, f, ss, r, h => by
    have ih := cal_all A hx k
    have h0 := h
    unfold runF at h
    split at h
    · rename_i ps ns body hT
      obtain ⟨hc, fa, fd, FD, hm⟩ := A.fn f ps ns body hT
      exact ⟨fa, fd, _, [], (cal_fn A ih hT hc FD).mono (by omega), hm, FD.kp, (chk_binds hc FD).1, .nil⟩
    · rename_i ps g hT
      exact hx f ps g hT k ih
    · cases h
/-- the law's def, for the end -/
theorem law_fn (A : TopOk K w mg nm T G tx) (hx : ∀ (base : Heap) f ps g, T f = some (.ext ps g) → ∀ k, (∀ f ss r, runF T G W k f ss = some r → C8.Cal P w K mg base (3 * k) (nm.fn f) (spF K w (runF T G W k) f) []) →
      C8.Cal P w K mg base (3 * (k + 1)) (nm.fn f) (spF K w (runF T G W (k + 1)) f) []) {k f ns : Nat} {body : List S} (hT : T f = some (.fn 1 ns body)) {x : Str} (hN : (tx f).N.take 1 = [x]) {fa : Addr} (hf : mg (nm.fn f) = some (.ref fa)) :
    ∃ fd, (∀ base : Heap, FnOk P w K mg base C8.CX0 (3 * (k + 1)) fa fd [x] (spF K w (runF T G W (k + 1)) f)) ∧ ∀ (s : Shared) (u : Value), BindsTo s fd ⟨[u], []⟩ [(x, u)] := by
  obtain ⟨hc, fa2, fd, FD, hm⟩ := A.fn f 1 ns body hT
  rw [hf] at hm
  cases hm
  have hb := (chk_binds hc FD).2
  rw [hN] at hb
  refine ⟨fd, fun base => ?_, fun s u => hb s [u] rfl⟩
  have := cal_fn (base := base) (P := P) A (cal_all A (hx base) k) hT hc FD
  rw [hN] at this
  exact this.mono (by omega)
/-- what the row asks -/
theorem law_sp {k f n : Nat} (h : ∀ ns : List Int, ns.length ≤ n → runF T G W k f [.val (.scr ns)] = some (.val (.bl true), none)) {H : Hp} {a : Addr} {ns : List Int} (hl : ns.length ≤ n) (hs : SqL K H a (ns.map V.int)) :
    spF K w (runF T G W k) f [.ref a] H (fun v _ => v = .bl true) fun _ _ _ => False := by
  refine ⟨[none], H, [.val (.scr ns)], [], _, _, ⟨Same.refl H, .cons (as := []) (.val (.scr hs)) .nil, .nil⟩, by simp, h ns hl, fun F' H' v as' ar _ _ _ rr _ => ?_⟩
  cases rr with
  | val q => cases q; rfl
end
end BP

set_option maxRecDepth 100000
set_option maxHeartbeats 4000000
/-! What the top leaves: defs, constants that are data. -/
namespace BP
open PySem PySem.Spec PyProof.Rows L2

mutual
def datB (K : PySem.W.Frag) : D → Value → Bool
  | .non, u => match u with
    | .none => true
    | _ => false
  | .bl b, u => match u with
    | .bool c => b == c
    | _ => false
  | .int i, u => match u with
    | .int j _ => decide (i = j)
    | _ => false
  | .str s, u => match u with
    | .str x _ => decide (x = toStr s)
    | _ => false
  | .tup ds, u => match u with
    | .ref a => match K.lookup a with
      | some ⟨.type c, _, .seq its _, _⟩ => decide (c = "tuple") && decide (its.size ≤ sizeLine) && datBs K ds its.toList
      | _ => false
    | _ => false
  | .lst _, _ => false
  | .scr _, _ => false
  | .dic _ _, _ => false
def datBs (K : PySem.W.Frag) : List D → List Value → Bool
  | [], us => us.isEmpty
  | d :: ds, us => match us with
    | u :: us => datB K d u && datBs K ds us
    | [] => false
end
mutual
theorem datB_ok {K : PySem.W.Frag} {w : World} : ∀ {d : D} {u : Value}, datB K d u = true → ∃ v, RelV v u ∧ ∀ F, Rep K w F v d
  | .non, u, h => by
    unfold datB at h
    split at h
    · exact ⟨.non, rfl, fun _ => .non⟩
    · cases h
  | .bl b, u, h => by
    unfold datB at h
    split at h
    · obtain rfl := beq_iff_eq.mp h
      exact ⟨.bl b, rfl, fun _ => .bl b⟩
    · cases h
  | .int i, u, h => by
    unfold datB at h
    split at h
    · obtain rfl := of_decide_eq_true h
      exact ⟨.int i, ⟨_, rfl⟩, fun _ => .int i⟩
    · cases h
  | .str s, u, h => by
    unfold datB at h
    split at h
    · obtain rfl := of_decide_eq_true h
      exact ⟨.str (toStr s), ⟨_, rfl⟩, fun _ => .str s⟩
    · cases h
  | .tup ds, u, h => by
    unfold datB at h
    split at h
    · rename_i a
      split at h
      · rename_i c od its n sl q
        simp only [Bool.and_eq_true, decide_eq_true_eq] at h
        obtain ⟨⟨rfl, h1⟩, h2⟩ := h
        obtain ⟨vs, r, k⟩ := datBs_ok h2
        exact ⟨.ref a, rfl, fun F => .tup (.inr ⟨_, its, n, q, rfl, rfl, h1, r⟩) (k F)⟩
      · cases h
    · cases h
  | .lst _, u, h => by unfold datB at h; cases h
  | .scr _, u, h => by unfold datB at h; cases h
  | .dic _ _, u, h => by unfold datB at h; cases h
theorem datBs_ok {K : PySem.W.Frag} {w : World} : ∀ {ds : List D} {us : List Value}, datBs K ds us = true → ∃ vs, Vals vs us ∧ ∀ F, Reps K w F vs ds
  | [], us, h => by
    unfold datBs at h
    cases us with
    | nil => exact ⟨[], .nil, fun _ => .nil⟩
    | cons => cases h
  | d :: ds, us, h => by
    unfold datBs at h
    split at h
    · rw [Bool.and_eq_true] at h
      obtain ⟨v, r, k⟩ := datB_ok (w := w) h.1
      obtain ⟨vs, r2, k2⟩ := datBs_ok (w := w) h.2
      exact ⟨v :: vs, .cons r r2, fun F => .cons (k F) (k2 F)⟩
    · cases h
end
def conB (K : PySem.W.Frag) (c : Str × D) : Bool := match PySem.W.nsIn K mainGlobals c.1 with
  | some (some u) => datB K c.2 u
  | _ => false
theorem conB_ok {K : PySem.W.Frag} {w : World} {h : Heap} {mg : Str → Option Value} (X : K.In h) (Gg : h.Ns mainGlobals mg) {c : Str × D} (e : conB K c = true) : ∃ v u, mg c.1 = some u ∧ RelV v u ∧ ∀ F, Rep K w F v c.2 := by
  unfold conB at e
  split at e
  · rename_i u q
    obtain ⟨v, r, k⟩ := datB_ok (w := w) e
    exact ⟨v, u, PySem.W.mg_of X Gg q, r, k⟩
  · cases e

/-! ### the classes -/
def xcB (K : PySem.W.Frag) (p : Str × Str) : Bool :=
  (He.Fa.glo p.1).ok K && (He.Fa.glo p.2).ok K && (He.Fa.exc p.1).ok K && (He.Fa.exm p.1 p.1 true).ok K &&
    (He.eqO (PySem.W.findIn K (.ref (He.ga K p.1)) "__getattribute__") (some (some (.builtin "BaseException.__getattribute__"))) &&
    (He.eqO (PySem.W.findIn K (.ref (He.ga K p.1)) "__getattr__") (some none) &&
    (decide (PySem.W.subIn K (.ref (He.ga K p.1)) (.type "BaseException") = some true) &&
    (PySem.W.hasDictIn K (He.ga K p.1) &&
    (He.eqO (PySem.W.findIn K (.ref (He.ga K p.1)) "__class__") (some (some (.builtin "object.__class__"))) &&
    (He.eqO (PySem.W.specialIn K (.builtin "object.__class__") "__get__") (some (some (.builtin "getset_descriptor.__get__"))) &&
    (decide (PySem.W.takesIn K (.builtin "object.__class__") = some true) &&
    (decide (PySem.W.mroIn K (He.ga K p.1) (.type "object") = some true) &&
    decide (PySem.W.kitOne K (.ref (He.ga K p.1)) (.ref (He.ga K p.2)) = some true)))))))))
structure XcOk (K : PySem.W.Frag) (mg : Str → Option Value) (e b : Str) (C B : Addr) : Prop where
  gC : mg e = some (.ref C)
  gB : mg b = some (.ref B)
  ex : PySem.W.excIn K C He.veBase "ValueError.__new__" = true
  kC : PySem.W.keepIn K (.ref C) = true
  sb : PySem.W.subIn K (.ref C) (.type "BaseException") = some true
  ty : PySem.W.typeIn K (.ref C) = some (.type "type")
  em : PySem.W.exmOne K (.ref C) (.ref C) = some true
  ec : ExcC K C
  kt : PySem.W.kitOne K (.ref C) (.ref B) = some true
theorem xcB_ok {K : PySem.W.Frag} {h : Heap} {mg : Str → Option Value} (X : K.In h) (Gg : h.Ns mainGlobals mg) {p : Str × Str} (e : xcB K p = true) : XcOk K mg p.1 p.2 (He.ga K p.1) (He.ga K p.2) := by
  unfold xcB at e
  simp only [Bool.and_eq_true, decide_eq_true_eq] at e
  obtain ⟨⟨⟨⟨e1, e2⟩, e3⟩, e4⟩, a1, a2, a3, a4, a5, a6, a7, a8, a9⟩ := e
  have e4' : PySem.W.exmOne K (.ref (He.ga K p.1)) (.ref (He.ga K p.1)) = some true := of_decide_eq_true e4
  unfold He.Fa.ok at e3
  simp only [Bool.and_eq_true, decide_eq_true_eq] at e3
  obtain ⟨b1, b2, b3, b4⟩ := e3
  exact ⟨He.glo_ok X Gg e1, He.glo_ok X Gg e2, b1, b2, b3, b4, e4', ⟨He.eqO_ok a1, He.eqO_ok a2, a3, a4, He.eqO_ok a5, He.eqO_ok a6, a7, a8⟩, a9⟩

/-! ### the hook -/
def obsB (fa : List He.Fa) (fn : List He.DefD) (cs : List (Str × D)) (xs : List (Str × Str)) (K : PySem.W.Frag) : He.AlD := ((He.obsD fa fn K).1 && (cs.all (conB K) && xs.all (xcB K)), (He.obsD fa fn K).2)
def SaysB (fa : List He.Fa) (fn : List He.DefD) (cs : List (Str × D)) (xs : List (Str × Str)) (K : PySem.W.Frag) : Prop := obsB fa fn cs xs K = He.valD fn
def obsBG (n : Nat) (fa : List He.Fa) (fn : List He.DefD) (cs : List (Str × D)) (xs : List (Str × Str)) (g : Addr → Option Obj) : He.AlD := obsB fa fn cs xs (He.frG g (He.asD g n))
def hookB (n : Nat) (fa : List He.Fa) (fn : List He.DefD) (cs : List (Str × D)) (xs : List (Str × Str)) : PySem.W.Hook where
  α := He.AlD
  obs := fun s => obsBG n fa fn cs xs s.heap.get?
  val := fun _ => He.valD fn
  says := fun _ h => ∃ K : PySem.W.Frag, K.In h ∧ SaysB fa fn cs xs K
  of := fun _ _ e => ⟨_, He.frG_in, e⟩
  keeps := fun _ _ _ ⟨K, hK, c⟩ k => ⟨K, PySem.W.Frag.In.keeps hK k, c⟩
theorem obsBG_eq {n : Nat} {fa : List He.Fa} {fn : List He.DefD} {cs : List (Str × D)} {xs : List (Str × Str)} {g : Addr → Option Obj} {s : Shared} (h : ∀ a, g a = s.heap.get? a) : obsBG n fa fn cs xs g = (hookB n fa fn cs xs).obs s := by
  have e : g = s.heap.get? := funext h
  rw [e] <;> rfl
theorem SaysB.says {fa : List He.Fa} {fn : List He.DefD} {cs : List (Str × D)} {xs : List (Str × Str)} {K : PySem.W.Frag} (h : SaysB fa fn cs xs K) : He.SaysD fa fn K ∧ (∀ c ∈ cs, conB K c = true) ∧ ∀ c ∈ xs, xcB K c = true := by
  have h1 : ((He.obsD fa fn K).1 && (cs.all (conB K) && xs.all (xcB K))) = true := congrArg Prod.fst h
  have h2 : (He.obsD fa fn K).2 = fn.map He.DefD.val := congrArg Prod.snd h
  rw [Bool.and_eq_true, Bool.and_eq_true, List.all_eq_true, List.all_eq_true] at h1
  exact ⟨Prod.ext h1.1 h2, h1.2.1, h1.2.2⟩

/-! ### a law's rows -/
structure Row where
  nm : Str
  /-- its place in the text -/
  top : Nat
  N : List Str
  d : Def
def nmOf (rows : List (Nat × Row)) (cs : List (Nat × Str × D)) : Nm where
  fn f := match rows.lookup f with
    | some r => r.nm
    | none => ""
  gl n := match cs.lookup n with
    | some r => r.1
    | none => ""
def TOf (rows : List (Nat × Row)) : Nat → Option Def := fun f => match rows.lookup f with
  | some r => some r.d
  | none => none
def GOf (cs : List (Nat × Str × D)) : Nat → Option D := fun n => match cs.lookup n with
  | some r => some r.2
  | none => none
def txOf (prog : Program) (rows : List (Nat × Row)) : Nat → DT := fun f => match rows.lookup f with
  | some r => ⟨r.N, prog.main.body.getD r.top (.Pass ⟨0, 0, 0, 0⟩)⟩
  | none => ⟨[], .Pass ⟨0, 0, 0, 0⟩⟩
def faOf (rows : List (Nat × Row)) : List He.Fa := rows.map (fun r => He.Fa.glo r.2.nm) ++ bltNames.map He.Fa.free
def ddOf (prog : Program) (r : Row) : He.DefD := ⟨(r.nm, none), r.nm, r.nm, C8.fnArgs (prog.main.body.getD r.top (.Pass ⟨0, 0, 0, 0⟩)), C8.fnBody (prog.main.body.getD r.top (.Pass ⟨0, 0, 0, 0⟩)), C8.fnScope (prog.main.body.getD r.top (.Pass ⟨0, 0, 0, 0⟩)), [], []⟩
def fnOfR (prog : Program) (rows : List (Nat × Row)) : List He.DefD := rows.map fun r => ddOf prog r.2
def csOf (cs : List (Nat × Str × D)) : List (Str × D) := cs.map (·.2)
/-- every row is its text -/
def chkRow (prog : Program) (nm : Nm) (r : Row) : Bool := match r.d with
  | .fn ps ns body => chkD nm ⟨r.N, prog.main.body.getD r.top (.Pass ⟨0, 0, 0, 0⟩)⟩ ps ns body
  | .ext _ _ => true
theorem lookup_mem {α : Type} {n : Nat} {x : α} : ∀ {l : List (Nat × α)}, l.lookup n = some x → (n, x) ∈ l
  | (m, y) :: l, h => by
    rw [List.lookup_cons] at h
    cases e : n == m with
    | true =>
      rw [e] at h
      cases h
      obtain rfl := beq_iff_eq.mp e
      exact List.mem_cons_self
    | false => rw [e] at h; exact List.mem_cons_of_mem _ (lookup_mem h)
theorem says_fd {K : PySem.W.Frag} {prog : Program} {rows : List (Nat × Row)} {fa : List He.Fa} (c : He.SaysD fa (fnOfR prog rows) K) {f : Nat} {r : Row} (hr : rows.lookup f = some r) :
    ∃ fd, FunD K r.nm r.nm (ddOf prog r).params (ddOf prog r).body (ddOf prog r).scope [] [] (He.ga K r.nm) fd := by
  obtain ⟨i, hi⟩ := List.mem_iff_getElem?.mp (lookup_mem hr)
  exact c.def_ i (d := ddOf prog r) (by unfold fnOfR; rw [List.getElem?_map, hi]; rfl)
theorem says_glo {K : PySem.W.Frag} {h : Heap} {mg : Str → Option Value} {rows : List (Nat × Row)} {fn : List He.DefD} (X : K.In h) (Gg : h.Ns mainGlobals mg) (c : He.SaysD (faOf rows) fn K) {f : Nat} {r : Row} (hr : rows.lookup f = some r) : mg r.nm = some (.ref (He.ga K r.nm)) := by
  obtain ⟨i, hi⟩ := List.mem_iff_getElem?.mp (show He.Fa.glo r.nm ∈ faOf rows from List.mem_append_left _ (List.mem_map.mpr ⟨_, lookup_mem hr, rfl⟩))
  exact He.glo_ok X Gg (c.fact i hi)
theorem top_ok {K : PySem.W.Frag} {w : World} {h : Heap} {mg : Str → Option Value} {prog : Program} {rows : List (Nat × Row)} {cs : List (Nat × Str × D)} {xs : List (Str × Str)} (X : K.In h) (Gg : h.Ns mainGlobals mg) (c : SaysB (faOf rows) (fnOfR prog rows) (csOf cs) xs K)
    (hc : rows.all (fun r => chkRow prog (nmOf rows cs) r.2) = true) : TopOk K w mg (nmOf rows cs) (TOf rows) (GOf cs) (txOf prog rows) := by
  obtain ⟨c1, c2, _⟩ := c.says
  refine ⟨fun x hx => ?_, fun n d hd => ?_, fun f ps ns body hT => ?_⟩
  · obtain ⟨i, hi⟩ := List.mem_iff_getElem?.mp (show He.Fa.free x ∈ faOf rows from List.mem_append_right _ (List.mem_map.mpr ⟨x, hx, rfl⟩))
    exact He.free_ok X Gg (c1.fact i hi)
  · unfold GOf at hd
    cases e : cs.lookup n with
    | none => rw [e] at hd; cases hd
    | some r =>
      rw [e] at hd
      cases hd
      have := conB_ok (w := w) X Gg (c2 r (List.mem_map.mpr ⟨_, lookup_mem e, rfl⟩))
      unfold nmOf
      dsimp only
      rw [e]
      exact this
  · unfold TOf at hT
    cases e : rows.lookup f with
    | none => rw [e] at hT; cases hT
    | some r =>
      rw [e] at hT
      have hd : r.d = .fn ps ns body := Option.some.inj hT
      have h1 := List.all_eq_true.mp hc _ (lookup_mem e)
      unfold chkRow at h1
      dsimp only at h1
      rw [hd] at h1
      have et : txOf prog rows f = ⟨r.N, prog.main.body.getD r.top (.Pass ⟨0, 0, 0, 0⟩)⟩ := by unfold txOf; rw [e]
      have en : (nmOf rows cs).fn f = r.nm := by unfold nmOf; dsimp only; rw [e]
      rw [et, en]
      obtain ⟨fd, F⟩ := says_fd c1 e
      exact ⟨h1, _, fd, F, says_glo X Gg c1 e⟩
end BP

set_option maxRecDepth 100000
/-! The mini texts of the defs; printed by gen.py. -/
namespace BP
/-- is_number(value): value -/
def d_is_number : Def := .fn 1 1 [.ret (.and (.isi .int (.var 0)) (.not (.isi .bool (.var 0))))]

/-- is_sign(value): value, letter -/
def d_is_sign : Def := .fn 1 2 [.ret (.and (.isi .str (.var 0)) (.and (.chn .le .le (.cst (.int 1)) (.blt .len [(.var 0)]) (.cst (.int 3))) (.blt .all [(.comp (.cmp .isin (.var 1) (.glb 0)) (.nm 1) (.seq (.var 0)) [])])))]

/-- is_among(words, value): words, value -/
def d_is_among : Def := .fn 2 2 [.ret (.and (.isi .str (.var 1)) (.cmp .isin (.var 1) (.var 0)))]

/-- is_test(value, with_row): value, with_row -/
def d_is_test : Def := .fn 2 2 [.iff (.or (.not (.isi .tuple (.var 0))) (.or (.cmp .eq (.var 0) (.tup [])) (.not (.isi .str (.ix (.var 0) (.cst (.int 0))))))) [.ret (.cst (.bl false))] [],
    .iff (.cmp .eq (.ix (.var 0) (.cst (.int 0))) (.cst (.str [102, 108, 97, 103]))) [.ret (.and (.cmp .eq (.blt .len [(.var 0)]) (.cst (.int 2))) (.call 2 [(.glb 2), (.ix (.var 0) (.cst (.int 1)))]))] [],
    .ret (.and (.cmp .eq (.blt .len [(.var 0)]) (.cst (.int 1))) (.or (.cmp .eq (.ix (.var 0) (.cst (.int 0))) (.cst (.str [107, 101, 112, 116]))) (.and (.var 1) (.cmp .isin (.ix (.var 0) (.cst (.int 0))) (.tup [(.cst (.str [110, 101, 119])), (.cst (.str [108, 97, 115, 116]))])))))]

/-- is_statement(value, deep, with_row): value, deep, with_row, word, many, good, body -/
def d_is_statement : Def := .fn 3 7 [.iff (.or (.not (.isi .tuple (.var 0))) (.or (.cmp .eq (.var 0) (.tup [])) (.or (.not (.isi .str (.ix (.var 0) (.cst (.int 0))))) (.cmp .lt (.var 1) (.cst (.int 1)))))) [.ret (.cst (.bl false))] [],
    .par [3, 4] [(.ix (.var 0) (.cst (.int 0))), (.blt .len [(.var 0)])],
    .iff (.cmp .eq (.var 3) (.cst (.str [105, 102]))) [.set (.nm 5) (.and (.cmp .eq (.var 4) (.cst (.int 4))) (.call 3 [(.ix (.var 0) (.cst (.int 1))), (.var 2)])),
    .ret (.and (.var 5) (.blt .all [(.comp (.call 5 [(.var 6), (.bin .sub (.var 1) (.cst (.int 1))), (.var 2)]) (.nm 6) (.seq (.sl (.var 0) (some (.cst (.int 2))) none)) [])]))] [],
    .iff (.cmp .isin (.var 3) (.tup [(.cst (.str [105, 116, 101, 109])), (.cst (.str [107, 101, 101, 112]))])) [.ret (.and (.cmp .eq (.var 4) (.cst (.int 1))) (.var 2))] [],
    .iff (.cmp .ne (.var 4) (.cst (.int 2))) [.ret (.cst (.bl false))] [],
    .iff (.cmp .eq (.var 3) (.cst (.str [104, 101, 97, 100]))) [.ret (.and (.call 2 [(.tup [(.cst (.str [116, 104, 105, 115])), (.cst (.str [107, 101, 112, 116]))]), (.ix (.var 0) (.cst (.int 1)))]) (.or (.var 2) (.cmp .eq (.ix (.var 0) (.cst (.int 1))) (.cst (.str [107, 101, 112, 116])))))] [],
    .iff (.cmp .eq (.var 3) (.cst (.str [109, 97, 114, 107]))) [.ret (.call 1 [(.ix (.var 0) (.cst (.int 1)))])] [],
    .iff (.cmp .isin (.var 3) (.tup [(.cst (.str [117, 112])), (.cst (.str [100, 111, 119, 110]))])) [.ret (.call 2 [(.glb 2), (.ix (.var 0) (.cst (.int 1)))])] [],
    .ret (.and (.cmp .isin (.var 3) (.tup [(.cst (.str [116, 111, 116, 97, 108])), (.cst (.str [122, 101, 114, 111])), (.cst (.str [97, 100, 100]))])) (.and (.call 2 [(.glb 1), (.ix (.var 0) (.cst (.int 1)))]) (.or (.var 2) (.cmp .ne (.var 3) (.cst (.str [97, 100, 100]))))))]

/-- is_body(value, deep, with_row): value, deep, with_row, statement -/
def d_is_body : Def := .fn 3 4 [.iff (.or (.not (.isi .tuple (.var 0))) (.cmp .gt (.blt .len [(.var 0)]) (.cst (.int 8)))) [.ret (.cst (.bl false))] [],
    .ret (.blt .all [(.comp (.call 4 [(.var 3), (.var 1), (.var 2)]) (.nm 3) (.seq (.var 0)) [])])]

/-- bodies_of(statement): statement -/
def d_bodies_of : Def := .fn 1 1 [.ret (.ite (.cmp .eq (.ix (.var 0) (.cst (.int 0))) (.cst (.str [105, 102]))) (.blt .list [(.sl (.var 0) (some (.cst (.int 2))) none)]) (.lst []))]

/-- listed(body): body, found, statement, inner -/
def d_listed : Def := .fn 1 4 [.set (.nm 1) (.lst []),
    .for_ (.nm 2) (.seq (.var 0)) [.set (.nm 1) (.bin .add (.var 1) (.lst [(.var 2)])),
    .for_ (.nm 3) (.seq (.call 6 [(.var 2)])) [.set (.nm 1) (.bin .add (.var 1) (.call 7 [(.var 3)]))]],
    .ret (.var 1)]

/-- all_statements(program): program -/
def d_all_statements : Def := .fn 1 1 [.ret (.bin .add (.bin .add (.call 7 [(.ix (.var 0) (.cst (.int 0)))]) (.call 7 [(.ix (.var 0) (.cst (.int 1)))])) (.call 7 [(.ix (.var 0) (.cst (.int 2)))]))]

/-- is_program(value): value, place -/
def d_is_program : Def := .fn 1 2 [.iff (.or (.not (.isi .tuple (.var 0))) (.cmp .ne (.blt .len [(.var 0)]) (.cst (.int 3)))) [.ret (.cst (.bl false))] [],
    .iff (.not (.blt .all [(.comp (.call 5 [(.ix (.var 0) (.var 1)), (.glb 4), (.cmp .eq (.var 1) (.cst (.int 1)))]) (.nm 1) (.rng (.cst (.int 3))) [])])) [.ret (.cst (.bl false))] [],
    .ret (.cmp .le (.blt .len [(.call 8 [(.var 0)])]) (.glb 3))]

/-- need_program(value): value -/
def d_need_program : Def := .fn 1 1 [.iff (.not (.call 9 [(.var 0)])) [.nev] []]

/-- need_statement_number(program, value): program, value -/
def d_need_statement_number : Def := .fn 2 2 [.iff (.or (.not (.call 0 [(.var 1)])) (.not (.chn .le .lt (.cst (.int 0)) (.var 1) (.blt .len [(.call 8 [(.var 0)])])))) [.nev] []]

/-- body_without(body, first, gone): body, first, gone, found, statement, parts, here, inner -/
def d_body_without : Def := .fn 3 8 [.set (.nm 3) (.tup []),
    .for_ (.nm 4) (.seq (.var 0)) [.par [5, 6] [(.tup []), (.bin .add (.var 1) (.cst (.int 1)))],
    .for_ (.nm 7) (.seq (.call 6 [(.var 4)])) [.set (.nm 5) (.bin .add (.var 5) (.tup [(.call 12 [(.var 7), (.var 6), (.var 2)])])),
    .set (.nm 6) (.bin .add (.var 6) (.blt .len [(.call 7 [(.var 7)])]))],
    .iff (.cmp .notin (.var 1) (.var 2)) [.set (.nm 3) (.bin .add (.var 3) (.tup [(.ite (.cmp .eq (.var 5) (.tup [])) (.var 4) (.bin .add (.sl (.var 4) none (some (.cst (.int 2)))) (.var 5)))]))] [],
    .set (.nm 1) (.var 6)],
    .ret (.var 3)]

/-- program_without(program, gone): program, gone, found, first, body -/
def d_program_without : Def := .fn 2 5 [.set (.tp [(.nm 2), (.nm 3)]) (.tup [(.tup []), (.cst (.int 0))]),
    .for_ (.nm 4) (.seq (.var 0)) [.set (.nm 2) (.bin .add (.var 2) (.tup [(.call 12 [(.var 4), (.var 3), (.var 1)])])),
    .set (.nm 3) (.bin .add (.var 3) (.blt .len [(.call 7 [(.var 4)])]))],
    .ret (.var 2)]

/-- words_of(program): program, statement -/
def d_words_of : Def := .fn 1 2 [.ret (.comp (.ix (.var 1) (.cst (.int 0))) (.nm 1) (.seq (.call 8 [(.var 0)])) [])]

/-- statements(program): program -/
def d_statements : Def := .fn 1 1 [.drop (.call 10 [(.var 0)]),
    .ret (.call 14 [(.var 0)])]

/-- without(program, number): program, number -/
def d_without : Def := .fn 2 2 [.drop (.call 10 [(.var 0)]),
    .drop (.call 11 [(.var 0), (.var 1)]),
    .ret (.call 13 [(.var 0), (.lst [(.var 1)])])]

/-- _law_source(_law_script, _law_k): _law_script, _law_k, _law_cell -/
def d_law_source : Def := .fn 2 3 [.set (.nm 2) (.cst (.int 0)),
    .iff (.cmp .lt (.var 1) (.blt .len [(.var 0)])) [.set (.nm 2) (.blt .abs [(.blt .int [(.ix (.var 0) (.var 1))])])] [],
    .iff (.cmp .lt (.var 2) (.bin .pow (.cst (.int 10)) (.cst (.int 18)))) [.reto (.lst [(.cst (.int 0)), (.bin .add (.cst (.int 1)) (.bin .mod (.blt .int [(.bin .add (.bin .mul (.var 2) (.cst (.int 7919))) (.bin .mul (.cst (.int 104729)) (.var 1)))]) (.cst (.int 2147483646))))])] [],
    .reto (.lst [(.var 2), (.bin .add (.cst (.int 1)) (.bin .mod (.blt .int [(.bin .add (.var 2) (.var 1))]) (.cst (.int 2147483646))))])]

/-- _law_draw(_law_source_here, _law_many_here): _law_source_here, _law_many_here, _law_found -/
def d_law_draw : Def := .fn 2 3 [.iff (.cmp .gt (.oix 0 (.cst (.int 0))) (.cst (.int 0))) [.set (.nm 2) (.bin .mod (.blt .int [(.oix 0 (.cst (.int 0)))]) (.var 1)),
    .put 0 (.cst (.int 0)) (.bin .fdiv (.oix 0 (.cst (.int 0))) (.var 1)),
    .ret (.var 2)] [],
    .put 0 (.cst (.int 1)) (.bin .mod (.blt .int [(.bin .mul (.oix 0 (.cst (.int 1))) (.cst (.int 48271)))]) (.cst (.int 2147483647))),
    .ret (.bin .mod (.blt .int [(.bin .fdiv (.bin .mod (.blt .int [(.bin .mul (.oix 0 (.cst (.int 1))) (.oix 0 (.cst (.int 1))))]) (.cst (.int 2147483629))) (.cst (.int 64)))]) (.var 1))]

/-- _law_of(_law_source_here, _law_items): _law_source_here, _law_items -/
def d_law_of : Def := .fn 2 2 [.ret (.ix (.var 1) (.call 18 [(.lent 0), (.blt .len [(.var 1)])]))]

/-- _law_sign(_law_source_here): _law_source_here -/
def d_law_sign : Def := .fn 1 1 [.ret (.call 19 [(.lent 0), (.lst [(.cst (.str [44])), (.cst (.str [59])), (.cst (.str [124])), (.cst (.str [45])), (.cst (.str [42, 47])), (.cst (.str [44, 46, 124]))])])]

/-- _law_layout(_law_source_here): _law_source_here, _law_signs, _law_head, _law_total, _law_grand, _law_turn -/
def d_law_layout : Def := .fn 1 6 [.set (.nm 1) (.comp (.call 19 [(.lent 0), (.lst [(.cst .non), (.cst .non), (.cst (.str [44])), (.cst (.str [44])), (.call 20 [(.lent 0)])])]) (.nm 5) (.rng (.cst (.int 3))) []),
    .set (.tp [(.nm 2), (.nm 3), (.nm 4)]) (.comp (.cmp .eq (.call 18 [(.lent 0), (.cst (.int 2))]) (.cst (.int 0))) (.nm 5) (.rng (.cst (.int 3))) []),
    .ret (.tup [(.var 2), (.ix (.var 1) (.cst (.int 0))), (.var 3), (.ix (.var 1) (.cst (.int 1))), (.var 4), (.ix (.var 1) (.cst (.int 2)))])]

/-- _law_simple(_law_source_here, _law_with_row): _law_source_here, _law_with_row, _law_way -/
def d_law_simple : Def := .fn 2 3 [.set (.nm 2) (.call 18 [(.lent 0), (.ite (.var 1) (.cst (.int 12)) (.cst (.int 7)))]),
    .iff (.cmp .eq (.var 2) (.cst (.int 0))) [.ret (.tup [(.cst (.str [109, 97, 114, 107])), (.call 19 [(.lent 0), (.lst [(.cst (.str [44])), (.cst (.str [44])), (.call 20 [(.lent 0)])])])])] [],
    .iff (.cmp .eq (.var 2) (.cst (.int 1))) [.ret (.tup [(.cst (.str [116, 111, 116, 97, 108])), (.call 19 [(.lent 0), (.lst [(.cst (.str [120])), (.cst (.str [120])), (.cst (.str [121]))])])])] [],
    .iff (.cmp .eq (.var 2) (.cst (.int 2))) [.ret (.tup [(.cst (.str [122, 101, 114, 111])), (.call 19 [(.lent 0), (.lst [(.cst (.str [120])), (.cst (.str [120])), (.cst (.str [121]))])])])] [],
    .iff (.cmp .eq (.var 2) (.cst (.int 3))) [.ret (.tup [(.cst (.str [104, 101, 97, 100])), (.ite (.var 1) (.call 19 [(.lent 0), (.lst [(.cst (.str [116, 104, 105, 115])), (.cst (.str [107, 101, 112, 116]))])]) (.cst (.str [107, 101, 112, 116])))])] [],
    .iff (.cmp .isin (.var 2) (.tup [(.cst (.int 4)), (.cst (.int 5))])) [.ret (.tup [(.call 19 [(.lent 0), (.lst [(.cst (.str [117, 112])), (.cst (.str [100, 111, 119, 110]))])]), (.call 19 [(.lent 0), (.lst [(.cst (.str [112])), (.cst (.str [112])), (.cst (.str [113]))])])])] [],
    .iff (.cmp .eq (.var 2) (.cst (.int 6))) [.ret (.tup [(.cst (.str [109, 97, 114, 107])), (.cst (.str [44]))])] [],
    .ret (.ix (.lst [(.tup [(.cst (.str [105, 116, 101, 109]))]), (.tup [(.cst (.str [105, 116, 101, 109]))]), (.tup [(.cst (.str [97, 100, 100])), (.call 19 [(.lent 0), (.lst [(.cst (.str [120])), (.cst (.str [120])), (.cst (.str [121]))])])]), (.tup [(.cst (.str [107, 101, 101, 112]))]), (.tup [(.cst (.str [107, 101, 101, 112]))])]) (.bin .sub (.var 2) (.cst (.int 7))))]

/-- _law_test(_law_source_here, _law_with_row): _law_source_here, _law_with_row, _law_some -/
def d_law_test : Def := .fn 2 3 [.set (.nm 2) (.lst [(.tup [(.cst (.str [107, 101, 112, 116]))]), (.tup [(.cst (.str [102, 108, 97, 103])), (.cst (.str [112]))]), (.tup [(.cst (.str [102, 108, 97, 103])), (.cst (.str [113]))])]),
    .ret (.call 19 [(.lent 0), (.ite (.var 1) (.bin .add (.var 2) (.lst [(.tup [(.cst (.str [110, 101, 119]))]), (.tup [(.cst (.str [108, 97, 115, 116]))]), (.tup [(.cst (.str [110, 101, 119]))])])) (.var 2))])]

/-- _law_body(_law_source_here, _law_with_row, _law_deep, _law_most): _law_source_here, _law_with_row, _law_deep, _law_most, _law_found, _law_turn, _law_statement, _law_first -/
def d_law_body : Def := .fn 4 8 [.set (.nm 4) (.tup []),
    .for_ (.nm 5) (.rng (.call 18 [(.lent 0), (.bin .add (.var 3) (.cst (.int 1)))])) [.set (.nm 6) (.call 22 [(.lent 0), (.var 1)]),
    .iff (.and (.cmp .gt (.var 2) (.cst (.int 1))) (.cmp .eq (.call 18 [(.lent 0), (.cst (.int 3))]) (.cst (.int 0)))) [.set (.nm 7) (.call 24 [(.lent 0), (.var 1), (.bin .sub (.var 2) (.cst (.int 1))), (.cst (.int 3))]),
    .set (.nm 6) (.tup [(.cst (.str [105, 102])), (.call 23 [(.lent 0), (.var 1)]), (.var 7), (.call 24 [(.lent 0), (.var 1), (.bin .sub (.var 2) (.cst (.int 1))), (.cst (.int 2))])])] [],
    .set (.nm 4) (.bin .add (.var 4) (.tup [(.var 6)]))],
    .ret (.var 4)]

/-- _law_size(_law_body_here): _law_body_here, _law_many_here, _law_statement -/
def d_law_size : Def := .fn 1 3 [.set (.nm 1) (.cst (.int 0)),
    .for_ (.nm 2) (.seq (.var 0)) [.set (.nm 1) (.bin .add (.var 1) (.cst (.int 1))),
    .iff (.cmp .eq (.ix (.var 2) (.cst (.int 0))) (.cst (.str [105, 102]))) [.set (.nm 1) (.bin .add (.bin .add (.var 1) (.call 25 [(.ix (.var 2) (.cst (.int 2)))])) (.call 25 [(.ix (.var 2) (.cst (.int 3)))]))] []],
    .ret (.var 1)]

/-- _law_written(_law_source_here, _law_layout_here): _law_source_here, _law_layout_here, _law_head, _law_inner, _law_total, _law_outer, _law_grand, _law_empty, _law_x, _law_y, _law_behind, _law_first, _law_between, _law_each, _law_last, _law_end -/
def d_law_written : Def := .fn 2 16 [.set (.tp [(.nm 2), (.nm 3), (.nm 4), (.nm 5), (.nm 6), (.nm 7)]) (.var 1),
    .set (.tp [(.nm 8), (.nm 9)]) (.call 19 [(.lent 0), (.lst [(.tup [(.cst (.str [120])), (.cst (.str [121]))]), (.tup [(.cst (.str [121])), (.cst (.str [120]))])])]),
    .set (.nm 10) (.ite (.var 4) (.tup [(.tup [(.cst (.str [116, 111, 116, 97, 108])), (.var 8)])]) (.tup [])),
    .set (.nm 11) (.tup [(.tup [(.cst (.str [105, 102])), (.tup [(.cst (.str [107, 101, 112, 116]))]), (.bin .add (.var 10) (.ite (.isn true (.var 5)) (.tup [(.tup [(.cst (.str [109, 97, 114, 107])), (.var 5)])]) (.tup []))), (.tup [])])]),
    .set (.nm 11) (.bin .add (.var 11) (.ite (.var 2) (.tup [(.tup [(.cst (.str [104, 101, 97, 100])), (.cst (.str [116, 104, 105, 115]))])]) (.tup []))),
    .set (.nm 11) (.bin .add (.var 11) (.call 19 [(.lent 0), (.lst [(.tup [(.tup [(.cst (.str [122, 101, 114, 111])), (.var 8)]), (.tup [(.cst (.str [107, 101, 101, 112]))])]), (.tup [(.tup [(.cst (.str [107, 101, 101, 112]))]), (.tup [(.cst (.str [122, 101, 114, 111])), (.var 8)])])])])),
    .set (.nm 12) (.ite (.isn true (.var 3)) (.tup [(.tup [(.cst (.str [109, 97, 114, 107])), (.var 3)])]) (.tup [])),
    .set (.nm 13) (.tup [(.tup [(.cst (.str [105, 102])), (.tup [(.cst (.str [110, 101, 119]))]), (.var 11), (.var 12)]), (.tup [(.cst (.str [105, 116, 101, 109]))])]),
    .set (.nm 13) (.bin .add (.var 13) (.call 19 [(.lent 0), (.lst [(.tup [(.tup [(.cst (.str [97, 100, 100])), (.var 8)]), (.tup [(.cst (.str [97, 100, 100])), (.var 9)])]), (.tup [(.tup [(.cst (.str [97, 100, 100])), (.var 9)]), (.tup [(.cst (.str [97, 100, 100])), (.var 8)])])])])),
    .set (.nm 14) (.ite (.isn true (.var 7)) (.tup [(.tup [(.cst (.str [109, 97, 114, 107])), (.var 7)])]) (.tup [])),
    .set (.nm 15) (.ite (.var 6) (.tup [(.tup [(.cst (.str [116, 111, 116, 97, 108])), (.var 9)])]) (.tup [])),
    .iff (.cmp .eq (.call 18 [(.lent 0), (.cst (.int 2))]) (.cst (.int 0))) [.ret (.tup [(.tup []), (.var 13), (.bin .add (.tup [(.tup [(.cst (.str [105, 102])), (.tup [(.cst (.str [107, 101, 112, 116]))]), (.var 10), (.var 14)])]) (.var 15))])] [],
    .set (.nm 13) (.bin .add (.var 13) (.ite (.cmp .ne (.var 10) (.tup [])) (.tup [(.tup [(.cst (.str [105, 102])), (.tup [(.cst (.str [108, 97, 115, 116]))]), (.var 10), (.tup [])])]) (.tup []))),
    .ret (.tup [(.tup [(.tup [(.cst (.str [100, 111, 119, 110])), (.cst (.str [112]))])]), (.bin .add (.var 13) (.tup [(.tup [(.cst (.str [117, 112])), (.cst (.str [112]))])])), (.bin .add (.tup [(.tup [(.cst (.str [105, 102])), (.tup [(.cst (.str [102, 108, 97, 103])), (.cst (.str [112]))]), (.tup []), (.var 14)])]) (.var 15))])]

/-- _law_bent(_law_source_here, _law_body_here): _law_source_here, _law_body_here, _law_at, _law_way, _law_now, _law_ahead, _law_behind, _law_spot -/
def d_law_bent : Def := .fn 2 8 [.iff (.cmp .eq (.var 1) (.tup [])) [.ret (.var 1)] [],
    .par [2, 3] [(.call 18 [(.lent 0), (.blt .len [(.var 1)])]), (.call 18 [(.lent 0), (.cst (.int 5))])],
    .par [4, 5, 6] [(.ix (.var 1) (.var 2)), (.sl (.var 1) none (some (.var 2))), (.sl (.var 1) (some (.bin .add (.var 2) (.cst (.int 1)))) none)],
    .iff (.cmp .eq (.var 3) (.cst (.int 0))) [.ret (.bin .add (.var 5) (.var 6))] [],
    .iff (.cmp .eq (.var 3) (.cst (.int 1))) [.ret (.bin .add (.bin .add (.bin .add (.var 5) (.sl (.var 6) none (some (.cst (.int 1))))) (.tup [(.var 4)])) (.sl (.var 6) (some (.cst (.int 1))) none))] [],
    .iff (.and (.cmp .eq (.ix (.var 4) (.cst (.int 0))) (.cst (.str [105, 102]))) (.cmp .eq (.var 3) (.cst (.int 2)))) [.set (.nm 4) (.bin .add (.tup [(.cst (.str [105, 102])), (.call 19 [(.lent 0), (.lst [(.tup [(.cst (.str [107, 101, 112, 116]))]), (.tup [(.cst (.str [102, 108, 97, 103])), (.cst (.str [112]))])])])]) (.sl (.var 4) (some (.cst (.int 2))) none))] [.iff (.cmp .eq (.ix (.var 4) (.cst (.int 0))) (.cst (.str [105, 102]))) [.set (.nm 7) (.bin .add (.cst (.int 2)) (.call 18 [(.lent 0), (.cst (.int 2))])),
    .set (.nm 4) (.bin .add (.bin .add (.sl (.var 4) none (some (.var 7))) (.tup [(.call 27 [(.lent 0), (.ix (.var 4) (.var 7))])])) (.sl (.var 4) (some (.bin .add (.var 7) (.cst (.int 1)))) none))] [.iff (.cmp .isin (.ix (.var 4) (.cst (.int 0))) (.tup [(.cst (.str [116, 111, 116, 97, 108])), (.cst (.str [122, 101, 114, 111]))])) [.set (.nm 4) (.tup [(.ix (.var 4) (.cst (.int 0))), (.call 19 [(.lent 0), (.lst [(.cst (.str [120])), (.cst (.str [121]))])])])] []]],
    .ret (.bin .add (.bin .add (.var 5) (.tup [(.var 4)])) (.var 6))]

/-- _law_near(_law_source_here, _law_program_here): _law_source_here, _law_program_here, _law_place -/
def d_law_near : Def := .fn 2 3 [.set (.nm 2) (.call 19 [(.lent 0), (.lst [(.cst (.int 0)), (.cst (.int 1)), (.cst (.int 1)), (.cst (.int 1)), (.cst (.int 2))])]),
    .ret (.bin .add (.bin .add (.sl (.var 1) none (some (.var 2))) (.tup [(.call 27 [(.lent 0), (.ix (.var 1) (.var 2))])])) (.sl (.var 1) (some (.bin .add (.var 2) (.cst (.int 1)))) none))]

/-- _law_any(_law_source_here): _law_source_here, _law_bodies, _law_place, _law_body_here -/
def d_law_any : Def := .fn 1 4 [.set (.nm 1) (.blt .tuple [(.comp (.call 24 [(.lent 0), (.cmp .eq (.var 2) (.cst (.int 1))), (.cst (.int 3)), (.ix (.lst [(.cst (.int 2)), (.cst (.int 6)), (.cst (.int 3))]) (.var 2))]) (.nm 2) (.rng (.cst (.int 3))) [])]),
    .iff (.cmp .gt (.blt .sum [(.comp (.call 25 [(.var 3)]) (.nm 3) (.seq (.var 1)) [])]) (.cst (.int 24))) [.ret (.tup [(.tup []), (.tup [(.tup [(.cst (.str [105, 116, 101, 109]))]), (.tup [(.cst (.str [97, 100, 100])), (.cst (.str [120]))])]), (.tup [(.tup [(.cst (.str [116, 111, 116, 97, 108])), (.cst (.str [120]))])])])] [],
    .ret (.var 1)]

/-- _law_program(_law_source_here): _law_source_here, _law_way, _law_program_here, _law_turn -/
def d_law_program : Def := .fn 1 4 [.set (.nm 1) (.call 18 [(.lent 0), (.cst (.int 4))]),
    .iff (.cmp .eq (.var 1) (.cst (.int 3))) [.ret (.call 29 [(.lent 0)])] [],
    .set (.nm 2) (.call 26 [(.lent 0), (.call 21 [(.lent 0)])]),
    .for_ (.nm 3) (.rng (.var 1)) [.set (.nm 2) (.call 28 [(.lent 0), (.var 2)])],
    .ret (.var 2)]

/-- _law_cut(_law_body_here, _law_first, _law_gone): _law_body_here, _law_first, _law_gone, _law_found, _law_statement, _law_number, _law_kept, _law_here -/
def d_law_cut : Def := .fn 3 8 [.set (.nm 3) (.tup []),
    .for_ (.nm 4) (.seq (.var 0)) [.par [5, 6] [(.var 1), (.var 4)],
    .set (.nm 1) (.bin .add (.var 1) (.call 25 [(.tup [(.var 4)])])),
    .iff (.cmp .eq (.ix (.var 4) (.cst (.int 0))) (.cst (.str [105, 102]))) [.set (.nm 7) (.bin .add (.bin .add (.var 5) (.cst (.int 1))) (.call 25 [(.ix (.var 4) (.cst (.int 2)))])),
    .set (.nm 6) (.bin .add (.sl (.var 4) none (some (.cst (.int 2)))) (.tup [(.call 31 [(.ix (.var 4) (.cst (.int 2))), (.bin .add (.var 5) (.cst (.int 1))), (.var 2)])])),
    .set (.nm 6) (.bin .add (.var 6) (.tup [(.call 31 [(.ix (.var 4) (.cst (.int 3))), (.var 7), (.var 2)])]))] [],
    .set (.nm 3) (.bin .add (.var 3) (.ite (.cmp .isin (.var 5) (.var 2)) (.tup []) (.tup [(.var 6)])))],
    .ret (.var 3)]

/-- _law_less(_law_program_here, _law_gone): _law_program_here, _law_gone, _law_first, _law_second -/
def d_law_less : Def := .fn 2 4 [.set (.nm 2) (.call 25 [(.ix (.var 0) (.cst (.int 0)))]),
    .set (.nm 3) (.bin .add (.var 2) (.call 25 [(.ix (.var 0) (.cst (.int 1)))])),
    .ret (.tup [(.call 31 [(.ix (.var 0) (.cst (.int 0))), (.cst (.int 0)), (.var 1)]), (.call 31 [(.ix (.var 0) (.cst (.int 1))), (.var 2), (.var 1)]), (.call 31 [(.ix (.var 0) (.cst (.int 2))), (.var 3), (.var 1)])])]

/-- _law_many(_law_program_here): _law_program_here -/
def d_law_many : Def := .fn 1 1 [.ret (.bin .add (.bin .add (.call 25 [(.ix (.var 0) (.cst (.int 0)))]) (.call 25 [(.ix (.var 0) (.cst (.int 1)))])) (.call 25 [(.ix (.var 0) (.cst (.int 2)))]))]

/-- law(_law_script): _law_script, _law_k, _law_one, _law_some, _law_source_here, _law_turn, _law_program_here, _law_many_here, _law_number, _law_odd, _law_told -/
def d_law : Def := .fn 1 11 [.for_ (.nm 1) (.rng (.bin .add (.cst (.int 1)) (.blt .min [(.blt .len [(.var 0)]), (.cst (.int 10))]))) [.seto 4 (.call 17 [(.var 0), (.var 1)]),
    .for_ (.nm 5) (.rng (.cst (.int 3))) [.set (.nm 6) (.call 30 [(.lent 4)]),
    .set (.nm 7) (.call 33 [(.var 6)]),
    .for_ (.nm 8) (.rng (.var 7)) [.set (.nm 10) (.call 16 [(.var 6), (.var 8)]),
    .iff (.or (.cmp .ne (.var 10) (.call 32 [(.var 6), (.lst [(.var 8)])])) (.not (.call 9 [(.var 10)]))) [.ret (.cst (.bl false))] [],
    .iff (.cmp .ge (.blt .len [(.call 15 [(.var 10)])]) (.var 7)) [.ret (.cst (.bl false))] []],
    .for_ (.nm 9) (.seq (.lst [(.neg (.cst (.int 1))), (.var 7), (.cst (.int 24)), (.cst .non), (.cst (.bl true)), (.cst (.str [48])), (.tup [(.cst (.int 0))])])) [.iff (.not (.call 34 [(.var 6), (.var 9)])) [.ret (.cst (.bl false))] []]]],
    .set (.nm 2) (.tup [(.tup [(.tup [(.cst (.str [109, 97, 114, 107])), (.cst (.str [45]))])]), (.tup [(.tup [(.cst (.str [105, 102])), (.tup [(.cst (.str [108, 97, 115, 116]))]), (.tup [(.tup [(.cst (.str [105, 116, 101, 109]))])]), (.tup [(.tup [(.cst (.str [107, 101, 101, 112]))])])])]), (.tup [(.tup [(.cst (.str [116, 111, 116, 97, 108])), (.cst (.str [121]))])])]),
    .set (.nm 3) (.comp (.call 16 [(.var 2), (.var 8)]) (.nm 8) (.rng (.cst (.int 5))) []),
    .iff (.or (.cmp .ne (.comp (.ix (.var 6) (.cst (.int 0))) (.nm 6) (.seq (.var 3)) []) (.bin .add (.lst [(.tup [])]) (.bin .mul (.lst [(.ix (.var 2) (.cst (.int 0)))]) (.cst (.int 4))))) (.or (.cmp .ne (.ix (.ix (.var 3) (.cst (.int 1))) (.cst (.int 1))) (.tup [])) (.cmp .ne (.ix (.ix (.var 3) (.cst (.int 4))) (.cst (.int 2))) (.tup [])))) [.ret (.cst (.bl false))] [],
    .ret (.and (.cmp .eq (.ix (.ix (.var 3) (.cst (.int 2))) (.cst (.int 1))) (.tup [(.tup [(.cst (.str [105, 102])), (.tup [(.cst (.str [108, 97, 115, 116]))]), (.tup []), (.tup [(.tup [(.cst (.str [107, 101, 101, 112]))])])])])) (.cmp .eq (.ix (.ix (.var 3) (.cst (.int 3))) (.cst (.int 1))) (.tup [(.tup [(.cst (.str [105, 102])), (.tup [(.cst (.str [108, 97, 115, 116]))]), (.tup [(.tup [(.cst (.str [105, 116, 101, 109]))])]), (.tup [])])])))]

/-- is_key(value): value -/
def d_is_key : Def := .fn 1 1 [.ret (.and (.isi .str (.var 0)) (.and (.cmp .eq (.blt .len [(.var 0)]) (.cst (.int 1))) (.cmp .isin (.var 0) (.glb 5))))]

/-- is_row(value): value -/
def d_is_row : Def := .fn 1 1 [.ret (.and (.isi .tuple (.var 0)) (.and (.cmp .eq (.blt .len [(.var 0)]) (.cst (.int 2))) (.and (.call 36 [(.ix (.var 0) (.cst (.int 0)))]) (.call 0 [(.ix (.var 0) (.cst (.int 1)))]))))]

/-- is_rows(value): value, row -/
def d_is_rows : Def := .fn 1 2 [.ret (.and (.isi .tuple (.var 0)) (.and (.cmp .le (.blt .len [(.var 0)]) (.glb 6)) (.blt .all [(.comp (.call 37 [(.var 1)]) (.nm 1) (.seq (.var 0)) [])])))]

/-- need_rows(value): value -/
def d_need_rows : Def := .fn 1 1 [.iff (.not (.call 38 [(.var 0)])) [.nev] []]

/-- begun():  -/
def d_begun : Def := .fn 0 0 [.ret (.tup [(.cst .non), (.tup [(.cst (.int 0)), (.cst (.int 0))]), (.tup [(.cst (.bl false)), (.cst (.bl false))])])]

/-- with_item(items, place, value): items, place, value -/
def d_with_item : Def := .fn 3 3 [.ret (.bin .add (.bin .add (.sl (.var 0) none (some (.var 1))) (.tup [(.var 2)])) (.sl (.var 0) (some (.bin .add (.var 1) (.cst (.int 1)))) none))]

/-- holds(test, state, row, is_last): test, state, row, is_last, kept, totals, flags -/
def d_holds : Def := .fn 4 7 [.set (.tp [(.nm 4), (.nm 5), (.nm 6)]) (.var 1),
    .iff (.cmp .eq (.ix (.var 0) (.cst (.int 0))) (.cst (.str [107, 101, 112, 116]))) [.ret (.isn true (.var 4))] [],
    .iff (.cmp .eq (.ix (.var 0) (.cst (.int 0))) (.cst (.str [110, 101, 119]))) [.ret (.or (.isn false (.var 4)) (.cmp .ne (.var 4) (.ix (.var 2) (.cst (.int 0)))))] [],
    .ret (.ite (.cmp .eq (.ix (.var 0) (.cst (.int 0))) (.cst (.str [108, 97, 115, 116]))) (.var 3) (.ix (.var 6) (.gix 2 (.ix (.var 0) (.cst (.int 1))))))]

/-- printed_by(statement, state, row): statement, state, row, kept, totals, flags -/
def d_printed_by : Def := .fn 3 6 [.set (.tp [(.nm 3), (.nm 4), (.nm 5)]) (.var 1),
    .iff (.cmp .eq (.ix (.var 0) (.cst (.int 0))) (.cst (.str [104, 101, 97, 100]))) [.ret (.tup [(.cst (.str [104, 101, 97, 100])), (.ite (.cmp .eq (.ix (.var 0) (.cst (.int 1))) (.cst (.str [116, 104, 105, 115]))) (.ix (.var 2) (.cst (.int 0))) (.var 3))])] [],
    .iff (.cmp .eq (.ix (.var 0) (.cst (.int 0))) (.cst (.str [105, 116, 101, 109]))) [.ret (.tup [(.cst (.str [105, 116, 101, 109])), (.ix (.var 2) (.cst (.int 1)))])] [],
    .iff (.cmp .eq (.ix (.var 0) (.cst (.int 0))) (.cst (.str [109, 97, 114, 107]))) [.ret (.tup [(.cst (.str [109, 97, 114, 107])), (.ix (.var 0) (.cst (.int 1)))])] [],
    .ret (.tup [(.cst (.str [116, 111, 116, 97, 108])), (.ix (.var 4) (.gix 1 (.ix (.var 0) (.cst (.int 1)))))])]

/-- state_behind(statement, state, row): statement, state, row, kept, totals, flags, word, place -/
def d_state_behind : Def := .fn 3 8 [.set (.tp [(.nm 3), (.nm 4), (.nm 5)]) (.var 1),
    .set (.nm 6) (.ix (.var 0) (.cst (.int 0))),
    .iff (.cmp .eq (.var 6) (.cst (.str [107, 101, 101, 112]))) [.ret (.tup [(.ix (.var 2) (.cst (.int 0))), (.var 4), (.var 5)])] [],
    .iff (.cmp .isin (.var 6) (.tup [(.cst (.str [117, 112])), (.cst (.str [100, 111, 119, 110]))])) [.ret (.tup [(.var 3), (.var 4), (.call 41 [(.var 5), (.gix 2 (.ix (.var 0) (.cst (.int 1)))), (.cmp .eq (.var 6) (.cst (.str [117, 112])))])])] [],
    .set (.nm 7) (.gix 1 (.ix (.var 0) (.cst (.int 1)))),
    .ret (.tup [(.var 3), (.call 41 [(.var 4), (.var 7), (.ite (.cmp .eq (.var 6) (.cst (.str [97, 100, 100]))) (.bin .add (.ix (.var 4) (.var 7)) (.ix (.var 2) (.cst (.int 1)))) (.cst (.int 0)))]), (.var 5)])]

/-- body_done(body, first, state, row, is_last): body, first, state, row, is_last, told, done, statement, hit, inner, more, numbers -/
def d_body_done : Def := .fn 5 12 [.set (.tp [(.nm 5), (.nm 6)]) (.tup [(.tup []), (.tup [])]),
    .for_ (.nm 7) (.seq (.var 0)) [.set (.nm 6) (.bin .add (.var 6) (.tup [(.var 1)])),
    .iff (.cmp .eq (.ix (.var 7) (.cst (.int 0))) (.cst (.str [105, 102]))) [.set (.nm 8) (.call 42 [(.ix (.var 7) (.cst (.int 1))), (.var 2), (.var 3), (.var 4)]),
    .set (.nm 9) (.bin .add (.bin .add (.var 1) (.cst (.int 1))) (.ite (.var 8) (.cst (.int 0)) (.blt .len [(.call 7 [(.ix (.var 7) (.cst (.int 2)))])]))),
    .set (.tp [(.nm 2), (.nm 10), (.nm 11)]) (.call 45 [(.ix (.var 7) (.ite (.var 8) (.cst (.int 2)) (.cst (.int 3)))), (.var 9), (.var 2), (.var 3), (.var 4)]),
    .par [5, 6] [(.bin .add (.var 5) (.var 10)), (.bin .add (.var 6) (.var 11))]] [.iff (.cmp .isin (.ix (.var 7) (.cst (.int 0))) (.tup [(.cst (.str [104, 101, 97, 100])), (.cst (.str [105, 116, 101, 109])), (.cst (.str [109, 97, 114, 107])), (.cst (.str [116, 111, 116, 97, 108]))])) [.set (.nm 5) (.bin .add (.var 5) (.tup [(.call 43 [(.var 7), (.var 2), (.var 3)])]))] [.set (.nm 2) (.call 44 [(.var 7), (.var 2), (.var 3)])]],
    .set (.nm 1) (.bin .add (.var 1) (.blt .len [(.call 7 [(.tup [(.var 7)])])]))],
    .ret (.tup [(.var 2), (.var 5), (.var 6)])]

/-- before_done(program): program -/
def d_before_done : Def := .fn 1 1 [.ret (.call 45 [(.ix (.var 0) (.cst (.int 0))), (.cst (.int 0)), (.call 40 []), (.cst .non), (.cst (.bl false))])]

/-- each_done(program, state, row, is_last): program, state, row, is_last -/
def d_each_done : Def := .fn 4 4 [.ret (.call 45 [(.ix (.var 0) (.cst (.int 1))), (.blt .len [(.call 7 [(.ix (.var 0) (.cst (.int 0)))])]), (.var 1), (.var 2), (.var 3)])]

/-- after_done(program, state): program, state, first -/
def d_after_done : Def := .fn 2 3 [.set (.nm 2) (.bin .add (.blt .len [(.call 7 [(.ix (.var 0) (.cst (.int 0)))])]) (.blt .len [(.call 7 [(.ix (.var 0) (.cst (.int 1)))])])),
    .ret (.call 45 [(.ix (.var 0) (.cst (.int 2))), (.var 2), (.var 1), (.cst .non), (.cst (.bl false))])]

/-- whole_run(program, rows): program, rows, state, told, done, at, row, more, numbers -/
def d_whole_run : Def := .fn 2 9 [.set (.tp [(.nm 2), (.nm 3), (.nm 4)]) (.call 46 [(.var 0)]),
    .for_ (.tp [(.nm 5), (.nm 6)]) (.enm (.var 1)) [.set (.tp [(.nm 2), (.nm 7), (.nm 8)]) (.call 47 [(.var 0), (.var 2), (.var 6), (.cmp .eq (.bin .add (.var 5) (.cst (.int 1))) (.blt .len [(.var 1)]))]),
    .par [3, 4] [(.bin .add (.var 3) (.var 7)), (.bin .add (.var 4) (.var 8))]],
    .set (.tp [(.nm 2), (.nm 7), (.nm 8)]) (.call 48 [(.var 0), (.var 2)]),
    .ret (.tup [(.bin .add (.var 3) (.var 7)), (.bin .add (.var 4) (.var 8))])]

/-- need_both(program, rows): program, rows -/
def d_need_both : Def := .fn 2 2 [.drop (.call 10 [(.var 0)]),
    .drop (.call 39 [(.var 1)])]

/-- prints(program, rows): program, rows -/
def d_prints : Def := .fn 2 2 [.drop (.call 50 [(.var 0), (.var 1)]),
    .ret (.blt .list [(.ix (.call 49 [(.var 0), (.var 1)]) (.cst (.int 0)))])]

/-- path(program, rows): program, rows -/
def d_path : Def := .fn 2 2 [.drop (.call 50 [(.var 0), (.var 1)]),
    .ret (.blt .list [(.ix (.call 49 [(.var 0), (.var 1)]) (.cst (.int 1)))])]

/-- _law_rows(_law_source_here, _law_most): _law_source_here, _law_most, _law_found, _law_key, _law_turn -/
def d_law_rows : Def := .fn 2 5 [.set (.tp [(.nm 2), (.nm 3)]) (.tup [(.tup []), (.cst (.str [97]))]),
    .for_ (.nm 4) (.rng (.call 18 [(.lent 0), (.bin .add (.var 1) (.cst (.int 1)))])) [.set (.nm 3) (.call 19 [(.lent 0), (.lst [(.var 3), (.var 3), (.cst (.str [97])), (.cst (.str [98])), (.cst (.str [99])), (.cst (.str [122]))])]),
    .set (.nm 2) (.bin .add (.var 2) (.tup [(.tup [(.var 3), (.call 19 [(.lent 0), (.lst [(.cst (.int 1)), (.cst (.int 2)), (.cst (.int 0)), (.neg (.cst (.int 3))), (.cst (.int 100)), (.call 18 [(.lent 0), (.cst (.int 1000))])])])])]))],
    .ret (.var 2)]

/-- _law_do(_law_body_here, _law_first, _law_now, _law_row, _law_is_last): _law_body_here, _law_first, _law_now, _law_row, _law_is_last, _law_statement, _law_word, _law_number, _law_test_here, _law_hit, _law_inner, _law_what -/
def d_law_do : Def := .fn 5 12 [.for_ (.nm 5) (.seq (.var 0)) [.par [6, 7] [(.ix (.var 5) (.cst (.int 0))), (.var 1)],
    .appf 2 (.cst (.str [100, 111, 110, 101])) (.var 7),
    .set (.nm 1) (.bin .add (.var 1) (.call 25 [(.tup [(.var 5)])])),
    .iff (.cmp .eq (.var 6) (.cst (.str [105, 102]))) [.set (.nm 8) (.ix (.var 5) (.cst (.int 1))),
    .set (.nm 9) (.isn true (.oix 2 (.cst (.str [107, 101, 112, 116])))),
    .iff (.cmp .eq (.ix (.var 8) (.cst (.int 0))) (.cst (.str [110, 101, 119]))) [.set (.nm 9) (.or (.not (.var 9)) (.cmp .ne (.oix 2 (.cst (.str [107, 101, 112, 116]))) (.ix (.var 3) (.cst (.int 0)))))] [],
    .iff (.cmp .isin (.ix (.var 8) (.cst (.int 0))) (.tup [(.cst (.str [108, 97, 115, 116])), (.cst (.str [102, 108, 97, 103]))])) [.set (.nm 9) (.ite (.cmp .eq (.ix (.var 8) (.cst (.int 0))) (.cst (.str [108, 97, 115, 116]))) (.var 4) (.oix 2 (.ix (.var 8) (.cst (.int 1)))))] [],
    .set (.nm 10) (.bin .add (.bin .add (.var 7) (.cst (.int 1))) (.ite (.var 9) (.cst (.int 0)) (.call 25 [(.ix (.var 5) (.cst (.int 2)))]))),
    .drop (.call 54 [(.ite (.var 9) (.ix (.var 5) (.cst (.int 2))) (.ix (.var 5) (.cst (.int 3)))), (.var 10), (.lent 2), (.var 3), (.var 4)])] [.iff (.cmp .isin (.var 6) (.tup [(.cst (.str [104, 101, 97, 100])), (.cst (.str [105, 116, 101, 109])), (.cst (.str [109, 97, 114, 107])), (.cst (.str [116, 111, 116, 97, 108]))])) [.set (.nm 11) (.ite (.cmp .eq (.var 6) (.cst (.str [105, 116, 101, 109]))) (.ix (.var 3) (.cst (.int 1))) (.ix (.var 5) (.cst (.int 1)))),
    .iff (.cmp .eq (.var 6) (.cst (.str [116, 111, 116, 97, 108]))) [.set (.nm 11) (.oix 2 (.ix (.var 5) (.cst (.int 1))))] [],
    .iff (.cmp .eq (.var 6) (.cst (.str [104, 101, 97, 100]))) [.set (.nm 11) (.ite (.cmp .eq (.ix (.var 5) (.cst (.int 1))) (.cst (.str [116, 104, 105, 115]))) (.ix (.var 3) (.cst (.int 0))) (.oix 2 (.cst (.str [107, 101, 112, 116]))))] [],
    .appf 2 (.cst (.str [116, 111, 108, 100])) (.tup [(.var 6), (.var 11)])] [.iff (.cmp .eq (.var 6) (.cst (.str [107, 101, 101, 112]))) [.put 2 (.cst (.str [107, 101, 112, 116])) (.ix (.var 3) (.cst (.int 0)))] [.iff (.cmp .isin (.var 6) (.tup [(.cst (.str [117, 112])), (.cst (.str [100, 111, 119, 110]))])) [.put 2 (.ix (.var 5) (.cst (.int 1))) (.cmp .eq (.var 6) (.cst (.str [117, 112])))] [.put 2 (.ix (.var 5) (.cst (.int 1))) (.ite (.cmp .eq (.var 6) (.cst (.str [122, 101, 114, 111]))) (.cst (.int 0)) (.bin .add (.oix 2 (.ix (.var 5) (.cst (.int 1)))) (.ix (.var 3) (.cst (.int 1)))))]]]]]]

/-- _law_run(_law_program_here, _law_rows_here, _law_is_whole): _law_program_here, _law_rows_here, _law_is_whole, _law_now, _law_first, _law_at -/
def d_law_run : Def := .fn 3 6 [.seto 3 (.dct [[107, 101, 112, 116], [120], [121], [112], [113], [116, 111, 108, 100], [100, 111, 110, 101]] [(.cst .non), (.cst (.int 0)), (.cst (.int 0)), (.cst (.bl false)), (.cst (.bl false)), (.lst []), (.lst [])]),
    .drop (.call 54 [(.ix (.var 0) (.cst (.int 0))), (.cst (.int 0)), (.lent 3), (.cst .non), (.cst (.bl false))]),
    .set (.nm 4) (.call 25 [(.ix (.var 0) (.cst (.int 0)))]),
    .for_ (.nm 5) (.rng (.blt .len [(.var 1)])) [.drop (.call 54 [(.ix (.var 0) (.cst (.int 1))), (.var 4), (.lent 3), (.ix (.var 1) (.var 5)), (.and (.var 2) (.cmp .eq (.var 5) (.bin .sub (.blt .len [(.var 1)]) (.cst (.int 1)))))])],
    .iff (.var 2) [.drop (.call 54 [(.ix (.var 0) (.cst (.int 2))), (.bin .add (.var 4) (.call 25 [(.ix (.var 0) (.cst (.int 1)))])), (.lent 3), (.cst .non), (.cst (.bl false))])] [],
    .ret (.frz 3)]

/-- law(_law_script): _law_script, _law_k, _law_each, _law_odd, _law_both, _law_source_here, _law_turn, _law_program_here, _law_again, _law_rows_here, _law_now -/
def d_law_1 : Def := .fn 1 11 [.for_ (.nm 1) (.rng (.bin .add (.cst (.int 1)) (.blt .min [(.blt .len [(.var 0)]), (.cst (.int 12))]))) [.seto 5 (.call 17 [(.var 0), (.var 1)]),
    .for_ (.nm 6) (.rng (.cst (.int 3))) [.set (.nm 7) (.call 30 [(.lent 5)]),
    .for_ (.nm 8) (.rng (.cst (.int 5))) [.set (.nm 9) (.call 53 [(.lent 5), (.cst (.int 12))]),
    .set (.nm 10) (.call 55 [(.var 7), (.var 9), (.cst (.bl true))]),
    .iff (.or (.cmp .ne (.call 51 [(.var 7), (.var 9)]) (.ix (.var 10) (.cst (.str [116, 111, 108, 100])))) (.cmp .ne (.call 52 [(.var 7), (.var 9)]) (.ix (.var 10) (.cst (.str [100, 111, 110, 101]))))) [.ret (.cst (.bl false))] [],
    .iff (.or (.not (.isi .list (.call 51 [(.var 7), (.var 9)]))) (.not (.isi .list (.call 52 [(.var 7), (.var 9)])))) [.ret (.cst (.bl false))] []]]],
    .set (.nm 2) (.tup [(.tup [(.cst (.str [105, 102])), (.tup [(.cst (.str [102, 108, 97, 103])), (.cst (.str [113]))]), (.tup [(.tup [(.cst (.str [97, 100, 100])), (.cst (.str [121]))]), (.tup [(.cst (.str [100, 111, 119, 110])), (.cst (.str [113]))])]), (.tup [(.tup [(.cst (.str [107, 101, 101, 112]))])])])]),
    .set (.nm 3) (.tup [(.tup [(.tup [(.cst (.str [104, 101, 97, 100])), (.cst (.str [107, 101, 112, 116]))]), (.tup [(.cst (.str [117, 112])), (.cst (.str [113]))])]), (.var 2), (.tup [(.tup [(.cst (.str [104, 101, 97, 100])), (.cst (.str [107, 101, 112, 116]))])])]),
    .iff (.cmp .ne (.call 51 [(.var 3), (.tup [(.tup [(.cst (.str [99])), (.cst (.int 4))]), (.tup [(.cst (.str [100])), (.cst (.int 5))])])]) (.lst [(.tup [(.cst (.str [104, 101, 97, 100])), (.cst .non)]), (.tup [(.cst (.str [104, 101, 97, 100])), (.cst (.str [100]))])])) [.ret (.cst (.bl false))] [],
    .iff (.cmp .ne (.call 52 [(.var 3), (.tup [(.tup [(.cst (.str [99])), (.cst (.int 4))])])]) (.lst [(.cst (.int 0)), (.cst (.int 1)), (.cst (.int 2)), (.cst (.int 3)), (.cst (.int 4)), (.cst (.int 6))])) [.ret (.cst (.bl false))] [],
    .set (.nm 4) (.tup [(.tup []), (.tup [(.tup [(.cst (.str [97, 100, 100])), (.cst (.str [120]))]), (.tup [(.cst (.str [97, 100, 100])), (.cst (.str [120]))]), (.tup [(.cst (.str [116, 111, 116, 97, 108])), (.cst (.str [120]))]), (.tup [(.cst (.str [122, 101, 114, 111])), (.cst (.str [120]))])]), (.tup [(.tup [(.cst (.str [116, 111, 116, 97, 108])), (.cst (.str [120]))])])]),
    .ret (.cmp .eq (.call 51 [(.var 4), (.tup [(.tup [(.cst (.str [97])), (.neg (.cst (.int 3)))]), (.tup [(.cst (.str [97])), (.bin .pow (.cst (.int 10)) (.cst (.int 30)))])])]) (.lst [(.tup [(.cst (.str [116, 111, 116, 97, 108])), (.neg (.cst (.int 6)))]), (.tup [(.cst (.str [116, 111, 116, 97, 108])), (.bin .mul (.cst (.int 2)) (.bin .pow (.cst (.int 10)) (.cst (.int 30))))]), (.tup [(.cst (.str [116, 111, 116, 97, 108])), (.cst (.int 0))])]))]
end BP

set_option maxRecDepth 100000
set_option maxHeartbeats 4000000
/-! Rules by which simp runs the interpreter, lazily. -/
namespace BP

section
variable {α : Type} {Φ : Calls} {G : Nat → Option D} {W : Nat}
@[simp] theorem bV_val (d : D) (ρ : Env) (k : D → Env → Option α) : bV (some (.val d, ρ)) k = k d ρ := rfl
@[simp] theorem bV_own (o : O) (ρ : Env) (k : D → Env → Option α) : bV (some (.own o, ρ)) k = k o.fz ρ := rfl
@[simp] theorem bV_none (k : D → Env → Option α) : bV none k = none := rfl
@[simp] theorem bR_some' (r : Ret) (ρ : Env) (k : Ret → Env → Option α) : bR (some (r, ρ)) k = k r ρ := rfl
@[simp] theorem bR_none (k : Ret → Env → Option α) : bR none k = none := rfl
@[simp] theorem bL_some' (r : List D) (ρ : Env) (k : List D → Env → Option α) : bL (some (r, ρ)) k = k r ρ := rfl
@[simp] theorem bL_none (k : List D → Env → Option α) : bL none k = none := rfl
@[simp] theorem rV_eq (d : D) (ρ : Env) : rV d ρ = some (.val d, ρ) := rfl
@[simp] theorem rO_eq (o : O) (ρ : Env) : rO o ρ = some (.own o, ρ) := rfl
@[simp] theorem oV_eq (d : D) (ρ : Env) : oV (some d) ρ = some (.val d, ρ) := rfl
@[simp] theorem oV_none (ρ : Env) : oV none ρ = none := rfl
@[simp] theorem oR_eq (d : Ret) (ρ : Env) : oR (some d) ρ = some (d, ρ) := rfl
@[simp] theorem oR_none (ρ : Env) : oR none ρ = none := rfl
@[simp] theorem fz_lst (ds : List D) : O.fz (.lst ds) = .lst ds := rfl
@[simp] theorem fz_dic (ks : List D) (vs : List Fld) : O.fz (.dic ks vs) = .dic ks (vs.map Fld.fz) := rfl

/-! slots -/
@[simp] theorem get_0 (x : Slot) (r : Env) : get (x :: r) 0 = x := rfl
@[simp] theorem get_s (x : Slot) (r : Env) (i : Nat) : get (x :: r) (i + 1) = get r i := rfl
@[simp] theorem put_0 (x s : Slot) (r : Env) : put (x :: r) 0 s = s :: r := rfl
@[simp] theorem put_s (x s : Slot) (r : Env) (i : Nat) : put (x :: r) (i + 1) s = x :: put r i s := rfl
/-- a value read -/
def gv : Slot → Env → Option (Ret × Env)
  | .val d, ρ => some (.val d, ρ)
  | _, _ => none
@[simp] theorem gv_val (d : D) (ρ : Env) : gv (.val d) ρ = some (.val d, ρ) := rfl
@[simp] theorem ev_var (i : Nat) (ρ : Env) : evE Φ G (.var i) ρ = gv (get ρ i) ρ := by
  unfold evE gv
  cases get ρ i <;> rfl
def gf : Slot → Nat → Env → Option (Ret × Env)
  | .own o, i, ρ => some (.val o.fz, put ρ i (.val o.fz))
  | .val d, _, ρ => some (.val d, ρ)
  | _, _, _ => none
@[simp] theorem gf_own (o : O) (i : Nat) (ρ : Env) : gf (.own o) i ρ = some (.val o.fz, put ρ i (.val o.fz)) := rfl
@[simp] theorem gf_val (d : D) (i : Nat) (ρ : Env) : gf (.val d) i ρ = some (.val d, ρ) := rfl
@[simp] theorem ev_frz (i : Nat) (ρ : Env) : evE Φ G (.frz i) ρ = gf (get ρ i) i ρ := by
  unfold evE gf
  cases get ρ i <;> rfl
def gm : Slot → Nat → Env → Option (Ret × Env)
  | .own o, i, ρ => some (.own o, put ρ i .emp)
  | _, _, _ => none
@[simp] theorem gm_own (o : O) (i : Nat) (ρ : Env) : gm (.own o) i ρ = some (.own o, put ρ i .emp) := rfl
@[simp] theorem ev_mov (i : Nat) (ρ : Env) : evE Φ G (.mov i) ρ = gm (get ρ i) i ρ := by
  unfold evE gm
  cases get ρ i <;> rfl
def setG (b : Bool) (ρ : Env) (i : Nat) (s : Slot) : Option Env := if b then none else some (put ρ i s)
@[simp] theorem setS_eq (ρ : Env) (i : Nat) (s : Slot) : setS ρ i s = setG (isLnt (get ρ i)) ρ i s := rfl
@[simp] theorem setG_f (ρ : Env) (i : Nat) (s : Slot) : setG false ρ i s = some (put ρ i s) := rfl
@[simp] theorem isLnt_emp : isLnt .emp = false := rfl
@[simp] theorem isLnt_val (d : D) : isLnt (.val d) = false := rfl
@[simp] theorem isLnt_own (d : O) : isLnt (.own d) = false := rfl
@[simp] theorem isThing_emp : isThing .emp = false := rfl
@[simp] theorem isThing_val (d : D) : isThing (.val d) = false := rfl
@[simp] theorem isThing_own (d : O) : isThing (.own d) = true := rfl
@[simp] theorem isThing_lnt (d : O) : isThing (.lnt d) = true := rfl
@[simp] theorem gO_eq (ρ : Env) (i : Nat) : gO ρ i = (get ρ i).thing := rfl
@[simp] theorem thing_own (o : O) : Slot.thing (.own o) = some o := rfl
@[simp] theorem thing_lnt (o : O) : Slot.thing (.lnt o) = some o := rfl
@[simp] theorem thing_val (o : D) : Slot.thing (.val o) = none := rfl
@[simp] theorem thing_emp : Slot.thing .emp = none := rfl
@[simp] theorem pO_eq (ρ : Env) (i : Nat) (o : O) : pO ρ i o = put ρ i ((get ρ i).with o) := rfl
@[simp] theorem with_own (o o' : O) : Slot.with (.own o) o' = .own o' := rfl
@[simp] theorem with_lnt (o o' : O) : Slot.with (.lnt o) o' = .lnt o' := rfl
@[simp] theorem isLstO_1 (ds : List D) : isLstO (some (.lst ds)) = true := rfl
@[simp] theorem isDicO_1 (ks : List D) (vs : List Fld) : isDicO (some (.dic ks vs)) = true := rfl

/-! expressions -/
@[simp] theorem ev_cst (d : D) (ρ : Env) : evE Φ G (.cst d) ρ = some (.val d, ρ) := rfl
def gG : Option D → Env → Option (Ret × Env)
  | some d, ρ => some (.val d, ρ)
  | none, _ => none
@[simp] theorem gG_some (d : D) (ρ : Env) : gG (some d) ρ = some (.val d, ρ) := rfl
@[simp] theorem ev_glb (n : Nat) (ρ : Env) : evE Φ G (.glb n) ρ = gG (G n) ρ := by
  unfold evE gG
  cases G n <;> rfl
@[simp] theorem ev_tup (es : List E) (ρ : Env) : evE Φ G (.tup es) ρ = bL (evEs Φ G es ρ) fun ds ρ => if ds.length ≤ lineN then rV (.tup ds) ρ else none := rfl
@[simp] theorem ev_lst (es : List E) (ρ : Env) : evE Φ G (.lst es) ρ = bL (evEs Φ G es ρ) fun ds ρ => if ds.length ≤ lineN then rO (.lst ds) ρ else none := rfl
@[simp] theorem ev_bin (op : Bop) (a b : E) (ρ : Env) : evE Φ G (.bin op a b) ρ = bV (evE Φ G a ρ) fun x ρ => bV (evE Φ G b ρ) fun y ρ => oR (binop op x y) ρ := rfl
@[simp] theorem ev_cmp (op : Cop) (a b : E) (ρ : Env) : evE Φ G (.cmp op a b) ρ = bV (evE Φ G a ρ) fun x ρ => bV (evE Φ G b ρ) fun y ρ => oV ((cmpop op x y).map D.bl) ρ := rfl
def chK (b : Option Bool) (k : Unit → Option (Ret × Env)) (ρ : Env) : Option (Ret × Env) := match b with
  | some true => k ()
  | some false => some (.val (.bl false), ρ)
  | none => none
@[simp] theorem chK_t (k : Unit → Option (Ret × Env)) (ρ : Env) : chK (some true) k ρ = k () := rfl
@[simp] theorem chK_f (k : Unit → Option (Ret × Env)) (ρ : Env) : chK (some false) k ρ = some (.val (.bl false), ρ) := rfl
@[simp] theorem ev_chn (op op' : Cop) (a b c : E) (ρ : Env) : evE Φ G (.chn op op' a b c) ρ = bV (evE Φ G a ρ) fun x ρ => bV (evE Φ G b ρ) fun y ρ => chK (cmpop op x y) (fun _ => bV (evE Φ G c ρ) fun z ρ => oV ((cmpop op' y z).map D.bl) ρ) ρ := by
  conv => lhs; unfold evE
  first | rfl | (congr; done) | (congr; funext x ρ; congr; funext y ρ; unfold chK; split <;> simp_all)
@[simp] theorem ev_isn (neg : Bool) (a : E) (ρ : Env) : evE Φ G (.isn neg a) ρ = bV (evE Φ G a ρ) fun x ρ => rV (.bl (neg != isNon x)) ρ := rfl
/-- by a truth value -/
def bK {β : Type} (x : D) (t e : Unit → Option β) : Option β := match x with
  | .bl true => t ()
  | .bl false => e ()
  | _ => none
@[simp] theorem bK_t {β : Type} (t e : Unit → Option β) : bK (.bl true) t e = t () := rfl
@[simp] theorem bK_f {β : Type} (t e : Unit → Option β) : bK (.bl false) t e = e () := rfl
theorem bK_eq {β : Type} (x : D) (t e : Option β) : (match x with
    | .bl true => t
    | .bl false => e
    | _ => none) = bK x (fun _ => t) (fun _ => e) := by
  unfold bK
  split <;> simp_all
@[simp] theorem ev_and (a b : E) (ρ : Env) : evE Φ G (.and a b) ρ = bV (evE Φ G a ρ) fun x ρ => bK x (fun _ => evE Φ G b ρ) (fun _ => rV (.bl false) ρ) := by
  conv => lhs; unfold evE
  first | rfl | (congr; done) | (congr; funext x ρ; exact bK_eq x _ _)
@[simp] theorem ev_or (a b : E) (ρ : Env) : evE Φ G (.or a b) ρ = bV (evE Φ G a ρ) fun x ρ => bK x (fun _ => rV (.bl true) ρ) (fun _ => evE Φ G b ρ) := by
  conv => lhs; unfold evE
  first | rfl | (congr; done) | (congr; funext x ρ; unfold bK; split <;> simp_all)
def notK (x : D) (ρ : Env) : Option (Ret × Env) := match x with
  | .bl b => some (.val (.bl (!b)), ρ)
  | _ => none
@[simp] theorem notK_b (b : Bool) (ρ : Env) : notK (.bl b) ρ = some (.val (.bl (!b)), ρ) := rfl
@[simp] theorem ev_not (a : E) (ρ : Env) : evE Φ G (.not a) ρ = bV (evE Φ G a ρ) fun x ρ => notK x ρ := by
  conv => lhs; unfold evE
  first | rfl | (congr; done) | (congr; funext x ρ; unfold notK; split <;> simp_all)
def negK (x : D) (ρ : Env) : Option (Ret × Env) := match x with
  | .int i => some (.val (.int (-i)), ρ)
  | _ => none
@[simp] theorem negK_i (i : Int) (ρ : Env) : negK (.int i) ρ = some (.val (.int (-i)), ρ) := rfl
@[simp] theorem ev_neg (a : E) (ρ : Env) : evE Φ G (.neg a) ρ = bV (evE Φ G a ρ) fun x ρ => negK x ρ := by
  conv => lhs; unfold evE
  first | rfl | (congr; done) | (congr; funext x ρ; unfold negK; split <;> simp_all)
@[simp] theorem ev_ite (t a b : E) (ρ : Env) : evE Φ G (.ite t a b) ρ = bV (evE Φ G t ρ) fun x ρ => bK x (fun _ => evE Φ G a ρ) (fun _ => evE Φ G b ρ) := by
  conv => lhs; unfold evE
  first | rfl | (congr; done) | (congr; funext x ρ; exact bK_eq x _ _)
@[simp] theorem ev_ix (a i : E) (ρ : Env) : evE Φ G (.ix a i) ρ = bV (evE Φ G a ρ) fun x ρ => bV (evE Φ G i ρ) fun y ρ => oV (ixop x y) ρ := rfl
def oK (x : Option (Option Int × Env)) (k : Option Int → Env → Option (Ret × Env)) : Option (Ret × Env) := match x with
  | some (l, ρ) => k l ρ
  | none => none
@[simp] theorem oK_s (l : Option Int) (ρ : Env) (k : Option Int → Env → Option (Ret × Env)) : oK (some (l, ρ)) k = k l ρ := rfl
@[simp] theorem ev_sl (a : E) (lo hi : Option E) (ρ : Env) : evE Φ G (.sl a lo hi) ρ = bV (evE Φ G a ρ) fun x ρ => oK (evO Φ G lo ρ) fun l ρ => oK (evO Φ G hi ρ) fun h ρ => oR (slop x l h) ρ := by
  conv => lhs; unfold evE
  congr
@[simp] theorem ev_o0 (ρ : Env) : evO Φ G none ρ = some (none, ρ) := rfl
def iK (x : D) (ρ : Env) : Option (Option Int × Env) := match x with
  | .int i => some (some i, ρ)
  | _ => none
@[simp] theorem iK_i (i : Int) (ρ : Env) : iK (.int i) ρ = some (some i, ρ) := rfl
@[simp] theorem ev_o1 (e : E) (ρ : Env) : evO Φ G (some e) ρ = bV (evE Φ G e ρ) iK := by
  conv => lhs; unfold evO
  congr
@[simp] theorem ev_blt (b : Blt) (es : List E) (ρ : Env) : evE Φ G (.blt b es) ρ = bL (evEs Φ G es ρ) fun ds ρ => oR (bltop b ds) ρ := rfl
@[simp] theorem ev_isi (t : TyN) (a : E) (ρ : Env) : evE Φ G (.isi t a) ρ = bV (evE Φ G a ρ) fun x ρ => oV ((isiop t x).map D.bl) ρ := rfl
@[simp] theorem ev_mth (m : Mth) (a b : E) (ρ : Env) : evE Φ G (.mth m a b) ρ = bV (evE Φ G a ρ) fun x ρ => bV (evE Φ G b ρ) fun y ρ => oR (mthop m x y) ρ := rfl
@[simp] theorem evs_nil (ρ : Env) : evEs Φ G [] ρ = some ([], ρ) := rfl
@[simp] theorem evs_cons (e : E) (es : List E) (ρ : Env) : evEs Φ G (e :: es) ρ = bV (evE Φ G e ρ) fun d ρ => bL (evEs Φ G es ρ) fun ds ρ => some (d :: ds, ρ) := rfl
/-- a thing indexed -/
def oixK (o : Option O) (k : D) (ρ : Env) : Option (Ret × Env) := match o, k with
  | some (.lst ds), .int j => oV (ixL ds j) ρ
  | some (.dic ks vs), k => if okKey k then match lookF k ks vs with
    | some (.v d) => rV d ρ
    | _ => none else none
  | _, _ => none
@[simp] theorem oixK_l (ds : List D) (j : Int) (ρ : Env) : oixK (some (.lst ds)) (.int j) ρ = oV (ixL ds j) ρ := rfl
@[simp] theorem ev_oix (i : Nat) (e : E) (ρ : Env) : evE Φ G (.oix i e) ρ = if isThing (get ρ i) then bV (evE Φ G e ρ) fun k ρ => oixK (gO ρ i) k ρ else none := by
  conv => lhs; unfold evE
  congr
@[simp] theorem asg_nm (i : Nat) (d : D) (ρ : Env) : asg (.nm i) d ρ = setS ρ i (.val d) := rfl

/-! calls -/
def cK (r : Option (Ret × Option O)) (l : List Nat) (ρ : Env) : Option (Ret × Env) := match r with
  | some (r, o) => match outsTo l o ρ with
    | some ρ => some (r, ρ)
    | none => none
  | none => none
@[simp] theorem cK_0 (r : Ret) (ρ : Env) : cK (some (r, none)) [] ρ = some (r, ρ) := rfl
@[simp] theorem cK_1 (r : Ret) (o : O) (i : Nat) (ρ : Env) : cK (some (r, some o)) [i] ρ = some (r, pO ρ i o) := rfl
def aK {β : Type} (x : Option (List Slot × Env)) (k : List Slot → Env → Option β) : Option β := match x with
  | some (ss, ρ) => k ss ρ
  | none => none
@[simp] theorem aK_s {β : Type} (l : List Slot) (ρ : Env) (k : List Slot → Env → Option β) : aK (some (l, ρ)) k = k l ρ := rfl
def lK {β : Type} (x : Option (List Slot)) (k : List Slot → Option β) : Option β := match x with
  | some ss => k ss
  | none => none
@[simp] theorem lK_s {β : Type} (l : List Slot) (k : List Slot → Option β) : lK (some l) k = k l := rfl
@[simp] theorem ev_call (f : Nat) (es : List E) (ρ : Env) : evE Φ G (.call f es) ρ = aK (evAs Φ G es ρ) fun ss ρ => lK (lentIn es ss ρ) fun ss => cK (Φ f ss) (lentSlots es) ρ := by
  conv => lhs; unfold evE
  unfold aK lK cK
  rfl
@[simp] theorem as_nil (ρ : Env) : evAs Φ G [] ρ = some ([], ρ) := rfl
@[simp] theorem as_lent (i : Nat) (es : List E) (ρ : Env) : evAs Φ G (.lent i :: es) ρ = if isThing (get ρ i) then aK (evAs Φ G es ρ) fun ss ρ => some (.emp :: ss, ρ) else none := by
  conv => lhs; unfold evAs
  unfold aK
  rfl
def isLent : E → Bool
  | .lent _ => true
  | _ => false
theorem as_val (e : E) (es : List E) (ρ : Env) (h : isLent e = false) : evAs Φ G (e :: es) ρ = bV (evE Φ G e ρ) fun d ρ => aK (evAs Φ G es ρ) fun ss ρ => some (.val d :: ss, ρ) := by
  cases e <;> first | (conv => lhs; unfold evAs) ; (unfold aK; rfl) | cases h
@[simp] theorem li_nil (ρ : Env) : lentIn [] [] ρ = some [] := rfl
@[simp] theorem li_lent (i : Nat) (es : List E) (s : Slot) (ss : List Slot) (ρ : Env) : lentIn (.lent i :: es) (s :: ss) ρ = (gO ρ i).bind fun o => (lentIn es ss ρ).map (.lnt o :: ·) := by
  conv => lhs; unfold lentIn
  cases gO ρ i <;> rfl
theorem li_val (e : E) (es : List E) (s : Slot) (ss : List Slot) (ρ : Env) (h : isLent e = false) : lentIn (e :: es) (s :: ss) ρ = (lentIn es ss ρ).map (s :: ·) := by
  cases e <;> first | (simp [lentIn]; done) | cases h
@[simp] theorem ls_nil : lentSlots [] = [] := rfl
@[simp] theorem ls_lent (i : Nat) (es : List E) : lentSlots (.lent i :: es) = i :: lentSlots es := rfl
theorem ls_val (e : E) (es : List E) (h : isLent e = false) : lentSlots (e :: es) = lentSlots es := by
  cases e <;> first | (simp [lentSlots]; done) | cases h

@[simp] theorem as_var (i : Nat) (es : List E) (ρ : Env) : evAs Φ G (.var i :: es) ρ = bV (evE Φ G (.var i) ρ) fun d ρ => aK (evAs Φ G es ρ) fun ss ρ => some (.val d :: ss, ρ) := as_val _ _ _ rfl
@[simp] theorem li_var (i : Nat) (es : List E) (s : Slot) (ss : List Slot) (ρ : Env) : lentIn (.var i :: es) (s :: ss) ρ = (lentIn es ss ρ).map (s :: ·) := li_val _ _ _ _ _ rfl
@[simp] theorem ls_var (i : Nat) (es : List E) : lentSlots (.var i :: es) = lentSlots es := ls_val _ _ rfl
@[simp] theorem as_frz (i : Nat) (es : List E) (ρ : Env) : evAs Φ G (.frz i :: es) ρ = bV (evE Φ G (.frz i) ρ) fun d ρ => aK (evAs Φ G es ρ) fun ss ρ => some (.val d :: ss, ρ) := as_val _ _ _ rfl
@[simp] theorem li_frz (i : Nat) (es : List E) (s : Slot) (ss : List Slot) (ρ : Env) : lentIn (.frz i :: es) (s :: ss) ρ = (lentIn es ss ρ).map (s :: ·) := li_val _ _ _ _ _ rfl
@[simp] theorem ls_frz (i : Nat) (es : List E) : lentSlots (.frz i :: es) = lentSlots es := ls_val _ _ rfl
@[simp] theorem as_mov (i : Nat) (es : List E) (ρ : Env) : evAs Φ G (.mov i :: es) ρ = bV (evE Φ G (.mov i) ρ) fun d ρ => aK (evAs Φ G es ρ) fun ss ρ => some (.val d :: ss, ρ) := as_val _ _ _ rfl
@[simp] theorem li_mov (i : Nat) (es : List E) (s : Slot) (ss : List Slot) (ρ : Env) : lentIn (.mov i :: es) (s :: ss) ρ = (lentIn es ss ρ).map (s :: ·) := li_val _ _ _ _ _ rfl
@[simp] theorem ls_mov (i : Nat) (es : List E) : lentSlots (.mov i :: es) = lentSlots es := ls_val _ _ rfl
@[simp] theorem as_glb (i : Nat) (es : List E) (ρ : Env) : evAs Φ G (.glb i :: es) ρ = bV (evE Φ G (.glb i) ρ) fun d ρ => aK (evAs Φ G es ρ) fun ss ρ => some (.val d :: ss, ρ) := as_val _ _ _ rfl
@[simp] theorem li_glb (i : Nat) (es : List E) (s : Slot) (ss : List Slot) (ρ : Env) : lentIn (.glb i :: es) (s :: ss) ρ = (lentIn es ss ρ).map (s :: ·) := li_val _ _ _ _ _ rfl
@[simp] theorem ls_glb (i : Nat) (es : List E) : lentSlots (.glb i :: es) = lentSlots es := ls_val _ _ rfl
@[simp] theorem as_gix (i : Nat) (a : E) (es : List E) (ρ : Env) : evAs Φ G (.gix i a :: es) ρ = bV (evE Φ G (.gix i a) ρ) fun d ρ => aK (evAs Φ G es ρ) fun ss ρ => some (.val d :: ss, ρ) := as_val _ _ _ rfl
@[simp] theorem li_gix (i : Nat) (a : E) (es : List E) (s : Slot) (ss : List Slot) (ρ : Env) : lentIn (.gix i a :: es) (s :: ss) ρ = (lentIn es ss ρ).map (s :: ·) := li_val _ _ _ _ _ rfl
@[simp] theorem ls_gix (i : Nat) (a : E) (es : List E) : lentSlots (.gix i a :: es) = lentSlots es := ls_val _ _ rfl
@[simp] theorem as_cst (d : D) (es : List E) (ρ : Env) : evAs Φ G (.cst d :: es) ρ = bV (evE Φ G (.cst d) ρ) fun d ρ => aK (evAs Φ G es ρ) fun ss ρ => some (.val d :: ss, ρ) := as_val _ _ _ rfl
@[simp] theorem li_cst (d : D) (es : List E) (s : Slot) (ss : List Slot) (ρ : Env) : lentIn (.cst d :: es) (s :: ss) ρ = (lentIn es ss ρ).map (s :: ·) := li_val _ _ _ _ _ rfl
@[simp] theorem ls_cst (d : D) (es : List E) : lentSlots (.cst d :: es) = lentSlots es := ls_val _ _ rfl
@[simp] theorem as_tup (us : List E) (es : List E) (ρ : Env) : evAs Φ G (.tup us :: es) ρ = bV (evE Φ G (.tup us) ρ) fun d ρ => aK (evAs Φ G es ρ) fun ss ρ => some (.val d :: ss, ρ) := as_val _ _ _ rfl
@[simp] theorem li_tup (us : List E) (es : List E) (s : Slot) (ss : List Slot) (ρ : Env) : lentIn (.tup us :: es) (s :: ss) ρ = (lentIn es ss ρ).map (s :: ·) := li_val _ _ _ _ _ rfl
@[simp] theorem ls_tup (us : List E) (es : List E) : lentSlots (.tup us :: es) = lentSlots es := ls_val _ _ rfl
@[simp] theorem as_lst (us : List E) (es : List E) (ρ : Env) : evAs Φ G (.lst us :: es) ρ = bV (evE Φ G (.lst us) ρ) fun d ρ => aK (evAs Φ G es ρ) fun ss ρ => some (.val d :: ss, ρ) := as_val _ _ _ rfl
@[simp] theorem li_lst (us : List E) (es : List E) (s : Slot) (ss : List Slot) (ρ : Env) : lentIn (.lst us :: es) (s :: ss) ρ = (lentIn es ss ρ).map (s :: ·) := li_val _ _ _ _ _ rfl
@[simp] theorem ls_lst (us : List E) (es : List E) : lentSlots (.lst us :: es) = lentSlots es := ls_val _ _ rfl
@[simp] theorem as_bin (o : Bop) (a b : E) (es : List E) (ρ : Env) : evAs Φ G (.bin o a b :: es) ρ = bV (evE Φ G (.bin o a b) ρ) fun d ρ => aK (evAs Φ G es ρ) fun ss ρ => some (.val d :: ss, ρ) := as_val _ _ _ rfl
@[simp] theorem li_bin (o : Bop) (a b : E) (es : List E) (s : Slot) (ss : List Slot) (ρ : Env) : lentIn (.bin o a b :: es) (s :: ss) ρ = (lentIn es ss ρ).map (s :: ·) := li_val _ _ _ _ _ rfl
@[simp] theorem ls_bin (o : Bop) (a b : E) (es : List E) : lentSlots (.bin o a b :: es) = lentSlots es := ls_val _ _ rfl
@[simp] theorem as_cmp (o : Cop) (a b : E) (es : List E) (ρ : Env) : evAs Φ G (.cmp o a b :: es) ρ = bV (evE Φ G (.cmp o a b) ρ) fun d ρ => aK (evAs Φ G es ρ) fun ss ρ => some (.val d :: ss, ρ) := as_val _ _ _ rfl
@[simp] theorem li_cmp (o : Cop) (a b : E) (es : List E) (s : Slot) (ss : List Slot) (ρ : Env) : lentIn (.cmp o a b :: es) (s :: ss) ρ = (lentIn es ss ρ).map (s :: ·) := li_val _ _ _ _ _ rfl
@[simp] theorem ls_cmp (o : Cop) (a b : E) (es : List E) : lentSlots (.cmp o a b :: es) = lentSlots es := ls_val _ _ rfl
@[simp] theorem as_chn (o p : Cop) (a b c : E) (es : List E) (ρ : Env) : evAs Φ G (.chn o p a b c :: es) ρ = bV (evE Φ G (.chn o p a b c) ρ) fun d ρ => aK (evAs Φ G es ρ) fun ss ρ => some (.val d :: ss, ρ) := as_val _ _ _ rfl
@[simp] theorem li_chn (o p : Cop) (a b c : E) (es : List E) (s : Slot) (ss : List Slot) (ρ : Env) : lentIn (.chn o p a b c :: es) (s :: ss) ρ = (lentIn es ss ρ).map (s :: ·) := li_val _ _ _ _ _ rfl
@[simp] theorem ls_chn (o p : Cop) (a b c : E) (es : List E) : lentSlots (.chn o p a b c :: es) = lentSlots es := ls_val _ _ rfl
@[simp] theorem as_isn (n : Bool) (a : E) (es : List E) (ρ : Env) : evAs Φ G (.isn n a :: es) ρ = bV (evE Φ G (.isn n a) ρ) fun d ρ => aK (evAs Φ G es ρ) fun ss ρ => some (.val d :: ss, ρ) := as_val _ _ _ rfl
@[simp] theorem li_isn (n : Bool) (a : E) (es : List E) (s : Slot) (ss : List Slot) (ρ : Env) : lentIn (.isn n a :: es) (s :: ss) ρ = (lentIn es ss ρ).map (s :: ·) := li_val _ _ _ _ _ rfl
@[simp] theorem ls_isn (n : Bool) (a : E) (es : List E) : lentSlots (.isn n a :: es) = lentSlots es := ls_val _ _ rfl
@[simp] theorem as_and (a b : E) (es : List E) (ρ : Env) : evAs Φ G (.and a b :: es) ρ = bV (evE Φ G (.and a b) ρ) fun d ρ => aK (evAs Φ G es ρ) fun ss ρ => some (.val d :: ss, ρ) := as_val _ _ _ rfl
@[simp] theorem li_and (a b : E) (es : List E) (s : Slot) (ss : List Slot) (ρ : Env) : lentIn (.and a b :: es) (s :: ss) ρ = (lentIn es ss ρ).map (s :: ·) := li_val _ _ _ _ _ rfl
@[simp] theorem ls_and (a b : E) (es : List E) : lentSlots (.and a b :: es) = lentSlots es := ls_val _ _ rfl
@[simp] theorem as_or (a b : E) (es : List E) (ρ : Env) : evAs Φ G (.or a b :: es) ρ = bV (evE Φ G (.or a b) ρ) fun d ρ => aK (evAs Φ G es ρ) fun ss ρ => some (.val d :: ss, ρ) := as_val _ _ _ rfl
@[simp] theorem li_or (a b : E) (es : List E) (s : Slot) (ss : List Slot) (ρ : Env) : lentIn (.or a b :: es) (s :: ss) ρ = (lentIn es ss ρ).map (s :: ·) := li_val _ _ _ _ _ rfl
@[simp] theorem ls_or (a b : E) (es : List E) : lentSlots (.or a b :: es) = lentSlots es := ls_val _ _ rfl
@[simp] theorem as_not (a : E) (es : List E) (ρ : Env) : evAs Φ G (.not a :: es) ρ = bV (evE Φ G (.not a) ρ) fun d ρ => aK (evAs Φ G es ρ) fun ss ρ => some (.val d :: ss, ρ) := as_val _ _ _ rfl
@[simp] theorem li_not (a : E) (es : List E) (s : Slot) (ss : List Slot) (ρ : Env) : lentIn (.not a :: es) (s :: ss) ρ = (lentIn es ss ρ).map (s :: ·) := li_val _ _ _ _ _ rfl
@[simp] theorem ls_not (a : E) (es : List E) : lentSlots (.not a :: es) = lentSlots es := ls_val _ _ rfl
@[simp] theorem as_neg (a : E) (es : List E) (ρ : Env) : evAs Φ G (.neg a :: es) ρ = bV (evE Φ G (.neg a) ρ) fun d ρ => aK (evAs Φ G es ρ) fun ss ρ => some (.val d :: ss, ρ) := as_val _ _ _ rfl
@[simp] theorem li_neg (a : E) (es : List E) (s : Slot) (ss : List Slot) (ρ : Env) : lentIn (.neg a :: es) (s :: ss) ρ = (lentIn es ss ρ).map (s :: ·) := li_val _ _ _ _ _ rfl
@[simp] theorem ls_neg (a : E) (es : List E) : lentSlots (.neg a :: es) = lentSlots es := ls_val _ _ rfl
@[simp] theorem as_ite (a b c : E) (es : List E) (ρ : Env) : evAs Φ G (.ite a b c :: es) ρ = bV (evE Φ G (.ite a b c) ρ) fun d ρ => aK (evAs Φ G es ρ) fun ss ρ => some (.val d :: ss, ρ) := as_val _ _ _ rfl
@[simp] theorem li_ite (a b c : E) (es : List E) (s : Slot) (ss : List Slot) (ρ : Env) : lentIn (.ite a b c :: es) (s :: ss) ρ = (lentIn es ss ρ).map (s :: ·) := li_val _ _ _ _ _ rfl
@[simp] theorem ls_ite (a b c : E) (es : List E) : lentSlots (.ite a b c :: es) = lentSlots es := ls_val _ _ rfl
@[simp] theorem as_ix (a b : E) (es : List E) (ρ : Env) : evAs Φ G (.ix a b :: es) ρ = bV (evE Φ G (.ix a b) ρ) fun d ρ => aK (evAs Φ G es ρ) fun ss ρ => some (.val d :: ss, ρ) := as_val _ _ _ rfl
@[simp] theorem li_ix (a b : E) (es : List E) (s : Slot) (ss : List Slot) (ρ : Env) : lentIn (.ix a b :: es) (s :: ss) ρ = (lentIn es ss ρ).map (s :: ·) := li_val _ _ _ _ _ rfl
@[simp] theorem ls_ix (a b : E) (es : List E) : lentSlots (.ix a b :: es) = lentSlots es := ls_val _ _ rfl
@[simp] theorem as_sl (a : E) (l h : Option E) (es : List E) (ρ : Env) : evAs Φ G (.sl a l h :: es) ρ = bV (evE Φ G (.sl a l h) ρ) fun d ρ => aK (evAs Φ G es ρ) fun ss ρ => some (.val d :: ss, ρ) := as_val _ _ _ rfl
@[simp] theorem li_sl (a : E) (l h : Option E) (es : List E) (s : Slot) (ss : List Slot) (ρ : Env) : lentIn (.sl a l h :: es) (s :: ss) ρ = (lentIn es ss ρ).map (s :: ·) := li_val _ _ _ _ _ rfl
@[simp] theorem ls_sl (a : E) (l h : Option E) (es : List E) : lentSlots (.sl a l h :: es) = lentSlots es := ls_val _ _ rfl
@[simp] theorem as_rev (a : E) (es : List E) (ρ : Env) : evAs Φ G (.rev a :: es) ρ = bV (evE Φ G (.rev a) ρ) fun d ρ => aK (evAs Φ G es ρ) fun ss ρ => some (.val d :: ss, ρ) := as_val _ _ _ rfl
@[simp] theorem li_rev (a : E) (es : List E) (s : Slot) (ss : List Slot) (ρ : Env) : lentIn (.rev a :: es) (s :: ss) ρ = (lentIn es ss ρ).map (s :: ·) := li_val _ _ _ _ _ rfl
@[simp] theorem ls_rev (a : E) (es : List E) : lentSlots (.rev a :: es) = lentSlots es := ls_val _ _ rfl
@[simp] theorem as_call (f : Nat) (us : List E) (es : List E) (ρ : Env) : evAs Φ G (.call f us :: es) ρ = bV (evE Φ G (.call f us) ρ) fun d ρ => aK (evAs Φ G es ρ) fun ss ρ => some (.val d :: ss, ρ) := as_val _ _ _ rfl
@[simp] theorem li_call (f : Nat) (us : List E) (es : List E) (s : Slot) (ss : List Slot) (ρ : Env) : lentIn (.call f us :: es) (s :: ss) ρ = (lentIn es ss ρ).map (s :: ·) := li_val _ _ _ _ _ rfl
@[simp] theorem ls_call (f : Nat) (us : List E) (es : List E) : lentSlots (.call f us :: es) = lentSlots es := ls_val _ _ rfl
@[simp] theorem as_blt (b : Blt) (us : List E) (es : List E) (ρ : Env) : evAs Φ G (.blt b us :: es) ρ = bV (evE Φ G (.blt b us) ρ) fun d ρ => aK (evAs Φ G es ρ) fun ss ρ => some (.val d :: ss, ρ) := as_val _ _ _ rfl
@[simp] theorem li_blt (b : Blt) (us : List E) (es : List E) (s : Slot) (ss : List Slot) (ρ : Env) : lentIn (.blt b us :: es) (s :: ss) ρ = (lentIn es ss ρ).map (s :: ·) := li_val _ _ _ _ _ rfl
@[simp] theorem ls_blt (b : Blt) (us : List E) (es : List E) : lentSlots (.blt b us :: es) = lentSlots es := ls_val _ _ rfl
@[simp] theorem as_isi (t : TyN) (a : E) (es : List E) (ρ : Env) : evAs Φ G (.isi t a :: es) ρ = bV (evE Φ G (.isi t a) ρ) fun d ρ => aK (evAs Φ G es ρ) fun ss ρ => some (.val d :: ss, ρ) := as_val _ _ _ rfl
@[simp] theorem li_isi (t : TyN) (a : E) (es : List E) (s : Slot) (ss : List Slot) (ρ : Env) : lentIn (.isi t a :: es) (s :: ss) ρ = (lentIn es ss ρ).map (s :: ·) := li_val _ _ _ _ _ rfl
@[simp] theorem ls_isi (t : TyN) (a : E) (es : List E) : lentSlots (.isi t a :: es) = lentSlots es := ls_val _ _ rfl
@[simp] theorem as_mth (m : Mth) (a b : E) (es : List E) (ρ : Env) : evAs Φ G (.mth m a b :: es) ρ = bV (evE Φ G (.mth m a b) ρ) fun d ρ => aK (evAs Φ G es ρ) fun ss ρ => some (.val d :: ss, ρ) := as_val _ _ _ rfl
@[simp] theorem li_mth (m : Mth) (a b : E) (es : List E) (s : Slot) (ss : List Slot) (ρ : Env) : lentIn (.mth m a b :: es) (s :: ss) ρ = (lentIn es ss ρ).map (s :: ·) := li_val _ _ _ _ _ rfl
@[simp] theorem ls_mth (m : Mth) (a b : E) (es : List E) : lentSlots (.mth m a b :: es) = lentSlots es := ls_val _ _ rfl
@[simp] theorem as_oix (i : Nat) (a : E) (es : List E) (ρ : Env) : evAs Φ G (.oix i a :: es) ρ = bV (evE Φ G (.oix i a) ρ) fun d ρ => aK (evAs Φ G es ρ) fun ss ρ => some (.val d :: ss, ρ) := as_val _ _ _ rfl
@[simp] theorem li_oix (i : Nat) (a : E) (es : List E) (s : Slot) (ss : List Slot) (ρ : Env) : lentIn (.oix i a :: es) (s :: ss) ρ = (lentIn es ss ρ).map (s :: ·) := li_val _ _ _ _ _ rfl
@[simp] theorem ls_oix (i : Nat) (a : E) (es : List E) : lentSlots (.oix i a :: es) = lentSlots es := ls_val _ _ rfl
@[simp] theorem as_oin (n : Bool) (a : E) (i : Nat) (es : List E) (ρ : Env) : evAs Φ G (.oin n a i :: es) ρ = bV (evE Φ G (.oin n a i) ρ) fun d ρ => aK (evAs Φ G es ρ) fun ss ρ => some (.val d :: ss, ρ) := as_val _ _ _ rfl
@[simp] theorem li_oin (n : Bool) (a : E) (i : Nat) (es : List E) (s : Slot) (ss : List Slot) (ρ : Env) : lentIn (.oin n a i :: es) (s :: ss) ρ = (lentIn es ss ρ).map (s :: ·) := li_val _ _ _ _ _ rfl
@[simp] theorem ls_oin (n : Bool) (a : E) (i : Nat) (es : List E) : lentSlots (.oin n a i :: es) = lentSlots es := ls_val _ _ rfl
@[simp] theorem as_olen (i : Nat) (es : List E) (ρ : Env) : evAs Φ G (.olen i :: es) ρ = bV (evE Φ G (.olen i) ρ) fun d ρ => aK (evAs Φ G es ρ) fun ss ρ => some (.val d :: ss, ρ) := as_val _ _ _ rfl
@[simp] theorem li_olen (i : Nat) (es : List E) (s : Slot) (ss : List Slot) (ρ : Env) : lentIn (.olen i :: es) (s :: ss) ρ = (lentIn es ss ρ).map (s :: ·) := li_val _ _ _ _ _ rfl
@[simp] theorem ls_olen (i : Nat) (es : List E) : lentSlots (.olen i :: es) = lentSlots es := ls_val _ _ rfl
@[simp] theorem as_oemp (n : Bool) (i : Nat) (es : List E) (ρ : Env) : evAs Φ G (.oemp n i :: es) ρ = bV (evE Φ G (.oemp n i) ρ) fun d ρ => aK (evAs Φ G es ρ) fun ss ρ => some (.val d :: ss, ρ) := as_val _ _ _ rfl
@[simp] theorem li_oemp (n : Bool) (i : Nat) (es : List E) (s : Slot) (ss : List Slot) (ρ : Env) : lentIn (.oemp n i :: es) (s :: ss) ρ = (lentIn es ss ρ).map (s :: ·) := li_val _ _ _ _ _ rfl
@[simp] theorem ls_oemp (n : Bool) (i : Nat) (es : List E) : lentSlots (.oemp n i :: es) = lentSlots es := ls_val _ _ rfl
@[simp] theorem as_oget (i : Nat) (a b : E) (es : List E) (ρ : Env) : evAs Φ G (.oget i a b :: es) ρ = bV (evE Φ G (.oget i a b) ρ) fun d ρ => aK (evAs Φ G es ρ) fun ss ρ => some (.val d :: ss, ρ) := as_val _ _ _ rfl
@[simp] theorem li_oget (i : Nat) (a b : E) (es : List E) (s : Slot) (ss : List Slot) (ρ : Env) : lentIn (.oget i a b :: es) (s :: ss) ρ = (lentIn es ss ρ).map (s :: ·) := li_val _ _ _ _ _ rfl
@[simp] theorem ls_oget (i : Nat) (a b : E) (es : List E) : lentSlots (.oget i a b :: es) = lentSlots es := ls_val _ _ rfl
@[simp] theorem as_okeys (i : Nat) (es : List E) (ρ : Env) : evAs Φ G (.okeys i :: es) ρ = bV (evE Φ G (.okeys i) ρ) fun d ρ => aK (evAs Φ G es ρ) fun ss ρ => some (.val d :: ss, ρ) := as_val _ _ _ rfl
@[simp] theorem li_okeys (i : Nat) (es : List E) (s : Slot) (ss : List Slot) (ρ : Env) : lentIn (.okeys i :: es) (s :: ss) ρ = (lentIn es ss ρ).map (s :: ·) := li_val _ _ _ _ _ rfl
@[simp] theorem ls_okeys (i : Nat) (es : List E) : lentSlots (.okeys i :: es) = lentSlots es := ls_val _ _ rfl
@[simp] theorem as_comp (a : E) (t : Tg) (it : It) (c : List E) (es : List E) (ρ : Env) : evAs Φ G (.comp a t it c :: es) ρ = bV (evE Φ G (.comp a t it c) ρ) fun d ρ => aK (evAs Φ G es ρ) fun ss ρ => some (.val d :: ss, ρ) := as_val _ _ _ rfl
@[simp] theorem li_comp (a : E) (t : Tg) (it : It) (c : List E) (es : List E) (s : Slot) (ss : List Slot) (ρ : Env) : lentIn (.comp a t it c :: es) (s :: ss) ρ = (lentIn es ss ρ).map (s :: ·) := li_val _ _ _ _ _ rfl
@[simp] theorem ls_comp (a : E) (t : Tg) (it : It) (c : List E) (es : List E) : lentSlots (.comp a t it c :: es) = lentSlots es := ls_val _ _ rfl
@[simp] theorem as_comp2 (a : E) (t : Tg) (it : It) (t2 : Tg) (it2 : It) (es : List E) (ρ : Env) : evAs Φ G (.comp2 a t it t2 it2 :: es) ρ = bV (evE Φ G (.comp2 a t it t2 it2) ρ) fun d ρ => aK (evAs Φ G es ρ) fun ss ρ => some (.val d :: ss, ρ) := as_val _ _ _ rfl
@[simp] theorem li_comp2 (a : E) (t : Tg) (it : It) (t2 : Tg) (it2 : It) (es : List E) (s : Slot) (ss : List Slot) (ρ : Env) : lentIn (.comp2 a t it t2 it2 :: es) (s :: ss) ρ = (lentIn es ss ρ).map (s :: ·) := li_val _ _ _ _ _ rfl
@[simp] theorem ls_comp2 (a : E) (t : Tg) (it : It) (t2 : Tg) (it2 : It) (es : List E) : lentSlots (.comp2 a t it t2 it2 :: es) = lentSlots es := ls_val _ _ rfl

/-! statements -/
def sK (x : Option Out) (k : Env → Option Out) : Option Out := match x with
  | some (.nx ρ) => k ρ
  | r => r
@[simp] theorem sK_nx (ρ : Env) (k : Env → Option Out) : sK (some (.nx ρ)) k = k ρ := rfl
@[simp] theorem sK_rt (r : Ret) (ρ : Env) (k : Env → Option Out) : sK (some (.rt r ρ)) k = some (.rt r ρ) := rfl
@[simp] theorem ss_nil (ρ : Env) : evSs Φ G W [] ρ = some (.nx ρ) := rfl
@[simp] theorem ss_cons (s : S) (ss : List S) (ρ : Env) : evSs Φ G W (s :: ss) ρ = sK (evS Φ G W s ρ) (evSs Φ G W ss) := by
  conv => lhs; unfold evSs
  unfold sK
  rfl
@[simp] theorem st_set (t : Tg) (e : E) (ρ : Env) : evS Φ G W (.set t e) ρ = bV (evE Φ G e ρ) fun d ρ => (asg t d ρ).map .nx := rfl
@[simp] theorem st_par (is : List Nat) (es : List E) (ρ : Env) : evS Φ G W (.par is es) ρ = bL (evEs Φ G es ρ) fun ds ρ => (puts is ds ρ).map .nx := rfl
@[simp] theorem st_drop (e : E) (ρ : Env) : evS Φ G W (.drop e) ρ = bR (evE Φ G e ρ) fun _ ρ => some (.nx ρ) := rfl
def rK (r : Ret) (i : Nat) (ρ : Env) : Option Out := match r with
  | .own o => (setS ρ i (.own o)).map .nx
  | .val _ => none
@[simp] theorem rK_o (o : O) (i : Nat) (ρ : Env) : rK (.own o) i ρ = (setS ρ i (.own o)).map .nx := rfl
@[simp] theorem st_seto (i : Nat) (e : E) (ρ : Env) : evS Φ G W (.seto i e) ρ = bR (evE Φ G e ρ) fun r ρ => rK r i ρ := by
  conv => lhs; unfold evS
  congr
@[simp] theorem st_iff (t : E) (a b : List S) (ρ : Env) : evS Φ G W (.iff t a b) ρ = bV (evE Φ G t ρ) fun x ρ => bK x (fun _ => evSs Φ G W a ρ) (fun _ => evSs Φ G W b ρ) := by
  conv => lhs; unfold evS
  first | rfl | (congr; done) | (congr; funext x ρ; exact bK_eq x _ _)
@[simp] theorem st_ret (e : E) (ρ : Env) : evS Φ G W (.ret e) ρ = bV (evE Φ G e ρ) fun d ρ => some (.rt (.val d) ρ) := rfl
@[simp] theorem st_reto (e : E) (ρ : Env) : evS Φ G W (.reto e) ρ = bR (evE Φ G e ρ) fun r ρ => some (.rt r ρ) := rfl
@[simp] theorem st_retN (ρ : Env) : evS Φ G W .retN ρ = some (.rt (.val .non) ρ) := rfl
@[simp] theorem puts_nil (ρ : Env) : puts [] [] ρ = some ρ := rfl
@[simp] theorem puts_cons (i : Nat) (is : List Nat) (d : D) (ds : List D) (ρ : Env) : puts (i :: is) (d :: ds) ρ = (setS ρ i (.val d)).bind (puts is ds) := rfl
def fK (x : Option (List D × Env)) (k : List D → Env → Option Out) : Option Out := match x with
  | some (ds, ρ) => k ds ρ
  | none => none
@[simp] theorem fK_s (ds : List D) (ρ : Env) (k : List D → Env → Option Out) : fK (some (ds, ρ)) k = k ds ρ := rfl
@[simp] theorem st_for (tg : Tg) (it : It) (b : List S) (ρ : Env) : evS Φ G W (.for_ tg it b) ρ = fK (evI Φ G it ρ) fun ds ρ => forLoop tg (evSs Φ G W b) ds ρ := by
  conv => lhs; unfold evS
  unfold fK
  rfl
@[simp] theorem fl_nil (tg : Tg) (f : Env → Option Out) (ρ : Env) : forLoop tg f [] ρ = some (.nx ρ) := rfl
def aE (x : Option Env) (k : Env → Option Out) : Option Out := match x with
  | some ρ => k ρ
  | none => none
@[simp] theorem aE_s (ρ : Env) (k : Env → Option Out) : aE (some ρ) k = k ρ := rfl
@[simp] theorem fl_cons (tg : Tg) (f : Env → Option Out) (d : D) (ds : List D) (ρ : Env) : forLoop tg f (d :: ds) ρ = aE (asg tg d ρ) fun ρ => sK (f ρ) (forLoop tg f ds) := by
  conv => lhs; unfold forLoop
  unfold aE sK
  rfl
def seqK (x : D) (ρ : Env) : Option (List D × Env) := match x with
  | .lst ds => some (ds, ρ)
  | .tup ds => some (ds, ρ)
  | .str s => some (s.map fun c => .str [c], ρ)
  | _ => none
@[simp] theorem seqK_l (ds : List D) (ρ : Env) : seqK (.lst ds) ρ = some (ds, ρ) := rfl
@[simp] theorem seqK_t (ds : List D) (ρ : Env) : seqK (.tup ds) ρ = some (ds, ρ) := rfl
@[simp] theorem seqK_s (s : List Nat) (ρ : Env) : seqK (.str s) ρ = some (s.map fun c => .str [c], ρ) := rfl
@[simp] theorem it_seq (e : E) (ρ : Env) : evI Φ G (.seq e) ρ = bV (evE Φ G e ρ) seqK := by
  conv => lhs; unfold evI
  congr
def rngK (x : D) (ρ : Env) : Option (List D × Env) := match x with
  | .int n => if small62 n then some (rangeD 0 n.toNat, ρ) else none
  | _ => none
@[simp] theorem rngK_i (n : Int) (ρ : Env) : rngK (.int n) ρ = if small62 n then some (rangeD 0 n.toNat, ρ) else none := rfl
@[simp] theorem it_rng (e : E) (ρ : Env) : evI Φ G (.rng e) ρ = bV (evE Φ G e ρ) rngK := by
  conv => lhs; unfold evI
  congr

/-! operations on data -/
@[simp] theorem lineN_num : lineN = 16777216 := rfl
@[simp] theorem cmp_le (a b : Int) : cmpop .le (.int a) (.int b) = some (decide (a ≤ b)) := rfl
@[simp] theorem cmp_lt (a b : Int) : cmpop .lt (.int a) (.int b) = some (decide (a < b)) := rfl
@[simp] theorem cmp_gt (a b : Int) : cmpop .gt (.int a) (.int b) = some (decide (b < a)) := rfl
@[simp] theorem cmp_ge (a b : Int) : cmpop .ge (.int a) (.int b) = some (decide (b ≤ a)) := rfl
@[simp] theorem cmp_eq (a b : D) : cmpop .eq a b = if okEq a && okEq b then some (D.eqv a b) else none := by
  cases a <;> cases b <;> rfl
@[simp] theorem cmp_ne (a b : D) : cmpop .ne a b = if okEq a && okEq b then some (!D.eqv a b) else none := by
  cases a <;> cases b <;> rfl
@[simp] theorem cmp_in (a b : D) : cmpop .isin a b = isIn a b := by
  cases a <;> cases b <;> rfl
@[simp] theorem cmp_notin (a b : D) : cmpop .notin a b = (isIn a b).map (!·) := by
  cases a <;> cases b <;> rfl
@[simp] theorem in_tup (a : D) (ds : List D) : isIn a (.tup ds) = if okEq a && ds.all okEq then some (inD a ds) else none := by cases a <;> rfl
@[simp] theorem in_lst (a : D) (ds : List D) : isIn a (.lst ds) = if okEq a && ds.all okEq then some (inD a ds) else none := by cases a <;> rfl
@[simp] theorem in_str (c : Nat) (s : List Nat) : isIn (.str [c]) (.str s) = some (decide (c ∈ s)) := rfl
@[simp] theorem isi_str_s (s : List Nat) : isiop .str (.str s) = some true := rfl
@[simp] theorem isi_int_i (i : Int) : isiop .int (.int i) = some true := rfl
@[simp] theorem isi_bool_i (i : Int) : isiop .bool (.int i) = some false := rfl
@[simp] theorem isi_tup_t (ds : List D) : isiop .tuple (.tup ds) = some true := rfl
@[simp] theorem isi_lst_l (ds : List D) : isiop .list (.lst ds) = some true := rfl
@[simp] theorem len_s (s : List Nat) : bltop .len [.str s] = if s.length ≤ lineN then some (.val (.int s.length)) else none := rfl
@[simp] theorem len_t (ds : List D) : bltop .len [.tup ds] = some (.val (.int ds.length)) := rfl
@[simp] theorem len_l (ds : List D) : bltop .len [.lst ds] = some (.val (.int ds.length)) := rfl
@[simp] theorem len_r (ns : List Int) : bltop .len [.scr ns] = some (.val (.int ns.length)) := rfl
@[simp] theorem all_l (ds : List D) : bltop .all [.lst ds] = (allD ds).map fun b => .val (.bl b) := rfl
@[simp] theorem sum_l (ds : List D) : bltop .sum [.lst ds] = (sumD ds).map fun i => .val (.int i) := rfl
@[simp] theorem abs_i (i : Int) : bltop .abs [.int i] = some (.val (.int (if i < 0 then -i else i))) := rfl
@[simp] theorem int_i (i : Int) : bltop .int [.int i] = some (.val (.int i)) := rfl
@[simp] theorem min_i (i j : Int) : bltop .min [.int i, .int j] = some (.val (.int (if j < i then j else i))) := rfl
@[simp] theorem tuple_l (ds : List D) : bltop .tuple [.lst ds] = some (.val (.tup ds)) := rfl
@[simp] theorem list_l (ds : List D) : bltop .list [.lst ds] = some (.own (.lst ds)) := rfl
@[simp] theorem list_t (ds : List D) : bltop .list [.tup ds] = some (.own (.lst ds)) := rfl
@[simp] theorem add_i (a b : Int) : binop .add (.int a) (.int b) = some (.val (.int (a + b))) := rfl
@[simp] theorem sub_i (a b : Int) : binop .sub (.int a) (.int b) = some (.val (.int (a - b))) := rfl
@[simp] theorem add_t (a b : List D) : binop .add (.tup a) (.tup b) = if a.length + b.length ≤ lineN then some (.val (.tup (a ++ b))) else none := rfl
@[simp] theorem add_l (a b : List D) : binop .add (.lst a) (.lst b) = if a.length + b.length ≤ lineN then some (.own (.lst (a ++ b))) else none := rfl
@[simp] theorem add_s (a b : List Nat) : binop .add (.str a) (.str b) = if a.length + b.length ≤ lineN then some (.val (.str (a ++ b))) else none := rfl
@[simp] theorem mul_i (a b : Int) : binop .mul (.int a) (.int b) = if small64 a || small64 b then some (.val (.int (a * b))) else none := rfl
@[simp] theorem mod_i (a b : Int) : binop .mod (.int a) (.int b) = if decide (0 < b) then some (.val (.int (a % b))) else none := rfl
@[simp] theorem fdiv_i (a b : Int) : binop .fdiv (.int a) (.int b) = if decide (0 < b) && decide (b < 1073741824) then some (.val (.int (a / b))) else none := rfl
@[simp] theorem ix_t (ds : List D) (i : Int) : ixop (.tup ds) (.int i) = ixL ds i := rfl
@[simp] theorem ix_l (ds : List D) (i : Int) : ixop (.lst ds) (.int i) = ixL ds i := rfl
@[simp] theorem ix_r (ns : List Int) (i : Int) : ixop (.scr ns) (.int i) = (ixL ns i).map D.int := rfl
@[simp] theorem ixL_0 (x : D) (r : List D) : ixL (x :: r) 0 = some x := by
  simp [ixL, ixP]
theorem ixL_nat {α : Type} (xs : List α) (n : Nat) : ixL xs (n : Int) = xs[n]? := by
  unfold ixL ixP
  rw [if_pos (by omega)]
  by_cases h : n < xs.length
  · rw [if_pos (by omega)]; simp
  · rw [if_neg (by omega)]; simp; omega
@[simp] theorem ixL_1 (x y : D) (r : List D) : ixL (x :: y :: r) 1 = some y := ixL_nat (x :: y :: r) 1
@[simp] theorem ixL_2 (x y z : D) (r : List D) : ixL (x :: y :: z :: r) 2 = some z := ixL_nat (x :: y :: z :: r) 2
@[simp] theorem ixL_3 (x y z u : D) (r : List D) : ixL (x :: y :: z :: u :: r) 3 = some u := ixL_nat (x :: y :: z :: u :: r) 3
@[simp] theorem isNon_n : isNon .non = true := rfl
@[simp] theorem eqv_s (a b : List Nat) : D.eqv (.str a) (.str b) = (a == b) := rfl
@[simp] theorem eqv_i (a b : Int) : D.eqv (.int a) (.int b) = (a == b) := rfl
@[simp] theorem eqv_t (a b : List D) : D.eqv (.tup a) (.tup b) = D.eqvs a b := rfl
@[simp] theorem inD_nil (x : D) : inD x [] = false := rfl
@[simp] theorem inD_cons (x y : D) (ys : List D) : inD x (y :: ys) = (D.eqv y x || inD x ys) := rfl

@[simp] theorem okEq_n : okEq .non = true := rfl
@[simp] theorem okEq_b (b : Bool) : okEq (.bl b) = true := rfl
@[simp] theorem okEq_i (i : Int) : okEq (.int i) = true := rfl
@[simp] theorem okEq_s (s : List Nat) : okEq (.str s) = s.all (fun c => decide (c < 0x110000)) := by
  unfold okEq D.dep
  split <;> simp_all
@[simp] theorem okEq_t0 : okEq (.tup []) = true := rfl
/-! a call -/
theorem runF_fn {T : Nat → Option Def} {k f ps ns : Nat} {body : List S} (h : T f = some (.fn ps ns body)) (ss : List Slot) (hl : ss.length = ps) (hn : ps ≤ ns) :
    runF T G W (k + 1) f ss = endO ss (evSs (runF T G W k) G W body (start ns ss)) := by
  unfold runF
  rw [h]
  simp [hl, hn]
@[simp] theorem endO_rt (ss : List Slot) (r : Ret) (ρ : Env) : endO ss (some (.rt r ρ)) = (outs ss 0 ρ).map fun os => (r, os) := rfl
@[simp] theorem endO_nx (ss : List Slot) (ρ : Env) : endO ss (some (.nx ρ)) = (outs ss 0 ρ).map fun os => (.val .non, os) := rfl
@[simp] theorem outs_nil (n : Nat) (ρ : Env) : outs [] n ρ = some none := rfl
@[simp] theorem outs_val (d : D) (ss : List Slot) (n : Nat) (ρ : Env) : outs (.val d :: ss) n ρ = outs ss (n + 1) ρ := rfl
def oLn : Slot → Option (Option O)
  | .lnt o => some (some o)
  | _ => none
@[simp] theorem oLn_l (o : O) : oLn (.lnt o) = some (some o) := rfl
@[simp] theorem outs_lnt (o : O) (ss : List Slot) (n : Nat) (ρ : Env) : outs (.lnt o :: ss) n ρ = oLn (get ρ n) := by
  unfold outs oLn
  cases get ρ n <;> rfl
end
end BP

set_option maxRecDepth 100000
set_option maxHeartbeats 4000000
/-! Programs as typed data; validity. -/
namespace BP

/-! ### loops -/
theorem compLoop_map {α : Type} {enc : α → D} {f : D → Env → Option (List D × Env)} {g : α → D} {ρ : Env} : ∀ (xs : List α) (acc : List D), (∀ x ∈ xs, f (enc x) ρ = some ([g x], ρ)) → acc.length + xs.length ≤ lineN → compLoop f (xs.map enc) ρ acc = some (acc ++ xs.map g, ρ)
  | [], acc, _, _ => by simp [compLoop]
  | d :: ds, acc, h, hl => by
    rw [List.map_cons]
    unfold compLoop
    rw [h d List.mem_cons_self]
    simp only [List.length_cons, List.length_nil] at hl ⊢
    rw [if_pos (by simp only [lineN_num] at *; omega), compLoop_map ds (acc ++ [g d]) (fun d hd => h d (List.mem_cons_of_mem _ hd)) (by simp only [List.length_append, List.length_cons, List.length_nil]; omega)]
    simp
theorem forLoop_inv {α : Type} {tg : Tg} {f : Env → Option Out} {enc : α → D} (P : List α → Env → Prop) : ∀ (xs pre : List α) (ρ : Env), (∀ pre' x post ρ, pre ++ xs = pre' ++ x :: post → P pre' ρ → ∃ ρ1, asg tg (enc x) ρ = some ρ1 ∧ ∃ ρ2, f ρ1 = some (.nx ρ2) ∧ P (pre' ++ [x]) ρ2) →
    P pre ρ → ∃ ρ', forLoop tg f (xs.map enc) ρ = some (.nx ρ') ∧ P (pre ++ xs) ρ'
  | [], pre, ρ, _, h => ⟨ρ, by simp [forLoop], by simpa using h⟩
  | x :: xs, pre, ρ, hs, h => by
    obtain ⟨ρ1, h1, ρ2, h2, h3⟩ := hs pre x xs ρ rfl h
    obtain ⟨ρ', h4, h5⟩ := forLoop_inv P xs (pre ++ [x]) ρ2 (fun pre' y post ρ e => hs pre' y post ρ (by simpa using e)) h3
    refine ⟨ρ', ?_, by simpa using h5⟩
    rw [List.map_cons]
    unfold forLoop
    rw [h1]
    dsimp only
    rw [h2]
    exact h4
theorem allD_map {α : Type} (p : α → Bool) (xs : List α) : allD (xs.map fun x => D.bl (p x)) = some (xs.all p) := by
  induction xs with
  | nil => rfl
  | cons x xs ih => simp [allD, ih]

/-! ### programs -/
inductive Tst where
  | kept | new | last
  | flag (q : Bool)
  deriving DecidableEq
inductive Stm where
  | item | keep
  | head (this : Bool)
  | mark (s : List Nat)
  | up (q : Bool)
  | down (q : Bool)
  | total (y : Bool)
  | zero (y : Bool)
  | add (y : Bool)
  | iff (t : Tst) (a b : List Stm)
def xy (y : Bool) : D := .str (if y then [121] else [120])
def pq (q : Bool) : D := .str (if q then [113] else [112])
def encT : Tst → D
  | .kept => .tup [.str [107, 101, 112, 116]]
  | .new => .tup [.str [110, 101, 119]]
  | .last => .tup [.str [108, 97, 115, 116]]
  | .flag q => .tup [.str [102, 108, 97, 103], pq q]
mutual
def encS : Stm → D
  | .item => .tup [.str [105, 116, 101, 109]]
  | .keep => .tup [.str [107, 101, 101, 112]]
  | .head t => .tup [.str [104, 101, 97, 100], .str (if t then [116, 104, 105, 115] else [107, 101, 112, 116])]
  | .mark s => .tup [.str [109, 97, 114, 107], .str s]
  | .up q => .tup [.str [117, 112], pq q]
  | .down q => .tup [.str [100, 111, 119, 110], pq q]
  | .total y => .tup [.str [116, 111, 116, 97, 108], xy y]
  | .zero y => .tup [.str [122, 101, 114, 111], xy y]
  | .add y => .tup [.str [97, 100, 100], xy y]
  | .iff t a b => .tup [.str [105, 102], encT t, .tup (encSs a), .tup (encSs b)]
def encSs : List Stm → List D
  | [] => []
  | s :: ss => encS s :: encSs ss
end
theorem encSs_map (ss : List Stm) : encSs ss = ss.map encS := by
  induction ss with
  | nil => rfl
  | cons s ss ih => simp [encSs, ih]
def encB (b : List Stm) : D := .tup (b.map encS)
def signs : List Nat := [44, 59, 46, 124, 45, 47, 42]
def okSign (s : List Nat) : Bool := decide (1 ≤ s.length) && decide (s.length ≤ 3) && s.all (· ∈ signs)
def okTst (row : Bool) : Tst → Bool
  | .kept => true
  | .new => row
  | .last => row
  | .flag _ => true
def okStm : Nat → Bool → Stm → Bool
  | 0, _, _ => false
  | d + 1, row, s => match s with
    | .item => row
    | .keep => row
    | .head t => row || !t
    | .mark s => okSign s
    | .add _ => row
    | .iff t a b => okTst row t && (decide (a.length ≤ 8) && a.all (okStm d row)) && (decide (b.length ≤ 8) && b.all (okStm d row))
    | _ => true
def okBody (d : Nat) (row : Bool) (b : List Stm) : Bool := decide (b.length ≤ 8) && b.all (okStm d row)

/-- the program's part of a text's table -/
structure PrT (T : Nat → Option Def) (G : Nat → Option D) : Prop where
  t0 : T 0 = some d_is_number
  t1 : T 1 = some d_is_sign
  t2 : T 2 = some d_is_among
  t3 : T 3 = some d_is_test
  t4 : T 4 = some d_is_statement
  t5 : T 5 = some d_is_body
  t6 : T 6 = some d_bodies_of
  t7 : T 7 = some d_listed
  t8 : T 8 = some d_all_statements
  t9 : T 9 = some d_is_program
  t10 : T 10 = some d_need_program
  g0 : G 0 = some (.str signs)
  g1 : G 1 = some (.tup [.str [120], .str [121]])
  g2 : G 2 = some (.tup [.str [112], .str [113]])
  g3 : G 3 = some (.int 24)
  g4 : G 4 = some (.int 4)
section
variable {T : Nat → Option Def} {G : Nat → Option D} {W : Nat}
theorem lineN_le {n : Nat} (h : n ≤ 100000) : n ≤ lineN := by
  unfold lineN; omega
/-- a comprehension with one name over a list, whose answer is a plain function -/
theorem comp_one {α : Type} {enc : α → D} {k : Nat} {m : E} {i : Nat} (xs : List α) {g : α → D} {ρ ρ' : Env} {it : It} (hi : evI (runF T G W k) G it ρ = some (xs.map enc, ρ')) (ht : isThing (get ρ' i) = false)
    (hf : ∀ x ∈ xs, evE (runF T G W k) G m (put (wipeE [i] 0 ρ') i (.val (enc x))) = some (.val (g x), put (wipeE [i] 0 ρ') i (.val (enc x))))
    (hw : ∀ d, wipeE [i] 0 (put (wipeE [i] 0 ρ') i (.val d)) = wipeE [i] 0 ρ') (hb : back [i] 0 ρ' (wipeE [i] 0 ρ') = ρ') (hg : get (wipeE [i] 0 ρ') i = .emp) (hg2 : ∀ d, isThing (get (put (wipeE [i] 0 ρ') i (.val d)) i) = false) (hl : xs.length ≤ lineN) :
    evE (runF T G W k) G (.comp m (.nm i) it []) ρ = some (.own (.lst (xs.map g)), ρ') := by
  unfold evE
  rw [hi]
  simp only [Tg.slots, List.all_cons, List.all_nil, ht, Bool.not_false, Bool.and_true, List.nodup_cons, List.not_mem_nil, not_false_eq_true, List.nodup_nil, and_self, decide_true, if_true]
  rw [compLoop_map (enc := enc) (g := g) xs [] (fun d hd => ?_) (by simpa using hl)]
  · simp [hb]
  · have e1 : asg (.nm i) (enc d) (wipeE [i] 0 ρ') = some (put (wipeE [i] 0 ρ') i (.val (enc d))) := by simp [hg]
    rw [e1]
    have e2 : evCs (runF T G W k) G [] (put (wipeE [i] 0 ρ') i (.val (enc d))) = some (true, put (wipeE [i] 0 ρ') i (.val (enc d))) := rfl
    simp only [e2]
    rw [hf d hd]
    simp [wipeC, hg2, hw, addR]
end
section
variable {T : Nat → Option Def} {G : Nat → Option D} {W : Nat} (A : PrT T G)
include A
theorem sign_run (k : Nat) (s : List Nat) (hs : s.length ≤ 16777216) : runF T G W (k + 1) 1 [.val (.str s)] = some (.val (.bl (okSign s)), none) := by
  rw [runF_fn A.t1 _ rfl (by decide)]
  by_cases h1 : 1 ≤ s.length
  · by_cases h3 : s.length ≤ 3
    · have hc : evE (runF T G W k) G (.comp (.cmp .isin (.var 1) (.glb 0)) (.nm 1) (.seq (.var 0)) []) [.val (.str s), .emp] = some (.own (.lst (s.map fun c => .bl (decide (c ∈ signs)))), [.val (.str s), .emp]) := by
        exact comp_one (enc := fun c => D.str [c]) (g := fun c => .bl (decide (c ∈ signs))) s (by simp) rfl (fun c _ => by simp [wipeE, A.g0]) (fun d => rfl) rfl rfl (fun d => rfl) (by simpa using hs)
      have ha : allD (s.map fun c => .bl (decide (c ∈ signs))) = some (s.all (· ∈ signs)) := allD_map (fun c => decide (c ∈ signs)) s
      have h1' : (1 : Int) ≤ s.length := by omega
      have h3' : (s.length : Int) ≤ 3 := by omega
      simp [start, hs, hc, ha, h1', h3', okSign, h1, h3]
    · have h1' : (1 : Int) ≤ s.length := by omega
      have h3' : ¬ (s.length : Int) ≤ 3 := by omega
      simp [start, hs, h1', h3', okSign, h1, h3]
  · have h1' : ¬ (1 : Int) ≤ s.length := by omega
    simp [start, hs, h1', okSign, h1]
theorem among_run (k : Nat) (ws : List D) (s : List Nat) (h1 : ws.all okEq = true) (h2 : okEq (.str s) = true) : runF T G W (k + 1) 2 [.val (.tup ws), .val (.str s)] = some (.val (.bl (inD (.str s) ws)), none) := by
  rw [runF_fn A.t2 _ rfl (by decide)]
  simp [start, h1, h2]
theorem test_run (k : Nat) (t : Tst) (row : Bool) : runF T G W (k + 2) 3 [.val (encT t), .val (.bl row)] = some (.val (.bl (okTst row t)), none) := by
  rw [runF_fn A.t3 _ rfl (by decide)]
  cases t with
  | kept => simp [start, encT, okTst, okEq, D.dep, D.deps, D.eqvs]
  | new => cases row <;> simp [start, encT, okTst, okEq, D.dep, D.deps, D.eqvs]
  | last => cases row <;> simp [start, encT, okTst, okEq, D.dep, D.deps, D.eqvs]
  | flag q =>
    have h := among_run A (W := W) k [.str [112], .str [113]] (if q then [113] else [112]) (by decide) (by cases q <;> decide)
    cases q <;> simp [start, encT, pq, okTst, okEq, D.dep, D.deps, D.eqvs, A.g2] at h ⊢ <;> rw [h] <;> simp
end
theorem dep_mem {ds : List D} {d : D} (h : d ∈ ds) : D.dep d ≤ D.deps ds := by
  induction ds with
  | nil => cases h
  | cons x xs ih =>
    simp only [D.deps]
    rcases List.mem_cons.mp h with e | h
    · subst e; omega
    · have := ih h; omega
theorem okEq_mem {ds : List D} {d : D} (h : okEq (.tup ds) = true) (hd : d ∈ ds) : okEq d = true := by
  have h1 := dep_mem hd
  have h2 : D.dep (.tup ds) ≤ 64 := of_decide_eq_true h
  have h3 : D.dep (.tup ds) = D.deps ds + 1 := by simp only [D.dep]
  exact decide_eq_true (show D.dep d ≤ 64 by omega)
mutual
/-- the marks are no longer than a text may be -/
def mkS : Stm → Prop
  | .mark s => s.length ≤ 16777216 ∧ (s.all (· < 0x110000)) = true
  | .iff _ a b => (a.length ≤ 16777216 ∧ mkSs a) ∧ (b.length ≤ 16777216 ∧ mkSs b)
  | _ => True
def mkSs : List Stm → Prop
  | [] => True
  | s :: ss => mkS s ∧ mkSs ss
end
theorem mkSs_mem : ∀ {ss : List Stm} {s : Stm}, mkSs ss → s ∈ ss → mkS s
  | x :: ss, s, h, hm => by
    unfold mkSs at h
    rcases List.mem_cons.mp hm with e | hm
    · subst e; exact h.1
    · exact mkSs_mem h.2 hm
def word : Stm → List Nat
  | .item => [105, 116, 101, 109]
  | .keep => [107, 101, 101, 112]
  | .head _ => [104, 101, 97, 100]
  | .mark _ => [109, 97, 114, 107]
  | .up _ => [117, 112]
  | .down _ => [100, 111, 119, 110]
  | .total _ => [116, 111, 116, 97, 108]
  | .zero _ => [122, 101, 114, 111]
  | .add _ => [97, 100, 100]
  | .iff _ _ _ => [105, 102]
section
variable {T : Nat → Option Def} {G : Nat → Option D} {W : Nat} (A : PrT T G)
include A
theorem stm_run0 (k : Nat) (s : Stm) (row : Bool) (hs : okEq (encS s) = true) : runF T G W (k + 1) 4 [.val (encS s), .val (.int 0), .val (.bl row)] = some (.val (.bl false), none) := by
  rw [runF_fn A.t4 _ rfl (by decide)]
  have he : okEq (.tup []) = true := by decide
  cases s <;> (unfold encS at hs ⊢; simp [start, hs, D.eqvs])
/-- those without bodies -/
theorem stm_run1 (k d : Nat) (s : Stm) (row : Bool) (hs : okEq (encS s) = true) (hm : mkS s) (hn : ∀ t a b, s ≠ .iff t a b) : runF T G W (k + 2) 4 [.val (encS s), .val (.int (d + 1 : Nat)), .val (.bl row)] = some (.val (.bl (okStm (d + 1) row s)), none) := by
  rw [runF_fn A.t4 _ rfl (by decide)]
  have he : okEq (.tup []) = true := by decide
  have hd : ¬ ((d + 1 : Nat) : Int) < 1 := by omega
  have hd' : ¬ ((d : Int) + 1 < 1) := by omega
  cases s with
  | iff t a b => exact absurd rfl (hn t a b)
  | item => unfold encS at hs ⊢; cases row <;> simp [start, hs, D.eqvs, hd', okStm]
  | keep => unfold encS at hs ⊢; cases row <;> simp [start, hs, D.eqvs, hd', okStm]
  | head t =>
    unfold encS at hs ⊢
    have h := among_run A (W := W) k [.str [116, 104, 105, 115], .str [107, 101, 112, 116]] (if t then [116, 104, 105, 115] else [107, 101, 112, 116]) (by decide) (by cases t <;> decide)
    cases t <;> cases row <;> simp at h <;> simp at hs <;> simp [start, hs, D.eqvs, hd', okStm, h]
  | mark s =>
    unfold encS at hs ⊢
    unfold mkS at hm
    have h := sign_run A (W := W) k s hm.1
    cases row <;> simp [start, hs, D.eqvs, hd', okStm, h]
  | up q =>
    unfold encS at hs ⊢
    have h := among_run A (W := W) k [.str [112], .str [113]] (if q then [113] else [112]) (by decide) (by cases q <;> decide)
    cases q <;> simp at h <;> simp [pq] at hs <;> simp [start, pq, hs, D.eqvs, hd', okStm, h, A.g2]
  | down q =>
    unfold encS at hs ⊢
    have h := among_run A (W := W) k [.str [112], .str [113]] (if q then [113] else [112]) (by decide) (by cases q <;> decide)
    cases q <;> simp at h <;> simp [pq] at hs <;> simp [start, pq, hs, D.eqvs, hd', okStm, h, A.g2]
  | total y =>
    unfold encS at hs ⊢
    have h := among_run A (W := W) k [.str [120], .str [121]] (if y then [121] else [120]) (by decide) (by cases y <;> decide)
    cases y <;> cases row <;> simp at h <;> simp [xy] at hs <;> simp [start, xy, hs, D.eqvs, hd', okStm, h, A.g1]
  | zero y =>
    unfold encS at hs ⊢
    have h := among_run A (W := W) k [.str [120], .str [121]] (if y then [121] else [120]) (by decide) (by cases y <;> decide)
    cases y <;> cases row <;> simp at h <;> simp [xy] at hs <;> simp [start, xy, hs, D.eqvs, hd', okStm, h, A.g1]
  | add y =>
    unfold encS at hs ⊢
    have h := among_run A (W := W) k [.str [120], .str [121]] (if y then [121] else [120]) (by decide) (by cases y <;> decide)
    cases y <;> cases row <;> simp at h <;> simp [xy] at hs <;> simp [start, xy, hs, D.eqvs, hd', okStm, h, A.g1]
theorem body_run {d : Nat} {k : Nat} {row : Bool} (ih : ∀ s : Stm, okEq (encS s) = true → mkS s → runF T G W k 4 [.val (encS s), .val (.int d), .val (.bl row)] = some (.val (.bl (okStm d row s)), none)) (b : List Stm) (hb : okEq (encB b) = true) (hm : mkSs b) (hl : b.length ≤ 16777216) :
    runF T G W (k + 1) 5 [.val (encB b), .val (.int d), .val (.bl row)] = some (.val (.bl (okBody d row b)), none) := by
  rw [runF_fn A.t5 _ rfl (by decide)]
  have hc : evE (runF T G W k) G (.comp (.call 4 [.var 3, .var 1, .var 2]) (.nm 3) (.seq (.var 0)) []) [.val (encB b), .val (.int d), .val (.bl row), .emp] = some (.own (.lst (b.map fun s => .bl (okStm d row s))), [.val (encB b), .val (.int d), .val (.bl row), .emp]) := by
    exact comp_one (enc := encS) (g := fun s => .bl (okStm d row s)) b (by simp [encB]) rfl (fun s hs => by
      have h := ih s (okEq_mem hb (List.mem_map.mpr ⟨s, hs, rfl⟩)) (mkSs_mem hm hs)
      simp [wipeE, h]) (fun d => rfl) rfl rfl (fun d => rfl) (by simpa using hl)
  by_cases h8 : b.length ≤ 8
  · have h8' : ¬ (8 : Int) < b.length := by omega
    have ha := allD_map (okStm d row) b
    unfold encB at hc ⊢
    simp [start, h8', hc, ha, okBody, h8]
  · have h8' : (8 : Int) < b.length := by omega
    unfold encB
    simp [start, h8', okBody, h8]
/-- a statement with bodies -/
theorem stm_iff {d : Nat} {k : Nat} {row : Bool} (ih : ∀ b : List Stm, okEq (encB b) = true → mkSs b → b.length ≤ 16777216 → runF T G W (k + 2) 5 [.val (encB b), .val (.int d), .val (.bl row)] = some (.val (.bl (okBody d row b)), none)) (t : Tst) (a b : List Stm)
    (hs : okEq (encS (.iff t a b)) = true) (hm : mkS (.iff t a b)) :
    runF T G W (k + 3) 4 [.val (encS (.iff t a b)), .val (.int (d + 1 : Nat)), .val (.bl row)] = some (.val (.bl (okStm (d + 1) row (.iff t a b))), none) := by
  rw [runF_fn A.t4 _ rfl (by decide)]
  have hd' : ¬ ((d : Int) + 1 < 1) := by omega
  have e1 : encS (.iff t a b) = .tup [.str [105, 102], encT t, encB a, encB b] := by
    unfold encS encB
    rw [encSs_map, encSs_map]
  rw [e1] at hs ⊢
  have ht := test_run A (W := W) k t row
  have h1 := ih a (okEq_mem hs (by simp)) hm.1.2 hm.1.1
  have h2 := ih b (okEq_mem hs (by simp)) hm.2.2 hm.2.1
  have hc : evE (runF T G W (k + 2)) G (.comp (.call 5 [.var 6, .bin .sub (.var 1) (.cst (.int 1)), .var 2]) (.nm 6) (.seq (.sl (.var 0) (some (.cst (.int 2))) none)) []) [.val (.tup [.str [105, 102], encT t, encB a, encB b]), .val (.int ((d : Int) + 1)), .val (.bl row), .val (.str [105, 102]), .val (.int 4), .val (.bl (okTst row t)), .emp] =
      some (.own (.lst ([a, b].map fun x => .bl (okBody d row x))), [.val (.tup [.str [105, 102], encT t, encB a, encB b]), .val (.int ((d : Int) + 1)), .val (.bl row), .val (.str [105, 102]), .val (.int 4), .val (.bl (okTst row t)), .emp]) := by
    refine comp_one (enc := encB) (g := fun x => .bl (okBody d row x)) [a, b] ?_ rfl (fun x hx => ?_) (fun d => rfl) rfl rfl (fun d => rfl) (by simp)
    · simp [slop, cut, cutP]
    · have hx : x = a ∨ x = b := by simpa using hx
      have e : (d : Int) + 1 - 1 = d := by omega
      rcases hx with hx | hx
      · subst hx; simp [wipeE, e, h1]
      · subst hx; simp [wipeE, e, h2]
  have hal := allD_map (okBody d row) [a, b]
  simp only [List.map_cons, List.map_nil] at hc hal
  have e2 : okStm (d + 1) row (.iff t a b) = (okTst row t && okBody d row a && okBody d row b) := rfl
  rw [e2]
  cases hr : okTst row t
  · rw [hr] at ht hc
    simp [start, hs, D.eqvs, hd', ht]
  · rw [hr] at ht hc
    simp [start, hs, D.eqvs, hd', ht, hc, hal]
theorem stm_all : ∀ (d k : Nat) (row : Bool), 2 * d + 2 ≤ k → ∀ s : Stm, okEq (encS s) = true → mkS s → runF T G W k 4 [.val (encS s), .val (.int d), .val (.bl row)] = some (.val (.bl (okStm d row s)), none)
  | 0, k, row, hk, s, hs, hm => by
    obtain ⟨k, rfl⟩ : ∃ k', k = k' + 1 := ⟨k - 1, by omega⟩
    have := stm_run0 A (W := W) k s row hs
    simpa [okStm] using this
  | d + 1, k, row, hk, s, hs, hm => by
    by_cases hi : ∃ t a b, s = .iff t a b
    · obtain ⟨t, a, b, rfl⟩ := hi
      obtain ⟨k, rfl⟩ : ∃ k', k = k' + 3 := ⟨k - 3, by omega⟩
      exact stm_iff A (fun b hb hmb hl => body_run A (stm_all d (k + 1) row (by omega)) b hb hmb hl) t a b hs hm
    · obtain ⟨k, rfl⟩ : ∃ k', k = k' + 2 := ⟨k - 2, by omega⟩
      exact stm_run1 A k d s row hs hm fun t a b e => hi ⟨t, a, b, e⟩
theorem body_all (d k : Nat) (row : Bool) (hk : 2 * d + 3 ≤ k) (b : List Stm) (hb : okEq (encB b) = true) (hm : mkSs b) (hl : b.length ≤ 16777216) : runF T G W k 5 [.val (encB b), .val (.int d), .val (.bl row)] = some (.val (.bl (okBody d row b)), none) := by
  obtain ⟨k, rfl⟩ : ∃ k', k = k' + 1 := ⟨k - 1, by omega⟩
  exact body_run A (stm_all A d k row (by omega)) b hb hm hl
end
end BP

set_option maxRecDepth 100000
set_option maxHeartbeats 4000000
/-! Listed statements; programs. -/
namespace BP
mutual
def flatS : Stm → List Stm
  | .iff t a b => .iff t a b :: (flatB a ++ flatB b)
  | s => [s]
def flatB : List Stm → List Stm
  | [] => []
  | s :: ss => flatS s ++ flatB ss
end
theorem flatB_app : ∀ a b : List Stm, flatB (a ++ b) = flatB a ++ flatB b
  | [], b => by simp [flatB]
  | s :: a, b => by simp [flatB, flatB_app a b]
def bodies : Stm → List (List Stm)
  | .iff _ a b => [a, b]
  | _ => []
def flats : List (List Stm) → List Stm
  | [] => []
  | b :: r => flatB b ++ flats r
theorem flats_app : ∀ a b : List (List Stm), flats (a ++ b) = flats a ++ flats b
  | [], b => by simp [flats]
  | s :: a, b => by simp [flats, flats_app a b]
theorem flatS_eq (s : Stm) : flatS s = s :: flats (bodies s) := by
  cases s <;> simp [flatS, bodies, flats]
mutual
def dpS : Stm → Nat
  | .iff _ a b => max (dpB a) (dpB b) + 1
  | _ => 0
def dpB : List Stm → Nat
  | [] => 0
  | s :: ss => max (dpS s) (dpB ss)
end
theorem dpB_mem : ∀ {b : List Stm} {s : Stm}, s ∈ b → dpS s ≤ dpB b
  | x :: b, s, h => by
    unfold dpB
    rcases List.mem_cons.mp h with e | h
    · subst e; omega
    · have := dpB_mem h; omega
theorem dp_bodies {s : Stm} {b : List Stm} (h : b ∈ bodies s) : dpB b + 1 ≤ dpS s := by
  cases s with
  | iff t a c =>
    unfold bodies at h
    unfold dpS
    have h : b = a ∨ b = c := by simpa using h
    rcases h with e | e <;> subst e <;> omega
  | _ => cases h
section
variable {T : Nat → Option Def} {G : Nat → Option D} {W : Nat} (A : PrT T G)
include A
theorem bodies_run (k : Nat) (s : Stm) : runF T G W (k + 1) 6 [.val (encS s)] = some (.val (.lst ((bodies s).map encB)), none) := by
  rw [runF_fn A.t6 _ rfl (by decide)]
  cases s with
  | iff t a b =>
    have e1 : encS (.iff t a b) = .tup [.str [105, 102], encT t, encB a, encB b] := by
      unfold encS encB
      rw [encSs_map, encSs_map]
    rw [e1]
    simp [start, slop, cut, cutP, bodies]
  | _ => unfold encS; simp [start, bodies]
theorem listed_run : ∀ (n k : Nat) (b : List Stm), dpB b ≤ n → n + 2 ≤ k → (flatB b).length ≤ 16777216 → runF T G W k 7 [.val (encB b)] = some (.val (.lst ((flatB b).map encS)), none) := by
  intro n
  induction n using Nat.strongRecOn with
  | _ n ih =>
    intro k b hb hk hl
    obtain ⟨k, rfl⟩ : ∃ k', k = k' + 2 := ⟨k - 2, by omega⟩
    rw [runF_fn A.t7 _ rfl (by decide)]
    -- the loop
    have loop := forLoop_inv (enc := encS) (tg := .nm 2) (f := evSs (runF T G W (k + 1)) G W [.set (.nm 1) (.bin .add (.var 1) (.lst [(.var 2)])), .for_ (.nm 3) (.seq (.call 6 [(.var 2)])) [.set (.nm 1) (.bin .add (.var 1) (.call 7 [(.var 3)]))]])
      (fun pre ρ => ∃ s2 s3, ρ = [.val (encB b), .val (.lst ((flatB pre).map encS)), s2, s3] ∧ isLnt s2 = false ∧ isLnt s3 = false) b [] [.val (encB b), .val (.lst []), .emp, .emp] (fun pre s post ρ e hP => ?_) ⟨.emp, .emp, by simp [flatB], rfl, rfl⟩
    · obtain ⟨ρ', h1, s2, s3, rfl, _, _⟩ := loop
      simp only [List.nil_append] at h1
      have h1' : forLoop (.nm 2) (evSs (runF T G W (k + 1)) G W [.set (.nm 1) (.bin .add (.var 1) (.lst [(.var 2)])), .for_ (.nm 3) (.seq (.call 6 [(.var 2)])) [.set (.nm 1) (.bin .add (.var 1) (.call 7 [(.var 3)]))]]) (b.map encS) [.val (.tup (b.map encS)), .val (.lst []), .emp, .emp] = _ := h1
      unfold encB at *
      simp [start, h1']
    · obtain ⟨s2, s3, rfl, q2, q3⟩ := hP
      refine ⟨[.val (encB b), .val (.lst ((flatB pre).map encS)), .val (encS s), s3], by simp [q2], ?_⟩
      have hbs := bodies_run A (W := W) k s
      have hsb : s ∈ b := by
        have e : b = pre ++ s :: post := by simpa using e
        rw [e]; simp
      have hds := dpB_mem hsb
      have htot : (flatB pre ++ flatS s).length ≤ 16777216 := by
        have e : b = pre ++ s :: post := by simpa using e
        rw [e, flatB_app] at hl
        simp only [flatB, List.length_append] at hl ⊢
        omega
      rw [flatS_eq] at htot
      -- the inner loop
      have inner := forLoop_inv (enc := encB) (tg := .nm 3) (f := evSs (runF T G W (k + 1)) G W [.set (.nm 1) (.bin .add (.var 1) (.call 7 [(.var 3)]))])
        (fun pre2 ρ => ∃ s3, ρ = [.val (encB b), .val (.lst ((flatB pre ++ s :: flats pre2).map encS)), .val (encS s), s3] ∧ isLnt s3 = false) (bodies s) [] [.val (encB b), .val (.lst ((flatB pre ++ [s]).map encS)), .val (encS s), s3] (fun pre2 c post2 ρ e2 hP2 => ?_) ⟨s3, by simp [flats], q3⟩
      · obtain ⟨ρ', h1, s4, rfl, q4⟩ := inner
        refine ⟨_, ?_, .val (encS s), s4, rfl, rfl, q4⟩
        have hlen : (flatB pre).length + 1 ≤ 16777216 := by
          simp only [List.length_append, List.length_cons] at htot; omega
        simp only [List.map_append, List.map_cons, List.map_nil] at h1
        simp [hlen, hbs, h1, flatB_app, flatB, flatS_eq]
      · obtain ⟨s4, rfl, q4⟩ := hP2
        have hcs : c ∈ bodies s := by
          have e2 : bodies s = pre2 ++ c :: post2 := by simpa using e2
          rw [e2]; simp
        have hdc := dp_bodies hcs
        refine ⟨[.val (encB b), .val (.lst ((flatB pre ++ s :: flats pre2).map encS)), .val (encS s), .val (encB c)], by simp [q4], ?_⟩
        have hlen : (flatB pre).length + ((flats pre2).length + 1) + (flatB c).length ≤ 16777216 := by
          have e2 : bodies s = pre2 ++ c :: post2 := by simpa using e2
          rw [e2, flats_app] at htot
          simp only [flats, List.length_append, List.length_cons] at htot
          omega
        have hc := ih (n - 1) (by omega) (k + 1) c (by omega) (by omega) (by omega)
        refine ⟨[.val (encB b), .val (.lst ((flatB pre ++ s :: flats (pre2 ++ [c])).map encS)), .val (encS s), .val (encB c)], ?_, .val (encB c), rfl, rfl⟩
        simp [hc, hlen, flats_app, flats]
end
end BP

set_option maxRecDepth 100000
set_option maxHeartbeats 4000000
/-! Programs. -/
namespace BP
structure Prog where
  a : List Stm
  b : List Stm
  c : List Stm
def encP (p : Prog) : D := .tup [encB p.a, encB p.b, encB p.c]
def Prog.all (p : Prog) : List Stm := flatB p.a ++ flatB p.b ++ flatB p.c
def okProg (p : Prog) : Bool := okBody 4 false p.a && okBody 4 true p.b && okBody 4 false p.c && decide (p.all.length ≤ 24)
/-- what the runs need -/
structure Fit (p : Prog) : Prop where
  ok : okEq (encP p) = true
  ma : mkSs p.a
  mb : mkSs p.b
  mc : mkSs p.c
  la : p.a.length ≤ 16777216
  lb : p.b.length ≤ 16777216
  lc : p.c.length ≤ 16777216
  da : dpB p.a ≤ 10
  db : dpB p.b ≤ 10
  dc : dpB p.c ≤ 10
  n : p.all.length ≤ 16777216
section
variable {T : Nat → Option Def} {G : Nat → Option D} {W : Nat} (A : PrT T G)
include A
theorem all_run (p : Prog) (F : Fit p) (k : Nat) (hk : 13 ≤ k) : runF T G W k 8 [.val (encP p)] = some (.val (.lst (p.all.map encS)), none) := by
  obtain ⟨k, rfl⟩ : ∃ k', k = k' + 1 := ⟨k - 1, by omega⟩
  rw [runF_fn A.t8 _ rfl (by decide)]
  have hn := F.n
  unfold Prog.all at hn
  simp only [List.length_append] at hn
  have h1 := listed_run A (W := W) 10 k p.a F.da (by omega) (by omega)
  have h2 := listed_run A (W := W) 10 k p.b F.db (by omega) (by omega)
  have h3 := listed_run A (W := W) 10 k p.c F.dc (by omega) (by omega)
  have l1 : (flatB p.a).length + (flatB p.b).length ≤ 16777216 := by omega
  have l2 : (flatB p.a).length + (flatB p.b).length + (flatB p.c).length ≤ 16777216 := by omega
  simp [start, encP, h1, h2, h3, l1, l2, Prog.all, Nat.add_assoc] at *
  simp [l2]
theorem isprog_run (p : Prog) (F : Fit p) (k : Nat) (hk : 14 ≤ k) : runF T G W k 9 [.val (encP p)] = some (.val (.bl (okProg p)), none) := by
  obtain ⟨k, rfl⟩ : ∃ k', k = k' + 1 := ⟨k - 1, by omega⟩
  rw [runF_fn A.t9 _ rfl (by decide)]
  have ok := F.ok
  have ha := body_all A (W := W) 4 k false (by omega) p.a (okEq_mem (show okEq (.tup _) = true from ok) (by simp)) F.ma F.la
  have hb := body_all A (W := W) 4 k true (by omega) p.b (okEq_mem (show okEq (.tup _) = true from ok) (by simp)) F.mb F.lb
  have hc := body_all A (W := W) 4 k false (by omega) p.c (okEq_mem (show okEq (.tup _) = true from ok) (by simp)) F.mc F.lc
  have hcomp : evE (runF T G W k) G (.comp (.call 5 [(.ix (.var 0) (.var 1)), (.glb 4), (.cmp .eq (.var 1) (.cst (.int 1)))]) (.nm 1) (.rng (.cst (.int 3))) []) [.val (encP p), .emp] =
      some (.own (.lst ([(0 : Int), 1, 2].map fun i => .bl (if i = 0 then okBody 4 false p.a else if i = 1 then okBody 4 true p.b else okBody 4 false p.c))), [.val (encP p), .emp]) := by
    refine comp_one (enc := D.int) (g := fun i => .bl (if i = 0 then okBody 4 false p.a else if i = 1 then okBody 4 true p.b else okBody 4 false p.c)) [(0 : Int), 1, 2] ?_ rfl (fun x hx => ?_) (fun d => rfl) rfl rfl (fun d => rfl) (by simp)
    · simp [small62, rangeD, List.range, List.range.loop]
    · have hx : x = 0 ∨ x = 1 ∨ x = 2 := by simpa using hx
      rcases hx with hx | hx | hx <;> subst hx <;> unfold encP <;> simp [wipeE, A.g4] at * <;> first | simp [ha] | simp [hb] | simp [hc]
  have hal : allD [D.bl (okBody 4 false p.a), D.bl (okBody 4 true p.b), D.bl (okBody 4 false p.c)] = some (okBody 4 false p.a && okBody 4 true p.b && okBody 4 false p.c) := by
    simp [allD, Bool.and_assoc]
  have h8 := all_run A (W := W) p F k (by omega)
  cases hok : (okBody 4 false p.a && okBody 4 true p.b && okBody 4 false p.c)
  · rw [hok] at hal
    unfold encP at *
    simp only [List.map_cons, List.map_nil] at hcomp
    simp [start, hcomp, hal, okProg, hok]
  · rw [hok] at hal
    unfold encP at *
    simp only [List.map_cons, List.map_nil] at hcomp
    simp [start, hcomp, hal, okProg, hok, h8, A.g3]
    omega
theorem need_run (p : Prog) (F : Fit p) (ok : okProg p = true) (k : Nat) (hk : 15 ≤ k) : runF T G W k 10 [.val (encP p)] = some (.val .non, none) := by
  obtain ⟨k, rfl⟩ : ∃ k', k = k' + 1 := ⟨k - 1, by omega⟩
  rw [runF_fn A.t10 _ rfl (by decide)]
  have h := isprog_run A (W := W) p F k (by omega)
  simp [start, h, ok]
end
end BP

set_option maxRecDepth 100000
set_option maxHeartbeats 4000000
/-! Statements left out. -/
namespace BP
theorem encS_iff (t : Tst) (a b : List Stm) : encS (.iff t a b) = .tup [.str [105, 102], encT t, encB a, encB b] := by
  unfold encS encB
  rw [encSs_map, encSs_map]
theorem flatS_pos (s : Stm) : 1 ≤ (flatS s).length := by rw [flatS_eq]; simp
theorem len_flatB : ∀ b : List Stm, b.length ≤ (flatB b).length
  | [] => by simp
  | s :: b => by
    have := len_flatB b
    have := flatS_pos s
    simp only [flatB, List.length_cons, List.length_append]
    omega
mutual
def cutS (g : Int) : Int → Stm → Stm
  | n, .iff t a b => .iff t (cutB g (n + 1) a) (cutB g (n + 1 + (flatB a).length) b)
  | _, s => s
def cutB (g : Int) : Int → List Stm → List Stm
  | _, [] => []
  | n, s :: ss => (if n = g then [] else [cutS g n s]) ++ cutB g (n + (flatS s).length) ss
end
theorem cutB_app (g : Int) : ∀ (a b : List Stm) (n : Int), cutB g n (a ++ b) = cutB g n a ++ cutB g (n + (flatB a).length) b
  | [], b, n => by simp [cutB, flatB]
  | s :: a, b, n => by
    simp only [List.cons_append, cutB, flatB, List.length_append]
    rw [cutB_app g a b, List.append_assoc]
    congr 3
    omega
theorem cutB_len (g : Int) : ∀ (b : List Stm) (n : Int), (cutB g n b).length ≤ b.length
  | [], _ => by simp [cutB]
  | s :: b, n => by
    have := cutB_len g b (n + (flatS s).length)
    simp only [cutB, List.length_append, List.length_cons]
    split <;> simp <;> omega
theorem deps_app : ∀ a b : List D, D.deps (a ++ b) = max (D.deps a) (D.deps b)
  | [], b => by simp [D.deps]
  | x :: a, b => by simp only [List.cons_append, D.deps, deps_app a b]; omega
theorem dep_encB (b : List Stm) : D.dep (encB b) = D.deps (b.map encS) + 1 := by unfold encB; simp only [D.dep]
mutual
theorem dep_cutS (g : Int) : ∀ (n : Int) (s : Stm), D.dep (encS (cutS g n s)) ≤ D.dep (encS s)
  | n, .iff t a b => by
    have h1 := dep_cutB g (n + 1) a
    have h2 := dep_cutB g (n + 1 + (flatB a).length) b
    unfold cutS
    rw [encS_iff, encS_iff]
    simp only [D.dep, D.deps, dep_encB]
    omega
  | _, .item => Nat.le_refl _
  | _, .keep => Nat.le_refl _
  | _, .head _ => Nat.le_refl _
  | _, .mark _ => Nat.le_refl _
  | _, .up _ => Nat.le_refl _
  | _, .down _ => Nat.le_refl _
  | _, .total _ => Nat.le_refl _
  | _, .zero _ => Nat.le_refl _
  | _, .add _ => Nat.le_refl _
theorem dep_cutB (g : Int) : ∀ (n : Int) (b : List Stm), D.deps ((cutB g n b).map encS) ≤ D.deps (b.map encS)
  | _, [] => by simp [cutB]
  | n, s :: b => by
    have h1 := dep_cutS g n s
    have h2 := dep_cutB g (n + (flatS s).length) b
    unfold cutB
    rw [List.map_append, deps_app, List.map_cons, D.deps]
    split
    · simp only [List.map_nil, D.deps]; omega
    · simp only [List.map_cons, List.map_nil, D.deps]; omega
end
theorem okEq_cut {g : Int} {b : List Stm} (n : Int) (h : okEq (encB b) = true) : okEq (encB (cutB g n b)) = true := by
  have h1 : D.dep (encB b) ≤ 64 := of_decide_eq_true h
  have h2 := dep_cutB g n b
  refine decide_eq_true (show D.dep (encB (cutB g n b)) ≤ 64 from ?_)
  rw [dep_encB] at *
  omega
theorem okEq_tup {ds : List D} (h : ∀ d ∈ ds, D.dep d ≤ 63) : okEq (.tup ds) = true := by
  refine decide_eq_true (show D.dep (.tup ds) ≤ 64 from ?_)
  simp only [D.dep]
  have : D.deps ds ≤ 63 := by
    induction ds with
    | nil => simp [D.deps]
    | cons x xs ih =>
      have h1 := h x List.mem_cons_self
      have h2 := ih fun d hd => h d (List.mem_cons_of_mem _ hd)
      simp only [D.deps]
      omega
  omega
/-- the law's own part of the table, and more of the program's -/
structure CutT (T : Nat → Option Def) (G : Nat → Option D) : Prop extends PrT T G where
  t12 : T 12 = some d_body_without
  t13 : T 13 = some d_program_without
  t14 : T 14 = some d_words_of
  t15 : T 15 = some d_statements
section
variable {T : Nat → Option Def} {G : Nat → Option D} {W : Nat}
theorem size_run (h25 : T 25 = some d_law_size) : ∀ (n k : Nat) (b : List Stm), dpB b ≤ n → n + 1 ≤ k → runF T G W k 25 [.val (encB b)] = some (.val (.int (flatB b).length), none) := by
  intro n
  induction n using Nat.strongRecOn with
  | _ n ih =>
    intro k b hb hk
    obtain ⟨k, rfl⟩ : ∃ k', k = k' + 1 := ⟨k - 1, by omega⟩
    rw [runF_fn h25 _ rfl (by decide)]
    have loop := forLoop_inv (enc := encS) (tg := .nm 2) (f := evSs (runF T G W k) G W [.set (.nm 1) (.bin .add (.var 1) (.cst (.int 1))),
    .iff (.cmp .eq (.ix (.var 2) (.cst (.int 0))) (.cst (.str [105, 102]))) [.set (.nm 1) (.bin .add (.bin .add (.var 1) (.call 25 [(.ix (.var 2) (.cst (.int 2)))])) (.call 25 [(.ix (.var 2) (.cst (.int 3)))]))] []])
      (fun pre ρ => ∃ s2, ρ = [.val (encB b), .val (.int (flatB pre).length), s2] ∧ isLnt s2 = false) b [] [.val (encB b), .val (.int 0), .emp] (fun pre s post ρ e hP => ?_) ⟨.emp, by simp [flatB], rfl⟩
    · obtain ⟨ρ', h1, s2, rfl, _⟩ := loop
      simp only [List.nil_append] at h1
      unfold encB at *
      simp [start, h1]
    · obtain ⟨s2, rfl, q2⟩ := hP
      refine ⟨[.val (encB b), .val (.int (flatB pre).length), .val (encS s)], by simp [q2], [.val (encB b), .val (.int (flatB (pre ++ [s])).length), .val (encS s)], ?_, .val (encS s), rfl, rfl⟩
      have hsb : s ∈ b := by
        have e : b = pre ++ s :: post := by simpa using e
        rw [e]; simp
      have hds := dpB_mem hsb
      cases s with
      | iff t a c =>
        unfold dpS at hds
        have ha := ih (n - 1) (by omega) k a (by omega) (by omega)
        have hc := ih (n - 1) (by omega) k c (by omega) (by omega)
        rw [encS_iff]
        simp [ha, hc, flatB_app, flatB, flatS]
        omega
      | _ => simp [encS, flatB_app, flatB, flatS]
theorem slop_t (ds : List D) (lo hi : Option Int) : slop (.tup ds) lo hi = some (.val (.tup (cut ds lo hi))) := rfl
theorem in_one (g n : Int) : isIn (.int n) (.lst [.int g]) = some (g == n) := by
  simp [D.eqv]
theorem without_run (A : CutT T G) (g : Int) : ∀ (m k : Nat) (b : List Stm) (n : Int), dpB b ≤ m → m + 3 ≤ k → (flatB b).length ≤ 100000 → okEq (encB b) = true → runF T G W k 12 [.val (encB b), .val (.int n), .val (.lst [.int g])] = some (.val (encB (cutB g n b)), none) := by
  intro m
  induction m using Nat.strongRecOn with
  | _ m ih =>
    intro k b n hb hk hl hok
    obtain ⟨k, rfl⟩ : ∃ k', k = k' + 2 := ⟨k - 2, by omega⟩
    rw [runF_fn A.t12 _ rfl (by decide)]
    have loop := forLoop_inv (enc := encS) (tg := .nm 4) (f := evSs (runF T G W (k + 1)) G W [.par [5, 6] [(.tup []), (.bin .add (.var 1) (.cst (.int 1)))],
    .for_ (.nm 7) (.seq (.call 6 [(.var 4)])) [.set (.nm 5) (.bin .add (.var 5) (.tup [(.call 12 [(.var 7), (.var 6), (.var 2)])])),
    .set (.nm 6) (.bin .add (.var 6) (.blt .len [(.call 7 [(.var 7)])]))],
    .iff (.cmp .notin (.var 1) (.var 2)) [.set (.nm 3) (.bin .add (.var 3) (.tup [(.ite (.cmp .eq (.var 5) (.tup [])) (.var 4) (.bin .add (.sl (.var 4) none (some (.cst (.int 2)))) (.var 5)))]))] [],
    .set (.nm 1) (.var 6)])
      (fun pre ρ => ∃ s4 s5 s6 s7, ρ = [.val (encB b), .val (.int (n + (flatB pre).length)), .val (.lst [.int g]), .val (.tup ((cutB g n pre).map encS)), s4, s5, s6, s7] ∧ isLnt s4 = false ∧ isLnt s5 = false ∧ isLnt s6 = false ∧ isLnt s7 = false) b [] [.val (encB b), .val (.int n), .val (.lst [.int g]), .val (.tup []), .emp, .emp, .emp, .emp] (fun pre s post ρ e hP => ?_) ⟨.emp, .emp, .emp, .emp, by simp [flatB, cutB, encB], rfl, rfl, rfl, rfl⟩
    · obtain ⟨ρ', h1, s4, s5, s6, s7, rfl, _⟩ := loop
      simp only [List.nil_append] at h1
      unfold encB at *
      simp [start, h1]
    · obtain ⟨s4, s5, s6, s7, rfl, q4, q5, q6, q7⟩ := hP
      refine ⟨[.val (encB b), .val (.int (n + (flatB pre).length)), .val (.lst [.int g]), .val (.tup ((cutB g n pre).map encS)), .val (encS s), s5, s6, s7], by simp [q4], ?_⟩
      have hsb : s ∈ b := by
        have e : b = pre ++ s :: post := by simpa using e
        rw [e]; simp
      have hds := dpB_mem hsb
      have hbs := bodies_run A.toPrT (W := W) k s
      have hpl : (cutB g n pre).length + 1 ≤ 16777216 := by
        have h1 := cutB_len g pre n
        have h2 : pre.length ≤ b.length := by
          have e : b = pre ++ s :: post := by simpa using e
          rw [e]; simp
        have h3 := len_flatB b
        omega
      have hnin := in_one g (n + (flatB pre).length)
      have e0 : n + ((flatB (pre ++ [s])).length : Int) = n + (flatB pre).length + (flatS s).length := by
        rw [flatB_app]; simp [flatB]; omega
      have hcut : cutB g n (pre ++ [s]) = cutB g n pre ++ (if n + (flatB pre).length = g then [] else [cutS g (n + (flatB pre).length) s]) := by
        rw [cutB_app]; simp [cutB]
      have simple : (bodies s = [] ∧ flatS s = [s] ∧ ∀ n, cutS g n s = s) ∨ ∃ t a c, s = .iff t a c := by
        cases s <;> simp [bodies, flatS, cutS]
      rcases simple with ⟨b0, f0, c0⟩ | hi
      · rw [b0, List.map_nil] at hbs
        refine ⟨[.val (encB b), .val (.int (n + (flatB (pre ++ [s])).length)), .val (.lst [.int g]), .val (.tup ((cutB g n (pre ++ [s])).map encS)), .val (encS s), .val (.tup []), .val (.int (n + (flatB pre).length + 1)), s7], ?_, _, _, _, _, rfl, rfl, rfl, rfl, q7⟩
        rw [hcut, e0, f0]
        by_cases hg : g = n + (flatB pre).length
        · have hg2 : (g == n + (flatB pre).length) = true := by simpa using hg
          rw [if_pos hg.symm]
          simp [q5, q6, q7, hbs, hg2]
        · have hg2 : (g == n + (flatB pre).length) = false := by simpa using hg
          rw [if_neg fun e => hg e.symm]
          simp [q5, q6, q7, hbs, hg2, hpl, D.eqvs, c0]
      · obtain ⟨t, a, c, rfl⟩ := hi
        unfold dpS at hds
        have hal : (flatB a).length ≤ 100000 ∧ (flatB c).length ≤ 100000 := by
          have e : b = pre ++ .iff t a c :: post := by simpa using e
          rw [e, flatB_app] at hl
          simp only [flatB, flatS, List.length_append, List.length_cons] at hl
          omega
        have hoks : okEq (.tup [.str [105, 102], encT t, encB a, encB c]) = true := by
          have := okEq_mem (show okEq (.tup _) = true from hok) (List.mem_map.mpr ⟨_, hsb, rfl⟩)
          rwa [encS_iff] at this
        have oka := okEq_mem hoks (show encB a ∈ _ by simp)
        have okc := okEq_mem hoks (show encB c ∈ _ by simp)
        have hoc : okEq (.tup [encB (cutB g (n + (flatB pre).length + 1) a), encB (cutB g (n + (flatB pre).length + 1 + (flatB a).length) c)]) = true := by
          have h0 : D.dep (.tup [.str [105, 102], encT t, encB a, encB c]) ≤ 64 := of_decide_eq_true hoks
          have d1 := dep_cutB g (n + (flatB pre).length + 1) a
          have d2 := dep_cutB g (n + (flatB pre).length + 1 + (flatB a).length) c
          simp only [D.dep, D.deps, dep_encB] at h0
          refine okEq_tup fun d hd => ?_
          simp only [List.mem_cons, List.not_mem_nil, or_false] at hd
          rcases hd with e | e <;> rw [e, dep_encB] <;> omega
        have ha := ih (m - 1) (by omega) (k + 1) a (n + (flatB pre).length + 1) (by omega) (by omega) hal.1 oka
        have hc := ih (m - 1) (by omega) (k + 1) c (n + (flatB pre).length + 1 + (flatB a).length) (by omega) (by omega) hal.2 okc
        have la := listed_run A.toPrT (W := W) (dpB a) (k + 1) a (by omega) (by omega) (by omega)
        have lc := listed_run A.toPrT (W := W) (dpB c) (k + 1) c (by omega) (by omega) (by omega)
        refine ⟨[.val (encB b), .val (.int (n + (flatB (pre ++ [.iff t a c])).length)), .val (.lst [.int g]), .val (.tup ((cutB g n (pre ++ [.iff t a c])).map encS)), .val (encS (.iff t a c)),
          .val (.tup [encB (cutB g (n + (flatB pre).length + 1) a), encB (cutB g (n + (flatB pre).length + 1 + (flatB a).length) c)]), .val (.int (n + (flatB pre).length + 1 + (flatB a).length + (flatB c).length)), .val (encB c)], ?_, _, _, _, _, rfl, rfl, rfl, rfl, rfl⟩
        rw [hcut, e0]
        rw [encS_iff] at hbs ⊢
        have hfs : (flatS (.iff t a c)).length = (flatB a).length + (flatB c).length + 1 := by simp [flatS]
        have e3 : n + ((flatB pre).length : Int) + 1 + (flatB a).length + (flatB c).length = n + (flatB pre).length + ((flatB a).length + (flatB c).length + 1) := by omega
        rw [hfs]
        simp only [bodies, List.map_cons, List.map_nil] at hbs
        by_cases hg : g = n + (flatB pre).length
        · have hg2 : (g == n + (flatB pre).length) = true := by simpa using hg
          rw [if_pos hg.symm]
          simp [q5, q6, q7, hbs, ha, hc, la, lc, hg2, e3]
        · have hg2 : (g == n + (flatB pre).length) = false := by simpa using hg
          rw [if_neg fun e => hg e.symm]
          simp [q5, q6, q7, hbs, ha, hc, la, lc, hg2, slop_t, cut, cutP, hpl, D.eqvs, cutS, encS_iff, e3, hoc]
end
end BP

set_option maxRecDepth 100000
set_option maxHeartbeats 4000000
/-! The law's cut; programs without a statement. -/
namespace BP
def cutP' (g : Int) (p : Prog) : Prog := ⟨cutB g 0 p.a, cutB g (flatB p.a).length p.b, cutB g ((flatB p.a).length + (flatB p.b).length) p.c⟩
section
variable {T : Nat → Option Def} {G : Nat → Option D} {W : Nat}
theorem cut_run (h25 : T 25 = some d_law_size) (h31 : T 31 = some d_law_cut) (g : Int) : ∀ (m k : Nat) (b : List Stm) (n : Int), dpB b ≤ m → m + 3 ≤ k → (flatB b).length ≤ 100000 → runF T G W k 31 [.val (encB b), .val (.int n), .val (.lst [.int g])] = some (.val (encB (cutB g n b)), none) := by
  intro m
  induction m using Nat.strongRecOn with
  | _ m ih =>
    intro k b n hb hk hl
    obtain ⟨k, rfl⟩ : ∃ k', k = k' + 2 := ⟨k - 2, by omega⟩
    rw [runF_fn h31 _ rfl (by decide)]
    have loop := forLoop_inv (enc := encS) (tg := .nm 4) (f := evSs (runF T G W (k + 1)) G W [.par [5, 6] [(.var 1), (.var 4)],
    .set (.nm 1) (.bin .add (.var 1) (.call 25 [(.tup [(.var 4)])])),
    .iff (.cmp .eq (.ix (.var 4) (.cst (.int 0))) (.cst (.str [105, 102]))) [.set (.nm 7) (.bin .add (.bin .add (.var 5) (.cst (.int 1))) (.call 25 [(.ix (.var 4) (.cst (.int 2)))])),
    .set (.nm 6) (.bin .add (.sl (.var 4) none (some (.cst (.int 2)))) (.tup [(.call 31 [(.ix (.var 4) (.cst (.int 2))), (.bin .add (.var 5) (.cst (.int 1))), (.var 2)])])),
    .set (.nm 6) (.bin .add (.var 6) (.tup [(.call 31 [(.ix (.var 4) (.cst (.int 3))), (.var 7), (.var 2)])]))] [],
    .set (.nm 3) (.bin .add (.var 3) (.ite (.cmp .isin (.var 5) (.var 2)) (.tup []) (.tup [(.var 6)])))])
      (fun pre ρ => ∃ s4 s5 s6 s7, ρ = [.val (encB b), .val (.int (n + (flatB pre).length)), .val (.lst [.int g]), .val (.tup ((cutB g n pre).map encS)), s4, s5, s6, s7] ∧ isLnt s4 = false ∧ isLnt s5 = false ∧ isLnt s6 = false ∧ isLnt s7 = false) b [] [.val (encB b), .val (.int n), .val (.lst [.int g]), .val (.tup []), .emp, .emp, .emp, .emp] (fun pre s post ρ e hP => ?_) ⟨.emp, .emp, .emp, .emp, by simp [flatB, cutB], rfl, rfl, rfl, rfl⟩
    · obtain ⟨ρ', h1, s4, s5, s6, s7, rfl, _⟩ := loop
      simp only [List.nil_append] at h1
      unfold encB at *
      simp [start, h1]
    · obtain ⟨s4, s5, s6, s7, rfl, q4, q5, q6, q7⟩ := hP
      refine ⟨[.val (encB b), .val (.int (n + (flatB pre).length)), .val (.lst [.int g]), .val (.tup ((cutB g n pre).map encS)), .val (encS s), s5, s6, s7], by simp [q4], ?_⟩
      have hsb : s ∈ b := by
        have e : b = pre ++ s :: post := by simpa using e
        rw [e]; simp
      have hds := dpB_mem hsb
      have hsz : runF T G W (k + 1) 25 [.val (.tup [encS s])] = some (.val (.int (flatS s).length), none) := by
        have := size_run (G := G) (W := W) h25 m (k + 1) [s] (by simp [dpB]; omega) (by omega)
        simpa [encB, flatB] using this
      have hpl : (cutB g n pre).length + 1 ≤ 16777216 := by
        have h1 := cutB_len g pre n
        have h2 : pre.length ≤ b.length := by
          have e : b = pre ++ s :: post := by simpa using e
          rw [e]; simp
        have h3 := len_flatB b
        omega
      have hpl0 : (cutB g n pre).length ≤ 16777216 := by omega
      have e0 : n + ((flatB (pre ++ [s])).length : Int) = n + (flatB pre).length + (flatS s).length := by
        rw [flatB_app]; simp [flatB]; omega
      have hcut : cutB g n (pre ++ [s]) = cutB g n pre ++ (if n + (flatB pre).length = g then [] else [cutS g (n + (flatB pre).length) s]) := by
        rw [cutB_app]; simp [cutB]
      have simple : (bodies s = [] ∧ (∀ n, cutS g n s = s) ∧ ∃ w r, encS s = .tup (.str w :: r) ∧ (w == [105, 102]) = false ∧ (w.all fun c => decide (c < 0x110000)) = true) ∨ ∃ t a c, s = .iff t a c := by
        cases s <;> simp [bodies, cutS, encS]
      rcases simple with ⟨b0, c0, w, r, ew, hw, hwa⟩ | hi
      · refine ⟨[.val (encB b), .val (.int (n + (flatB (pre ++ [s])).length)), .val (.lst [.int g]), .val (.tup ((cutB g n (pre ++ [s])).map encS)), .val (encS s), .val (.int (n + (flatB pre).length)), .val (encS s), s7], ?_, _, _, _, _, rfl, rfl, rfl, rfl, q7⟩
        rw [hcut, e0]
        by_cases hg : g = n + (flatB pre).length
        · have hg2 : (g == n + (flatB pre).length) = true := by simpa using hg
          rw [if_pos hg.symm]
          rw [ew] at hsz ⊢
          simp [q5, q6, q7, hsz, hg2, hpl0, hw, hwa]
        · have hg2 : (g == n + (flatB pre).length) = false := by simpa using hg
          rw [if_neg fun e => hg e.symm]
          rw [ew] at hsz ⊢
          simp [q5, q6, q7, hsz, hg2, hpl, hw, hwa, c0, ew]
      · obtain ⟨t, a, c, rfl⟩ := hi
        unfold dpS at hds
        have hal : (flatB a).length ≤ 100000 ∧ (flatB c).length ≤ 100000 := by
          have e : b = pre ++ .iff t a c :: post := by simpa using e
          rw [e, flatB_app] at hl
          simp only [flatB, flatS, List.length_append, List.length_cons] at hl
          omega
        have ha := ih (m - 1) (by omega) (k + 1) a (n + (flatB pre).length + 1) (by omega) (by omega) hal.1
        have hc := ih (m - 1) (by omega) (k + 1) c (n + (flatB pre).length + 1 + (flatB a).length) (by omega) (by omega) hal.2
        have sa := size_run (G := G) (W := W) h25 (dpB a) (k + 1) a (by omega) (by omega)
        refine ⟨[.val (encB b), .val (.int (n + (flatB (pre ++ [.iff t a c])).length)), .val (.lst [.int g]), .val (.tup ((cutB g n (pre ++ [.iff t a c])).map encS)), .val (encS (.iff t a c)), .val (.int (n + (flatB pre).length)),
          .val (.tup [.str [105, 102], encT t, encB (cutB g (n + (flatB pre).length + 1) a), encB (cutB g (n + (flatB pre).length + 1 + (flatB a).length) c)]), .val (.int (n + (flatB pre).length + 1 + (flatB a).length))], ?_, _, _, _, _, rfl, rfl, rfl, rfl, rfl⟩
        rw [hcut, e0]
        rw [encS_iff] at hsz ⊢
        by_cases hg : g = n + (flatB pre).length
        · have hg2 : (g == n + (flatB pre).length) = true := by simpa using hg
          rw [if_pos hg.symm]
          simp [q5, q6, q7, hsz, ha, hc, sa, hg2, slop_t, cut, cutP, hpl0]
        · have hg2 : (g == n + (flatB pre).length) = false := by simpa using hg
          rw [if_neg fun e => hg e.symm]
          simp [q5, q6, q7, hsz, ha, hc, sa, hg2, slop_t, cut, cutP, hpl, cutS, encS_iff]
end
end BP

set_option maxRecDepth 100000
set_option maxHeartbeats 4000000
/-! What holds of valid programs. -/
namespace BP
theorem sign_lt {c : Nat} (h : c ∈ signs) : c < 0x110000 := by
  unfold signs at h
  simp at h
  omega
theorem okSign_mk {s : List Nat} (h : okSign s = true) : s.length ≤ 16777216 ∧ (s.all (· < 0x110000)) = true := by
  unfold okSign at h
  simp only [Bool.and_eq_true, decide_eq_true_eq, List.all_eq_true] at h
  refine ⟨by omega, ?_⟩
  rw [List.all_eq_true]
  exact fun c hc => decide_eq_true (sign_lt (h.2 c hc))
theorem mkSs_of : ∀ {ss : List Stm}, (∀ s ∈ ss, mkS s) → mkSs ss
  | [], _ => by unfold mkSs; trivial
  | s :: ss, h => by
    unfold mkSs
    exact ⟨h s List.mem_cons_self, mkSs_of fun x hx => h x (List.mem_cons_of_mem _ hx)⟩
theorem dpB_of : ∀ {ss : List Stm} {d : Nat}, (∀ s ∈ ss, dpS s ≤ d) → dpB ss ≤ d
  | [], _, _ => by unfold dpB; omega
  | s :: ss, d, h => by
    unfold dpB
    have h1 := h s List.mem_cons_self
    have h2 := dpB_of (ss := ss) (d := d) fun x hx => h x (List.mem_cons_of_mem _ hx)
    omega
theorem deps_of : ∀ {ds : List D} {n : Nat}, (∀ d ∈ ds, D.dep d ≤ n) → D.deps ds ≤ n
  | [], _, _ => by simp [D.deps]
  | d :: ds, n, h => by
    simp only [D.deps]
    have h1 := h d List.mem_cons_self
    have h2 := deps_of (ds := ds) (n := n) fun x hx => h x (List.mem_cons_of_mem _ hx)
    omega
theorem dep_str {s : List Nat} (h : (s.all (· < 0x110000)) = true) : D.dep (.str s) = 0 := by
  unfold D.dep
  rw [if_pos h]
theorem ok_all : ∀ (d : Nat) (row : Bool) (s : Stm), okStm d row s = true → mkS s ∧ dpS s ≤ d ∧ D.dep (encS s) ≤ 2 * d + 1
  | 0, _, _, h => by simp [okStm] at h
  | d + 1, row, s, h => by
    cases s with
    | mark s =>
      have hs := okSign_mk (show okSign s = true from h)
      refine ⟨hs, by unfold dpS; omega, ?_⟩
      have h0 := dep_str hs.2
      have h1 : D.dep (.str [109, 97, 114, 107]) = 0 := by decide
      have h2 : D.dep (encS (.mark s)) = D.deps [.str [109, 97, 114, 107], .str s] + 1 := by unfold encS; simp only [D.dep]
      rw [h2]
      simp only [D.deps, h0, h1]
      omega
    | iff t a b =>
      have h : (okTst row t && (decide (a.length ≤ 8) && a.all (okStm d row)) && (decide (b.length ≤ 8) && b.all (okStm d row))) = true := h
      simp only [Bool.and_eq_true, decide_eq_true_eq, List.all_eq_true] at h
      obtain ⟨⟨_, ha, ha2⟩, hb, hb2⟩ := h
      have qa := fun s hs => ok_all d row s (ha2 s hs)
      have qb := fun s hs => ok_all d row s (hb2 s hs)
      refine ⟨⟨⟨by omega, mkSs_of fun s hs => (qa s hs).1⟩, by omega, mkSs_of fun s hs => (qb s hs).1⟩, ?_, ?_⟩
      · unfold dpS
        have h1 := dpB_of fun s hs => (qa s hs).2.1
        have h2 := dpB_of fun s hs => (qb s hs).2.1
        omega
      · rw [encS_iff]
        have h1 : D.deps (a.map encS) ≤ 2 * d + 1 := deps_of fun x hx => by
          obtain ⟨s, hs, rfl⟩ := List.mem_map.mp hx
          exact (qa s hs).2.2
        have h2 : D.deps (b.map encS) ≤ 2 * d + 1 := deps_of fun x hx => by
          obtain ⟨s, hs, rfl⟩ := List.mem_map.mp hx
          exact (qb s hs).2.2
        have h3 : D.dep (encT t) ≤ 1 := by
          cases t with
          | flag q => cases q <;> decide
          | _ => decide
        have h4 : D.dep (.str [105, 102]) = 0 := by decide
        simp only [D.dep, D.deps, dep_encB] at *
        simp at *
        omega
    | item => exact ⟨trivial, by unfold dpS; omega, by have : D.dep (encS .item) = 1 := by decide +kernel
                                                       omega⟩
    | keep => exact ⟨trivial, by unfold dpS; omega, by have : D.dep (encS .keep) = 1 := by decide +kernel
                                                       omega⟩
    | head q => exact ⟨trivial, by unfold dpS; omega, by have : ∀ q, D.dep (encS (.head q)) = 1 := by decide +kernel
                                                         have := this q; omega⟩
    | up q => exact ⟨trivial, by unfold dpS; omega, by have : ∀ q, D.dep (encS (.up q)) = 1 := by decide +kernel
                                                       have := this q; omega⟩
    | down q => exact ⟨trivial, by unfold dpS; omega, by have : ∀ q, D.dep (encS (.down q)) = 1 := by decide +kernel
                                                         have := this q; omega⟩
    | total q => exact ⟨trivial, by unfold dpS; omega, by have : ∀ q, D.dep (encS (.total q)) = 1 := by decide +kernel
                                                          have := this q; omega⟩
    | zero q => exact ⟨trivial, by unfold dpS; omega, by have : ∀ q, D.dep (encS (.zero q)) = 1 := by decide +kernel
                                                         have := this q; omega⟩
    | add q => exact ⟨trivial, by unfold dpS; omega, by have : ∀ q, D.dep (encS (.add q)) = 1 := by decide +kernel
                                                        have := this q; omega⟩
end BP

set_option maxRecDepth 100000
set_option maxHeartbeats 4000000
/-! Valid programs fit; a cut keeps them valid. -/
namespace BP
theorem okBody_all {d : Nat} {row : Bool} {b : List Stm} (h : okBody d row b = true) : mkSs b ∧ dpB b ≤ d ∧ D.dep (encB b) ≤ 2 * d + 2 := by
  unfold okBody at h
  simp only [Bool.and_eq_true, decide_eq_true_eq, List.all_eq_true] at h
  have q := fun s hs => ok_all d row s (h.2 s hs)
  refine ⟨mkSs_of fun s hs => (q s hs).1, dpB_of fun s hs => (q s hs).2.1, ?_⟩
  rw [dep_encB]
  have : D.deps (b.map encS) ≤ 2 * d + 1 := deps_of fun x hx => by
    obtain ⟨s, hs, rfl⟩ := List.mem_map.mp hx
    exact (q s hs).2.2
  omega
theorem okBody_len {d : Nat} {row : Bool} {b : List Stm} (h : okBody d row b = true) : b.length ≤ 8 := by
  unfold okBody at h
  simp only [Bool.and_eq_true, decide_eq_true_eq] at h
  exact h.1
theorem okProg_fit {p : Prog} (h : okProg p = true) : Fit p := by
  unfold okProg at h
  simp only [Bool.and_eq_true, decide_eq_true_eq] at h
  obtain ⟨⟨⟨ha, hb⟩, hc⟩, hn⟩ := h
  obtain ⟨a1, a2, a3⟩ := okBody_all ha
  obtain ⟨b1, b2, b3⟩ := okBody_all hb
  obtain ⟨c1, c2, c3⟩ := okBody_all hc
  have la := okBody_len ha
  have lb := okBody_len hb
  have lc := okBody_len hc
  refine ⟨okEq_tup fun d hd => ?_, a1, b1, c1, by omega, by omega, by omega, by omega, by omega, by omega, by omega⟩
  simp only [List.mem_cons, List.not_mem_nil, or_false] at hd
  rcases hd with e | e | e <;> rw [e] <;> omega
theorem cutB_mem (g : Int) : ∀ (b : List Stm) (n : Int) (x : Stm), x ∈ cutB g n b → ∃ s ∈ b, ∃ m, x = cutS g m s
  | [], _, _, h => by simp [cutB] at h
  | s :: b, n, x, h => by
    simp only [cutB, List.mem_append] at h
    rcases h with h | h
    · split at h
      · cases h
      · exact ⟨s, List.mem_cons_self, n, by simpa using h⟩
    · obtain ⟨s', hs, m, e⟩ := cutB_mem g b _ x h
      exact ⟨s', List.mem_cons_of_mem _ hs, m, e⟩
theorem ok_cutS (g : Int) : ∀ (d : Nat) (row : Bool) (s : Stm) (n : Int), okStm d row s = true → okStm d row (cutS g n s) = true
  | 0, _, _, _, h => by simp [okStm] at h
  | d + 1, row, s, n, h => by
    cases s with
    | iff t a b =>
      have h : (okTst row t && (decide (a.length ≤ 8) && a.all (okStm d row)) && (decide (b.length ≤ 8) && b.all (okStm d row))) = true := h
      unfold cutS
      show (okTst row t && (decide ((cutB g (n + 1) a).length ≤ 8) && (cutB g (n + 1) a).all (okStm d row)) && (decide ((cutB g (n + 1 + (flatB a).length) b).length ≤ 8) && (cutB g (n + 1 + (flatB a).length) b).all (okStm d row))) = true
      simp only [Bool.and_eq_true, decide_eq_true_eq, List.all_eq_true] at h ⊢
      obtain ⟨⟨ht, ha, ha2⟩, hb, hb2⟩ := h
      have l1 := cutB_len g a (n + 1)
      have l2 := cutB_len g b (n + 1 + (flatB a).length)
      refine ⟨⟨ht, by omega, fun x hx => ?_⟩, by omega, fun x hx => ?_⟩
      · obtain ⟨s, hs, m, rfl⟩ := cutB_mem g a _ x hx
        exact ok_cutS g d row s m (ha2 s hs)
      · obtain ⟨s, hs, m, rfl⟩ := cutB_mem g b _ x hx
        exact ok_cutS g d row s m (hb2 s hs)
    | _ => simpa [cutS] using h
theorem ok_cutB {g : Int} {d : Nat} {row : Bool} {b : List Stm} (n : Int) (h : okBody d row b = true) : okBody d row (cutB g n b) = true := by
  unfold okBody at h ⊢
  simp only [Bool.and_eq_true, decide_eq_true_eq, List.all_eq_true] at h ⊢
  have l1 := cutB_len g b n
  refine ⟨by omega, fun x hx => ?_⟩
  obtain ⟨s, hs, m, rfl⟩ := cutB_mem g b _ x hx
  exact ok_cutS g d row s m (h.2 s hs)
mutual
theorem less_cutS (g : Int) : ∀ (n : Int) (s : Stm), (flatS (cutS g n s)).length ≤ (flatS s).length ∧ (n < g → g < n + (flatS s).length → (flatS (cutS g n s)).length < (flatS s).length)
  | n, .iff t a b => by
    obtain ⟨h1, h2⟩ := less_cutB g (n + 1) a
    obtain ⟨h3, h4⟩ := less_cutB g (n + 1 + (flatB a).length) b
    simp only [cutS, flatS, List.length_cons, List.length_append]
    refine ⟨by omega, fun q1 q2 => ?_⟩
    by_cases c : g < n + 1 + (flatB a).length
    · have := h2 (by omega) (by omega); omega
    · have := h4 (by omega) (by omega); omega
  | n, .item => ⟨Nat.le_refl _, fun h1 h2 => by simp only [flatS, List.length_cons, List.length_nil] at h2; omega⟩
  | n, .keep => ⟨Nat.le_refl _, fun h1 h2 => by simp only [flatS, List.length_cons, List.length_nil] at h2; omega⟩
  | n, .head _ => ⟨Nat.le_refl _, fun h1 h2 => by simp only [flatS, List.length_cons, List.length_nil] at h2; omega⟩
  | n, .mark _ => ⟨Nat.le_refl _, fun h1 h2 => by simp only [flatS, List.length_cons, List.length_nil] at h2; omega⟩
  | n, .up _ => ⟨Nat.le_refl _, fun h1 h2 => by simp only [flatS, List.length_cons, List.length_nil] at h2; omega⟩
  | n, .down _ => ⟨Nat.le_refl _, fun h1 h2 => by simp only [flatS, List.length_cons, List.length_nil] at h2; omega⟩
  | n, .total _ => ⟨Nat.le_refl _, fun h1 h2 => by simp only [flatS, List.length_cons, List.length_nil] at h2; omega⟩
  | n, .zero _ => ⟨Nat.le_refl _, fun h1 h2 => by simp only [flatS, List.length_cons, List.length_nil] at h2; omega⟩
  | n, .add _ => ⟨Nat.le_refl _, fun h1 h2 => by simp only [flatS, List.length_cons, List.length_nil] at h2; omega⟩
theorem less_cutB (g : Int) : ∀ (n : Int) (b : List Stm), (flatB (cutB g n b)).length ≤ (flatB b).length ∧ (n ≤ g → g < n + (flatB b).length → (flatB (cutB g n b)).length < (flatB b).length)
  | n, [] => ⟨Nat.le_refl _, fun h1 h2 => by simp only [flatB, List.length_nil] at h2; omega⟩
  | n, s :: b => by
    obtain ⟨h1, h2⟩ := less_cutS g n s
    obtain ⟨h3, h4⟩ := less_cutB g (n + (flatS s).length) b
    have h5 := flatS_pos s
    simp only [cutB, flatB_app, flatB, List.length_append]
    split
    · next e => simp only [flatB, List.length_nil]; exact ⟨by omega, fun _ _ => by omega⟩
    · next e =>
      simp only [flatB, List.length_append, List.length_nil]
      refine ⟨by omega, fun q1 q2 => ?_⟩
      by_cases c : g < n + (flatS s).length
      · have := h2 (by omega) (by omega); omega
      · have := h4 (by omega) (by omega); omega
end
theorem ok_cutP {g : Int} {p : Prog} (h : okProg p = true) : okProg (cutP' g p) = true := by
  unfold okProg at h ⊢
  simp only [Bool.and_eq_true, decide_eq_true_eq] at h ⊢
  obtain ⟨⟨⟨ha, hb⟩, hc⟩, hn⟩ := h
  refine ⟨⟨⟨ok_cutB _ ha, ok_cutB _ hb⟩, ok_cutB _ hc⟩, ?_⟩
  have h1 := (less_cutB g 0 p.a).1
  have h2 := (less_cutB g (flatB p.a).length p.b).1
  have h3 := (less_cutB g ((flatB p.a).length + (flatB p.b).length) p.c).1
  unfold Prog.all cutP' at *
  simp only [List.length_append] at *
  omega
theorem less_cutP {g : Int} {p : Prog} (h0 : 0 ≤ g) (h1 : g < p.all.length) : (cutP' g p).all.length < p.all.length := by
  have ⟨a1, a2⟩ := less_cutB g 0 p.a
  have ⟨b1, b2⟩ := less_cutB g (flatB p.a).length p.b
  have ⟨c1, c2⟩ := less_cutB g ((flatB p.a).length + (flatB p.b).length) p.c
  unfold Prog.all cutP' at *
  simp only [List.length_append] at *
  by_cases q1 : g < (flatB p.a).length
  · have := a2 (by omega) (by omega); omega
  · by_cases q2 : g < (flatB p.a).length + (flatB p.b).length
    · have := b2 (by omega) (by omega); omega
    · have := c2 (by omega) (by omega); omega
end BP

set_option maxRecDepth 100000
set_option maxHeartbeats 4000000
/-! Runs on valid programs. -/
namespace BP
mutual
theorem eqv_refl : ∀ a : D, D.dep a ≤ 64 → D.eqv a a = true
  | .non, _ => rfl
  | .bl _, _ => by simp [D.eqv]
  | .int _, _ => by simp [D.eqv]
  | .str _, _ => by simp [D.eqv]
  | .tup ds, h => by
    simp only [D.dep] at h
    unfold D.eqv
    exact eqvs_refl ds (by omega)
  | .lst ds, h => by
    simp only [D.dep] at h
    unfold D.eqv
    exact eqvs_refl ds (by omega)
  | .scr _, h => by simp [D.dep] at h
  | .dic _ _, h => by simp [D.dep] at h
theorem eqvs_refl : ∀ a : List D, D.deps a ≤ 64 → D.eqvs a a = true
  | [], _ => rfl
  | x :: xs, h => by
    simp only [D.deps] at h
    simp only [D.eqvs, eqv_refl x (by omega), eqvs_refl xs (by omega), Bool.and_self]
end
structure LawT (T : Nat → Option Def) (G : Nat → Option D) : Prop extends CutT T G where
  t11 : T 11 = some d_need_statement_number
  t16 : T 16 = some d_without
  t0' : T 0 = some d_is_number
  t17 : T 17 = some d_law_source
  t18 : T 18 = some d_law_draw
  t19 : T 19 = some d_law_of
  t20 : T 20 = some d_law_sign
  t21 : T 21 = some d_law_layout
  t22 : T 22 = some d_law_simple
  t23 : T 23 = some d_law_test
  t24 : T 24 = some d_law_body
  t25 : T 25 = some d_law_size
  t26 : T 26 = some d_law_written
  t27 : T 27 = some d_law_bent
  t28 : T 28 = some d_law_near
  t29 : T 29 = some d_law_any
  t30 : T 30 = some d_law_program
  t31 : T 31 = some d_law_cut
  t32 : T 32 = some d_law_less
  t33 : T 33 = some d_law_many
theorem all_parts (p : Prog) : p.all.length = (flatB p.a).length + (flatB p.b).length + (flatB p.c).length := by
  unfold Prog.all; simp only [List.length_append]
theorem okProg_len {p : Prog} (h : okProg p = true) : p.all.length ≤ 24 := by
  unfold okProg at h
  simp only [Bool.and_eq_true, decide_eq_true_eq] at h
  exact h.2
theorem encS_ix (s : Stm) : ∃ r, encS s = .tup (.str (word s) :: r) := by
  cases s with
  | iff t a b => exact ⟨_, rfl⟩
  | _ => unfold encS; exact ⟨_, rfl⟩
section
variable {T : Nat → Option Def} {G : Nat → Option D} {W : Nat} (A : LawT T G)
include A
theorem words_run (p : Prog) (F : Fit p) (k : Nat) (hk : 14 ≤ k) : runF T G W k 14 [.val (encP p)] = some (.val (.lst (p.all.map fun s => .str (word s))), none) := by
  obtain ⟨k, rfl⟩ : ∃ k', k = k' + 1 := ⟨k - 1, by omega⟩
  rw [runF_fn A.t14 _ rfl (by decide)]
  have h8 := all_run A.toPrT (W := W) p F k (by omega)
  have hc : evE (runF T G W k) G (.comp (.ix (.var 1) (.cst (.int 0))) (.nm 1) (.seq (.call 8 [(.var 0)])) []) [.val (encP p), .emp] = some (.own (.lst (p.all.map fun s => .str (word s))), [.val (encP p), .emp]) := by
    refine comp_one (enc := encS) (g := fun s => .str (word s)) p.all (by simp [h8]) rfl (fun s _ => ?_) (fun d => rfl) rfl rfl (fun d => rfl) (by have := F.n; simpa using this)
    obtain ⟨r, e⟩ := encS_ix s
    rw [e]
    simp [wipeE]
  simp [start, hc]
theorem stms_run (p : Prog) (ok : okProg p = true) (k : Nat) (hk : 16 ≤ k) : runF T G W k 15 [.val (encP p)] = some (.val (.lst (p.all.map fun s => .str (word s))), none) := by
  obtain ⟨k, rfl⟩ : ∃ k', k = k' + 1 := ⟨k - 1, by omega⟩
  rw [runF_fn A.t15 _ rfl (by decide)]
  have F := okProg_fit ok
  have h10 := need_run A.toPrT (W := W) p F ok k (by omega)
  have h14 := words_run A (W := W) p F k (by omega)
  simp [start, h10, h14]
theorem num_run (p : Prog) (ok : okProg p = true) (g : Int) (h0 : 0 ≤ g) (h1 : g < p.all.length) (k : Nat) (hk : 16 ≤ k) : runF T G W k 11 [.val (encP p), .val (.int g)] = some (.val .non, none) := by
  obtain ⟨k, rfl⟩ : ∃ k', k = k' + 2 := ⟨k - 2, by omega⟩
  rw [runF_fn A.t11 _ rfl (by decide)]
  have F := okProg_fit ok
  have h8 := all_run A.toPrT (W := W) p F (k + 1) (by omega)
  have hn : runF T G W (k + 1) 0 [.val (.int g)] = some (.val (.bl true), none) := by
    rw [runF_fn A.t0 _ rfl (by decide)]
    simp [start]
  simp [start, h8, hn, h0, h1]
theorem prog_without_run (p : Prog) (ok : okProg p = true) (g : Int) (k : Nat) (hk : 16 ≤ k) : runF T G W k 13 [.val (encP p), .val (.lst [.int g])] = some (.val (encP (cutP' g p)), none) := by
  obtain ⟨k, rfl⟩ : ∃ k', k = k' + 1 := ⟨k - 1, by omega⟩
  rw [runF_fn A.t13 _ rfl (by decide)]
  have F := okProg_fit ok
  have hl := okProg_len ok
  rw [all_parts] at hl
  have okp := F.ok
  have wa := without_run A.toCutT (W := W) g 10 k p.a 0 F.da (by omega) (by omega) (okEq_mem (show okEq (.tup _) = true from okp) (by simp))
  have wb := without_run A.toCutT (W := W) g 10 k p.b (flatB p.a).length F.db (by omega) (by omega) (okEq_mem (show okEq (.tup _) = true from okp) (by simp))
  have wc := without_run A.toCutT (W := W) g 10 k p.c ((flatB p.a).length + (flatB p.b).length) F.dc (by omega) (by omega) (okEq_mem (show okEq (.tup _) = true from okp) (by simp))
  have l1 := listed_run A.toPrT (W := W) 10 k p.a F.da (by omega) (by omega)
  have l2 := listed_run A.toPrT (W := W) 10 k p.b F.db (by omega) (by omega)
  have l3 := listed_run A.toPrT (W := W) 10 k p.c F.dc (by omega) (by omega)
  unfold encP cutP'
  simp [start, asg, asgs, wa, wb, wc, l1, l2, l3]
theorem wo_run (p : Prog) (ok : okProg p = true) (g : Int) (h0 : 0 ≤ g) (h1 : g < p.all.length) (k : Nat) (hk : 17 ≤ k) : runF T G W k 16 [.val (encP p), .val (.int g)] = some (.val (encP (cutP' g p)), none) := by
  obtain ⟨k, rfl⟩ : ∃ k', k = k' + 1 := ⟨k - 1, by omega⟩
  rw [runF_fn A.t16 _ rfl (by decide)]
  have F := okProg_fit ok
  have h10 := need_run A.toPrT (W := W) p F ok k (by omega)
  have h11 := num_run A (W := W) p ok g h0 h1 k (by omega)
  have h13 := prog_without_run A (W := W) p ok g k (by omega)
  simp [start, h10, h11, h13]
theorem less_run (p : Prog) (ok : okProg p = true) (g : Int) (k : Nat) (hk : 16 ≤ k) : runF T G W k 32 [.val (encP p), .val (.lst [.int g])] = some (.val (encP (cutP' g p)), none) := by
  obtain ⟨k, rfl⟩ : ∃ k', k = k' + 1 := ⟨k - 1, by omega⟩
  rw [runF_fn A.t32 _ rfl (by decide)]
  have F := okProg_fit ok
  have hl := okProg_len ok
  rw [all_parts] at hl
  have wa := cut_run (G := G) (W := W) A.t25 A.t31 g 10 k p.a 0 F.da (by omega) (by omega)
  have wb := cut_run (G := G) (W := W) A.t25 A.t31 g 10 k p.b (flatB p.a).length F.db (by omega) (by omega)
  have wc := cut_run (G := G) (W := W) A.t25 A.t31 g 10 k p.c ((flatB p.a).length + (flatB p.b).length) F.dc (by omega) (by omega)
  have l1 := size_run (G := G) (W := W) A.t25 10 k p.a F.da (by omega)
  have l2 := size_run (G := G) (W := W) A.t25 10 k p.b F.db (by omega)
  unfold encP cutP'
  simp [start, wa, wb, wc, l1, l2]
theorem many_run (p : Prog) (F : Fit p) (k : Nat) (hk : 12 ≤ k) : runF T G W k 33 [.val (encP p)] = some (.val (.int p.all.length), none) := by
  obtain ⟨k, rfl⟩ : ∃ k', k = k' + 1 := ⟨k - 1, by omega⟩
  rw [runF_fn A.t33 _ rfl (by decide)]
  have l1 := size_run (G := G) (W := W) A.t25 10 k p.a F.da (by omega)
  have l2 := size_run (G := G) (W := W) A.t25 10 k p.b F.db (by omega)
  have l3 := size_run (G := G) (W := W) A.t25 10 k p.c F.dc (by omega)
  rw [all_parts]
  unfold encP
  simp [start, l1, l2, l3]
end
end BP

set_option maxRecDepth 100000
set_option maxHeartbeats 4000000
/-! Draws. -/
namespace BP
@[simp] theorem outsTo_1 (i : Nat) (o : O) (ρ : Env) : outsTo [i] (some o) ρ = some (pO ρ i o) := rfl
def putK (o : Option O) (k d : D) (i : Nat) (ρ : Env) : Option Out := match o, k with
    | some (.lst ds), .int j => match ixP ds.length j with
      | some n => some (.nx (pO ρ i (.lst (ds.set n d))))
      | none => none
    | some (.dic ks vs), k => if okKey k && decide (ks.length < lineN) then match lookF k ks vs with
      | some (.l _) => none
      | _ => some (.nx (pO ρ i (.dic (putF k (.v d) ks vs).1 (putF k (.v d) ks vs).2))) else none
    | _, _ => none
@[simp] theorem st_put {Φ : Calls} {G : Nat → Option D} {W : Nat} (i : Nat) (k e : E) (ρ : Env) : evS Φ G W (.put i k e) ρ = bV (evE Φ G e ρ) fun d ρ => if isThing (get ρ i) then bV (evE Φ G k ρ) fun k ρ => putK (gO ρ i) k d i ρ else none := by
  conv => lhs; unfold evS
  congr
@[simp] theorem putK_0 (x y d : D) (i : Nat) (ρ : Env) : putK (some (.lst [x, y])) (.int 0) d i ρ = some (.nx (pO ρ i (.lst [d, y]))) := rfl
@[simp] theorem putK_1 (x y d : D) (i : Nat) (ρ : Env) : putK (some (.lst [x, y])) (.int 1) d i ρ = some (.nx (pO ρ i (.lst [x, d]))) := rfl
section
variable {T : Nat → Option Def} {G : Nat → Option D} {W : Nat} (A : LawT T G)
include A
theorem draw_run (k : Nat) (a b m : Int) (h0 : 0 < m) (h1 : m < 1073741824) :
    ∃ r a' b' : Int, runF T G W (k + 1) 18 [.lnt (.lst [.int a, .int b]), .val (.int m)] = some (.val (.int r), some (.lst [.int a', .int b'])) ∧ 0 ≤ r ∧ r < m := by
  rw [runF_fn A.t18 _ rfl (by decide)]
  by_cases c : 0 < a
  · refine ⟨a % m, a / m, b, ?_, Int.emod_nonneg _ (by omega), Int.emod_lt_of_pos _ h0⟩
    simp [start, c, h0, h1]
  · refine ⟨((b * 48271 % 2147483647 * (b * 48271 % 2147483647)) % 2147483629 / 64) % m, a, (b * 48271) % 2147483647, ?_, Int.emod_nonneg _ (by omega), Int.emod_lt_of_pos _ h0⟩
    have e1 : small64 (48271 : Int) = true := by decide
    have e2 : small64 ((b * 48271) % 2147483647) = true := by
      have h1 := Int.emod_nonneg (b * 48271) (show (2147483647 : Int) ≠ 0 by decide)
      have h2 := Int.emod_lt_of_pos (b * 48271) (show (0 : Int) < 2147483647 by decide)
      unfold small64
      simp
      omega
    simp [start, c, h0, h1, e1, e2]
theorem of_run (k : Nat) (a b : Int) (ds : List D) (h0 : 0 < ds.length) (h1 : ds.length < 1073741824) :
    ∃ d ∈ ds, ∃ a' b' : Int, runF T G W (k + 2) 19 [.lnt (.lst [.int a, .int b]), .val (.lst ds)] = some (.val d, some (.lst [.int a', .int b'])) := by
  obtain ⟨r, a', b', h, p0, p1⟩ := draw_run A (W := W) k a b ds.length (by omega) (by omega)
  obtain ⟨n, rfl⟩ := Int.eq_ofNat_of_zero_le p0
  have hn : n < ds.length := by omega
  refine ⟨ds[n], List.getElem_mem hn, a', b', ?_⟩
  rw [runF_fn A.t19 _ rfl (by decide)]
  have e := ixL_nat ds n
  rw [List.getElem?_eq_getElem hn] at e
  simp [start, h, e]
theorem gsign_run (k : Nat) (a b : Int) : ∃ s, okSign s = true ∧ ∃ a' b' : Int, runF T G W (k + 3) 20 [.lnt (.lst [.int a, .int b])] = some (.val (.str s), some (.lst [.int a', .int b'])) := by
  obtain ⟨d, hd, a', b', h⟩ := of_run A (W := W) k a b [.str [44], .str [59], .str [124], .str [45], .str [42, 47], .str [44, 46, 124]] (by decide) (by decide)
  have : ∃ s, d = .str s ∧ okSign s = true := by
    simp only [List.mem_cons, List.not_mem_nil, or_false] at hd
    rcases hd with e | e | e | e | e | e <;> exact ⟨_, e, by decide⟩
  obtain ⟨s, rfl, hs⟩ := this
  refine ⟨s, hs, a', b', ?_⟩
  rw [runF_fn A.t20 _ rfl (by decide)]
  simp [start, h]
/-- one of two words -/
theorem of_xxy (k : Nat) (a b : Int) : ∃ y, ∃ a' b' : Int, runF T G W (k + 2) 19 [.lnt (.lst [.int a, .int b]), .val (.lst [.str [120], .str [120], .str [121]])] = some (.val (xy y), some (.lst [.int a', .int b'])) := by
  obtain ⟨d, hd, a', b', h⟩ := of_run A (W := W) k a b [.str [120], .str [120], .str [121]] (by decide) (by decide)
  simp only [List.mem_cons, List.not_mem_nil, or_false] at hd
  rcases hd with e | e | e <;> subst e
  · exact ⟨false, a', b', h⟩
  · exact ⟨false, a', b', h⟩
  · exact ⟨true, a', b', h⟩
theorem of_ppq (k : Nat) (a b : Int) : ∃ y, ∃ a' b' : Int, runF T G W (k + 2) 19 [.lnt (.lst [.int a, .int b]), .val (.lst [.str [112], .str [112], .str [113]])] = some (.val (pq y), some (.lst [.int a', .int b'])) := by
  obtain ⟨d, hd, a', b', h⟩ := of_run A (W := W) k a b [.str [112], .str [112], .str [113]] (by decide) (by decide)
  simp only [List.mem_cons, List.not_mem_nil, or_false] at hd
  rcases hd with e | e | e <;> subst e
  · exact ⟨false, a', b', h⟩
  · exact ⟨false, a', b', h⟩
  · exact ⟨true, a', b', h⟩
theorem of_two (k : Nat) (a b : Int) (x y : D) : ∃ q : Bool, ∃ a' b' : Int, runF T G W (k + 2) 19 [.lnt (.lst [.int a, .int b]), .val (.lst [x, y])] = some (.val (if q then x else y), some (.lst [.int a', .int b'])) := by
  obtain ⟨d, hd, a', b', h⟩ := of_run A (W := W) k a b [x, y] (by simp) (by simp)
  simp only [List.mem_cons, List.not_mem_nil, or_false] at hd
  rcases hd with e | e <;> subst e
  · exact ⟨true, a', b', h⟩
  · exact ⟨false, a', b', h⟩
theorem gtest_run (k : Nat) (a b : Int) (row : Bool) : ∃ t, okTst row t = true ∧ ∃ a' b' : Int, runF T G W (k + 3) 23 [.lnt (.lst [.int a, .int b]), .val (.bl row)] = some (.val (encT t), some (.lst [.int a', .int b'])) := by
  cases row
  · obtain ⟨d, hd, a', b', h⟩ := of_run A (W := W) k a b [encT .kept, encT (.flag false), encT (.flag true)] (by decide) (by decide)
    have : ∃ t, d = encT t ∧ okTst false t = true := by
      simp only [List.mem_cons, List.not_mem_nil, or_false] at hd
      rcases hd with e | e | e <;> exact ⟨_, e, by decide⟩
    obtain ⟨s, rfl, hs⟩ := this
    refine ⟨s, hs, a', b', ?_⟩
    rw [runF_fn A.t23 _ rfl (by decide)]
    simp [start, encT, pq] at h ⊢
    rw [h]
    simp
  · obtain ⟨d, hd, a', b', h⟩ := of_run A (W := W) k a b [encT .kept, encT (.flag false), encT (.flag true), encT .new, encT .last, encT .new] (by decide) (by decide)
    have : ∃ t, d = encT t ∧ okTst true t = true := by
      simp only [List.mem_cons, List.not_mem_nil, or_false] at hd
      rcases hd with e | e | e | e | e | e <;> exact ⟨_, e, by decide⟩
    obtain ⟨s, rfl, hs⟩ := this
    refine ⟨s, hs, a', b', ?_⟩
    rw [runF_fn A.t23 _ rfl (by decide)]
    simp [start, encT, pq] at h ⊢
    rw [h]
    simp
end
end BP

set_option maxRecDepth 100000
set_option maxHeartbeats 4000000
/-! Drawn statements. -/
namespace BP
section
variable {T : Nat → Option Def} {G : Nat → Option D} {W : Nat} (A : LawT T G)
include A
theorem simple_run (k : Nat) (a b : Int) (row : Bool) : ∃ s, (∀ d, okStm (d + 1) row s = true) ∧ ∃ a' b' : Int, runF T G W (k + 4) 22 [.lnt (.lst [.int a, .int b]), .val (.bl row)] = some (.val (encS s), some (.lst [.int a', .int b'])) := by
  have hm : (0 : Int) < (if row then 12 else 7) := by cases row <;> decide
  have hm2 : (if row then 12 else 7 : Int) < 1073741824 := by cases row <;> decide
  obtain ⟨r, a1, b1, hr, p0, p1⟩ := draw_run A (W := W) (k + 2) a b (if row then 12 else 7) hm hm2
  have hr' : runF T G W (k + 3) 18 [.lnt (.lst [.int a, .int b]), .val (.int (if row then 12 else 7))] = some (.val (.int r), some (.lst [.int a1, .int b1])) := hr
  have go : ∀ (ρ : Env), evE (runF T G W (k + 3)) G (.call 18 [(.lent 0), (.ite (.var 1) (.cst (.int 12)) (.cst (.int 7)))]) [.lnt (.lst [.int a, .int b]), .val (.bl row), .emp] = some (.val (.int r), [.lnt (.lst [.int a1, .int b1]), .val (.bl row), .emp]) := by
    intro _
    cases row <;> simp at hr' ⊢ <;> simp [hr']
  have go := go []
  have cs : r = 0 ∨ r = 1 ∨ r = 2 ∨ r = 3 ∨ r = 4 ∨ r = 5 ∨ r = 6 ∨ (row = true ∧ (r = 7 ∨ r = 8 ∨ r = 9 ∨ r = 10 ∨ r = 11)) := by
    cases row
    · simp at p1; omega
    · simp at p1; simp; omega
  rw [runF_fn A.t22 _ rfl (by decide)]
  rcases cs with e | e | e | e | e | e | e | ⟨e0, e⟩
  · subst e
    obtain ⟨s, hs, a2, b2, h2⟩ := gsign_run A (W := W) k a1 b1
    obtain ⟨d, hd, a3, b3, h3⟩ := of_run A (W := W) (k + 1) a2 b2 [.str [44], .str [44], .str s] (by simp) (by simp)
    have : ∃ s', d = .str s' ∧ okSign s' = true := by
      simp only [List.mem_cons, List.not_mem_nil, or_false] at hd
      rcases hd with e | e | e
      · exact ⟨_, e, by decide⟩
      · exact ⟨_, e, by decide⟩
      · exact ⟨_, e, hs⟩
    obtain ⟨s', rfl, hs'⟩ := this
    refine ⟨.mark s', fun d => hs', a3, b3, ?_⟩
    simp [start, go, h2, h3, encS]
  · subst e
    obtain ⟨y, a2, b2, h2⟩ := of_xxy A (W := W) (k + 1) a1 b1
    refine ⟨.total y, fun d => rfl, a2, b2, ?_⟩
    simp [start, go, h2, encS]
  · subst e
    obtain ⟨y, a2, b2, h2⟩ := of_xxy A (W := W) (k + 1) a1 b1
    refine ⟨.zero y, fun d => rfl, a2, b2, ?_⟩
    simp [start, go, h2, encS]
  · subst e
    cases row
    · refine ⟨.head false, fun d => rfl, a1, b1, ?_⟩
      simp [start, go, encS]
    · obtain ⟨y, a2, b2, h2⟩ := of_two A (W := W) (k + 1) a1 b1 (.str [116, 104, 105, 115]) (.str [107, 101, 112, 116])
      refine ⟨.head y, fun d => rfl, a2, b2, ?_⟩
      cases y <;> simp [start, go, h2, encS]
  · subst e
    obtain ⟨y, a2, b2, h2⟩ := of_two A (W := W) (k + 1) a1 b1 (.str [117, 112]) (.str [100, 111, 119, 110])
    obtain ⟨q, a3, b3, h3⟩ := of_ppq A (W := W) (k + 1) a2 b2
    refine ⟨if y then .up q else .down q, fun d => by cases y <;> rfl, a3, b3, ?_⟩
    cases y <;> simp [start, go, h2, h3, encS]
  · subst e
    obtain ⟨y, a2, b2, h2⟩ := of_two A (W := W) (k + 1) a1 b1 (.str [117, 112]) (.str [100, 111, 119, 110])
    obtain ⟨q, a3, b3, h3⟩ := of_ppq A (W := W) (k + 1) a2 b2
    refine ⟨if y then .up q else .down q, fun d => by cases y <;> rfl, a3, b3, ?_⟩
    cases y <;> simp [start, go, h2, h3, encS]
  · subst e
    refine ⟨.mark [44], fun d => rfl, a1, b1, ?_⟩
    simp [start, go, encS]
  · subst e0
    obtain ⟨y, a2, b2, h2⟩ := of_xxy A (W := W) (k + 1) a1 b1
    have e4 : ∀ (x y z u v : D) (r : List D), ixL (x :: y :: z :: u :: v :: r) 4 = some v := fun x y z u v r => ixL_nat (x :: y :: z :: u :: v :: r) 4
    rcases e with e | e | e | e | e <;> subst e
    · refine ⟨.item, fun d => rfl, a2, b2, ?_⟩
      simp [start, go, h2, encS]
    · refine ⟨.item, fun d => rfl, a2, b2, ?_⟩
      simp [start, go, h2, encS]
    · refine ⟨.add y, fun d => rfl, a2, b2, ?_⟩
      simp [start, go, h2, encS]
    · refine ⟨.keep, fun d => rfl, a2, b2, ?_⟩
      simp [start, go, h2, encS]
    · refine ⟨.keep, fun d => rfl, a2, b2, ?_⟩
      simp [start, go, h2, encS, e4]
end
end BP

set_option maxRecDepth 100000
set_option maxHeartbeats 4000000
/-! Drawn bodies. -/
namespace BP
theorem encB_snoc (b : List Stm) (s : Stm) : encB (b ++ [s]) = .tup (b.map encS ++ [encS s]) := by unfold encB; simp
theorem small62_le {n : Int} (h0 : 0 ≤ n) (h1 : n ≤ 1000000) : small62 n = true := by
  unfold small62; simp; omega
abbrev gbodyTurn : List S := [.set (.nm 6) (.call 22 [(.lent 0), (.var 1)]),
    .iff (.and (.cmp .gt (.var 2) (.cst (.int 1))) (.cmp .eq (.call 18 [(.lent 0), (.cst (.int 3))]) (.cst (.int 0)))) [.set (.nm 7) (.call 24 [(.lent 0), (.var 1), (.bin .sub (.var 2) (.cst (.int 1))), (.cst (.int 3))]),
    .set (.nm 6) (.tup [(.cst (.str [105, 102])), (.call 23 [(.lent 0), (.var 1)]), (.var 7), (.call 24 [(.lent 0), (.var 1), (.bin .sub (.var 2) (.cst (.int 1))), (.cst (.int 2))])])] [],
    .set (.nm 4) (.bin .add (.var 4) (.tup [(.var 6)]))]
section
variable {T : Nat → Option Def} {G : Nat → Option D} {W : Nat} (A : LawT T G)
include A
theorem gbody_loop {k : Nat} {row : Bool} {d m : Nat} (hm : m ≤ 8)
    (turn : ∀ (a b : Int) (body : List Stm) (i : D) (s6 s7 : Slot), body.length ≤ 8 → isLnt s6 = false → isLnt s7 = false → ∃ s, okStm (d + 1) row s = true ∧ ∃ (a' b' : Int) (s6' s7' : Slot), isLnt s6' = false ∧ isLnt s7' = false ∧
      evSs (runF T G W (k + 4)) G W gbodyTurn [.lnt (.lst [.int a, .int b]), .val (.bl row), .val (.int (d + 1 : Nat)), .val (.int m), .val (encB body), .val i, s6, s7] =
        some (.nx [.lnt (.lst [.int a', .int b']), .val (.bl row), .val (.int (d + 1 : Nat)), .val (.int m), .val (encB (body ++ [s])), .val i, s6', s7'])) (a b : Int) :
    ∃ body, okBody (d + 1) row body = true ∧ body.length ≤ m ∧ ∃ a' b' : Int, runF T G W (k + 5) 24 [.lnt (.lst [.int a, .int b]), .val (.bl row), .val (.int (d + 1 : Nat)), .val (.int m)] = some (.val (encB body), some (.lst [.int a', .int b'])) := by
  obtain ⟨r, a1, b1, hr, p0, p1⟩ := draw_run A (W := W) (k + 3) a b ((m : Int) + 1) (by omega) (by omega)
  have h62 := small62_le (n := r) p0 (by omega)
  have loop := forLoop_inv (enc := fun d : D => d) (tg := .nm 5) (f := evSs (runF T G W (k + 4)) G W gbodyTurn)
    (fun pre ρ => ∃ (a b : Int) (s5 s6 s7 : Slot) (body : List Stm), ρ = [.lnt (.lst [.int a, .int b]), .val (.bl row), .val (.int (d + 1 : Nat)), .val (.int m), .val (encB body), s5, s6, s7] ∧ isLnt s5 = false ∧ isLnt s6 = false ∧ isLnt s7 = false ∧ body.length = pre.length ∧ ∀ s ∈ body, okStm (d + 1) row s = true)
    (rangeD 0 r.toNat) [] [.lnt (.lst [.int a1, .int b1]), .val (.bl row), .val (.int (d + 1 : Nat)), .val (.int m), .val (.tup []), .emp, .emp, .emp] (fun pre x post ρ e hP => ?_) ⟨a1, b1, .emp, .emp, .emp, [], rfl, rfl, rfl, rfl, rfl, by simp⟩
  · obtain ⟨ρ', h1, a', b', s5, s6, s7, body, rfl, _, _, _, hl, hok⟩ := loop
    have hl2 : body.length = r.toNat := by simpa [rangeD] using hl
    refine ⟨body, ?_, by omega, a', b', ?_⟩
    · unfold okBody
      simp only [Bool.and_eq_true, decide_eq_true_eq, List.all_eq_true]
      exact ⟨by omega, hok⟩
    · rw [runF_fn A.t24 _ rfl (by decide)]
      rw [List.map_id'] at h1
      simp [start, hr, h62] at h1 ⊢
      simp only [h1]
      simp
  · obtain ⟨a, b, s5, s6, s7, body, rfl, q5, q6, q7, hl, hok⟩ := hP
    have hpre : pre.length + 1 ≤ r.toNat := by
      have := congrArg List.length e
      simp [rangeD] at this
      omega
    obtain ⟨s, hs, a', b', s6', s7', q6', q7', ht⟩ := turn a b body x s6 s7 (by omega) q6 q7
    refine ⟨[.lnt (.lst [.int a, .int b]), .val (.bl row), .val (.int (d + 1 : Nat)), .val (.int m), .val (encB body), .val x, s6, s7], by simp [q5], _, ht, a', b', .val x, s6', s7', body ++ [s], rfl, rfl, q6', q7', by simp [hl], ?_⟩
    intro s' h'
    rcases List.mem_append.mp h' with h' | h'
    · exact hok s' h'
    · have : s' = s := by simpa using h'
      rw [this]; exact hs
theorem gbody_run : ∀ (d k : Nat) (row : Bool) (m : Nat), d + 5 ≤ k → m ≤ 8 → ∀ a b : Int,
    ∃ body, okBody (d + 1) row body = true ∧ body.length ≤ m ∧ ∃ a' b' : Int, runF T G W k 24 [.lnt (.lst [.int a, .int b]), .val (.bl row), .val (.int (d + 1 : Nat)), .val (.int m)] = some (.val (encB body), some (.lst [.int a', .int b']))
  | 0, k, row, m, hk, hm => by
    obtain ⟨k, rfl⟩ : ∃ k', k = k' + 5 := ⟨k - 5, by omega⟩
    refine gbody_loop A hm fun a b body i s6 s7 hl q6 q7 => ?_
    obtain ⟨s, hs, a', b', h⟩ := simple_run A (W := W) k a b row
    have hl2 : body.length + 1 ≤ 16777216 := by omega
    refine ⟨s, hs 0, a', b', .val (encS s), s7, rfl, q7, ?_⟩
    rw [encB_snoc]
    unfold encB
    simp [q6, h, hl2]
  | d + 1, k, row, m, hk, hm => by
    obtain ⟨k, rfl⟩ : ∃ k', k = k' + 5 := ⟨k - 5, by omega⟩
    refine gbody_loop A hm fun a b body i s6 s7 hl q6 q7 => ?_
    obtain ⟨s, hs, a1, b1, h⟩ := simple_run A (W := W) k a b row
    have hl2 : body.length + 1 ≤ 16777216 := by omega
    obtain ⟨r, a2, b2, hr, p0, p1⟩ := draw_run A (W := W) (k + 3) a1 b1 3 (by decide) (by decide)
    have hd : (1 : Int) < (d : Int) + 1 + 1 := by omega
    by_cases c : r = 0
    · subst c
      obtain ⟨x, hx, lx, a3, b3, h3⟩ := gbody_run d (k + 4) row 3 (by omega) (by omega) a2 b2
      obtain ⟨t, ht, a4, b4, h4⟩ := gtest_run A (W := W) (k + 1) a3 b3 row
      obtain ⟨y, hy, ly, a5, b5, h5⟩ := gbody_run d (k + 4) row 2 (by omega) (by omega) a4 b4
      refine ⟨.iff t x y, ?_, a5, b5, .val (encS (.iff t x y)), .val (encB x), rfl, rfl, ?_⟩
      · show (okTst row t && (decide (x.length ≤ 8) && x.all (okStm (d + 1) row)) && (decide (y.length ≤ 8) && y.all (okStm (d + 1) row))) = true
        unfold okBody at hx hy
        rw [ht, hx, hy]; rfl
      · rw [encB_snoc, encS_iff]
        have e1 : ((d : Int) + 1 + 1 - 1) = (d : Int) + 1 := by omega
        unfold encB at h3 h5 ⊢
        simp at h3 h4 h5 hr h
        simp [q6, q7, h, hl2, hr, hd, e1, h3, h4, h5]
    · refine ⟨s, hs _, a2, b2, .val (encS s), s7, rfl, q7, ?_⟩
      have c' : (r == 0) = false := by simpa using c
      rw [encB_snoc]
      unfold encB
      simp [q6, h, hl2, hr, hd, c']
end
end BP

set_option maxRecDepth 100000
set_option maxHeartbeats 4000000
/-! Bent bodies. -/
namespace BP
theorem ss_app {Φ : Calls} {G : Nat → Option D} {W : Nat} : ∀ (a b : List S) (ρ : Env), evSs Φ G W (a ++ b) ρ = sK (evSs Φ G W a ρ) (evSs Φ G W b)
  | [], b, ρ => by simp
  | s :: a, b, ρ => by
    simp only [List.cons_append, ss_cons]
    rcases evS Φ G W s ρ with _ | (ρ' | _)
    · rfl
    · exact ss_app a b ρ'
    · rfl
abbrev bentHead : List S := [.iff (.cmp .eq (.var 1) (.tup [])) [.ret (.var 1)] [],
    .par [2, 3] [(.call 18 [(.lent 0), (.blt .len [(.var 1)])]), (.call 18 [(.lent 0), (.cst (.int 5))])],
    .par [4, 5, 6] [(.ix (.var 1) (.var 2)), (.sl (.var 1) none (some (.var 2))), (.sl (.var 1) (some (.bin .add (.var 2) (.cst (.int 1)))) none)],
    .iff (.cmp .eq (.var 3) (.cst (.int 0))) [.ret (.bin .add (.var 5) (.var 6))] [],
    .iff (.cmp .eq (.var 3) (.cst (.int 1))) [.ret (.bin .add (.bin .add (.bin .add (.var 5) (.sl (.var 6) none (some (.cst (.int 1))))) (.tup [(.var 4)])) (.sl (.var 6) (some (.cst (.int 1))) none))] []]
abbrev bentMid : S := .iff (.and (.cmp .eq (.ix (.var 4) (.cst (.int 0))) (.cst (.str [105, 102]))) (.cmp .eq (.var 3) (.cst (.int 2)))) [.set (.nm 4) (.bin .add (.tup [(.cst (.str [105, 102])), (.call 19 [(.lent 0), (.lst [(.tup [(.cst (.str [107, 101, 112, 116]))]), (.tup [(.cst (.str [102, 108, 97, 103])), (.cst (.str [112]))])])])]) (.sl (.var 4) (some (.cst (.int 2))) none))] [.iff (.cmp .eq (.ix (.var 4) (.cst (.int 0))) (.cst (.str [105, 102]))) [.set (.nm 7) (.bin .add (.cst (.int 2)) (.call 18 [(.lent 0), (.cst (.int 2))])),
    .set (.nm 4) (.bin .add (.bin .add (.sl (.var 4) none (some (.var 7))) (.tup [(.call 27 [(.lent 0), (.ix (.var 4) (.var 7))])])) (.sl (.var 4) (some (.bin .add (.var 7) (.cst (.int 1)))) none))] [.iff (.cmp .isin (.ix (.var 4) (.cst (.int 0))) (.tup [(.cst (.str [116, 111, 116, 97, 108])), (.cst (.str [122, 101, 114, 111]))])) [.set (.nm 4) (.tup [(.ix (.var 4) (.cst (.int 0))), (.call 19 [(.lent 0), (.lst [(.cst (.str [120])), (.cst (.str [121]))])])])] []]]
abbrev bentRet : S := .ret (.bin .add (.bin .add (.var 5) (.tup [(.var 4)])) (.var 6))
section
variable {T : Nat → Option Def} {G : Nat → Option D} {W : Nat} (A : LawT T G)
include A
theorem mid_run {k : Nat} {row : Bool} {d : Nat} (ih : ∀ (b : List Stm), okBody d row b = true → ∀ a c : Int, ∃ b', okBody d row b' = true ∧ (flatB b').length ≤ (flatB b).length ∧ ∃ a' c' : Int, runF T G W (k + 2) 27 [.lnt (.lst [.int a, .int c]), .val (encB b)] = some (.val (encB b'), some (.lst [.int a', .int c'])))
    (s : Stm) (hs : okStm (d + 1) row s = true) (a c r : Int) (hr : r = 2 ∨ r = 3 ∨ r = 4) (v1 v2 v5 v6 : Slot) :
    ∃ s', okStm (d + 1) row s' = true ∧ (flatS s').length ≤ (flatS s).length ∧ ∃ (a' c' : Int) (s7 : Slot), evS (runF T G W (k + 2)) G W bentMid [.lnt (.lst [.int a, .int c]), v1, v2, .val (.int r), .val (encS s), v5, v6, .emp] =
      some (.nx [.lnt (.lst [.int a', .int c']), v1, v2, .val (.int r), .val (encS s'), v5, v6, s7]) := by
  cases s with
  | iff t x y =>
    have hs' : (okTst row t && okBody d row x && okBody d row y) = true := hs
    simp only [Bool.and_eq_true] at hs'
    obtain ⟨⟨ht, hx⟩, hy⟩ := hs'
    by_cases c2 : r = 2
    · subst c2
      obtain ⟨q, a1, c1, h1⟩ := of_two A (W := W) k a c (encT .kept) (encT (.flag false))
      refine ⟨.iff (if q then .kept else .flag false) x y, ?_, by simp [flatS], a1, c1, .emp, ?_⟩
      · show (okTst row _ && okBody d row x && okBody d row y) = true
        rw [hx, hy]; cases q <;> rfl
      · rw [encS_iff, encS_iff]
        cases q <;> simp [encT, pq] at h1 ⊢ <;> simp [h1, slop_t, cut, cutP]
    · have c2' : (r == 2) = false := by simpa using c2
      obtain ⟨r2, a1, c1, h1, p0, p1⟩ := draw_run A (W := W) (k + 1) a c 2 (by decide) (by decide)
      have : r2 = 0 ∨ r2 = 1 := by omega
      rcases this with e | e <;> subst e
      · obtain ⟨x', hx', lx, a2, c2, h2⟩ := ih x hx a1 c1
        refine ⟨.iff t x' y, ?_, by simp [flatS]; omega, a2, c2, .val (.int 2), ?_⟩
        · show (okTst row t && okBody d row x' && okBody d row y) = true
          rw [ht, hx', hy]; rfl
        · rw [encS_iff, encS_iff]
          simp [c2', h1, h2, slop_t, cut, cutP]
      · obtain ⟨x', hx', lx, a2, c2, h2⟩ := ih y hy a1 c1
        refine ⟨.iff t x x', ?_, by simp [flatS]; omega, a2, c2, .val (.int 3), ?_⟩
        · show (okTst row t && okBody d row x && okBody d row x') = true
          rw [ht, hx, hx']; rfl
        · rw [encS_iff, encS_iff]
          simp [c2', h1, h2, slop_t, cut, cutP]
  | total y =>
    obtain ⟨q, a1, c1, h1⟩ := of_two A (W := W) k a c (.str [120]) (.str [121])
    refine ⟨.total (!q), rfl, by simp [flatS], a1, c1, .emp, ?_⟩
    cases q <;> simp at h1 <;> simp [encS, xy, h1]
  | zero y =>
    obtain ⟨q, a1, c1, h1⟩ := of_two A (W := W) k a c (.str [120]) (.str [121])
    refine ⟨.zero (!q), rfl, by simp [flatS], a1, c1, .emp, ?_⟩
    cases q <;> simp at h1 <;> simp [encS, xy, h1]
  | item => exact ⟨_, hs, Nat.le_refl _, a, c, .emp, by simp [encS]⟩
  | keep => exact ⟨_, hs, Nat.le_refl _, a, c, .emp, by simp [encS]⟩
  | head _ => exact ⟨_, hs, Nat.le_refl _, a, c, .emp, by simp [encS]⟩
  | mark _ => exact ⟨_, hs, Nat.le_refl _, a, c, .emp, by simp [encS]⟩
  | up _ => exact ⟨_, hs, Nat.le_refl _, a, c, .emp, by simp [encS]⟩
  | down _ => exact ⟨_, hs, Nat.le_refl _, a, c, .emp, by simp [encS]⟩
  | add _ => exact ⟨_, hs, Nat.le_refl _, a, c, .emp, by simp [encS]⟩
end
end BP

set_option maxRecDepth 100000
set_option maxHeartbeats 4000000
/-! Bent bodies, whole. -/
namespace BP
theorem eqvs_mid (p : List D) (x : D) (q : List D) : D.eqvs (p ++ x :: q) [] = false := by cases p <;> rfl
theorem okBody_mem {d : Nat} {row : Bool} {b : List Stm} (h : okBody d row b = true) : ∀ s ∈ b, okStm d row s = true := by
  unfold okBody at h
  simp only [Bool.and_eq_true, decide_eq_true_eq, List.all_eq_true] at h
  exact h.2
theorem okBody_of {d : Nat} {row : Bool} {b : List Stm} (h : b.length ≤ 8) (h2 : ∀ s ∈ b, okStm d row s = true) : okBody d row b = true := by
  unfold okBody
  simp only [Bool.and_eq_true, decide_eq_true_eq, List.all_eq_true]
  exact ⟨h, h2⟩
theorem cutP_pos (n d : Nat) (v : Int) (h : ¬ v < 0) : cutP n d (some v) = min v.toNat n := by
  show (if v < 0 then _ else _) = _
  rw [if_neg h]
theorem cut_lo (p : List D) (x : D) (q : List D) (n : Nat) (hn : n = p.length) : cut (p ++ x :: q) none (some (n : Int)) = p := by
  subst hn
  unfold cut
  rw [cutP_pos _ _ _ (by omega)]
  simp [cutP]
theorem cut_hi (p : List D) (x : D) (q : List D) (n : Nat) (hn : n = p.length) : cut (p ++ x :: q) (some ((n : Int) + 1)) none = q := by
  subst hn
  unfold cut
  rw [cutP_pos _ _ _ (by omega)]
  have e : ((p.length : Int) + 1).toNat = p.length + 1 := by omega
  simp [e, cutP]
  exact List.take_of_length_le (by omega)
theorem cut_n0 : cut ([] : List D) none (some 1) = [] := rfl
theorem cut_n1 : cut ([] : List D) (some 1) none = [] := rfl
theorem cut_c0 (x : D) (r : List D) : cut (x :: r) none (some 1) = [x] := by simp [cut, cutP]
theorem cut_c1 (x : D) (r : List D) : cut (x :: r) (some 1) none = r := by simp [cut, cutP]
theorem ix_mid (p : List D) (x : D) (q : List D) (n : Nat) (hn : n = p.length) : ixL (p ++ x :: q) (n : Int) = some x := by
  subst hn
  rw [ixL_nat]; simp
section
variable {T : Nat → Option Def} {G : Nat → Option D} {W : Nat} (A : LawT T G)
include A
theorem gbent_run : ∀ (d k : Nat) (row : Bool), d + 2 ≤ k → d ≤ 10 → ∀ (b : List Stm), okBody d row b = true → ∀ a c : Int,
    ∃ b', okBody d row b' = true ∧ (flatB b').length ≤ (flatB b).length ∧ ∃ a' c' : Int, runF T G W (k + 1) 27 [.lnt (.lst [.int a, .int c]), .val (encB b)] = some (.val (encB b'), some (.lst [.int a', .int c'])) := by
  intro d
  induction d with
  | zero =>
    intro k row hk _ b hb a c
    cases b with
    | nil =>
      refine ⟨[], rfl, Nat.le_refl _, a, c, ?_⟩
      rw [runF_fn A.t27 _ rfl (by decide)]
      simp [start, encB, D.eqvs]
    | cons s b =>
      have := okBody_mem hb s List.mem_cons_self
      simp [okStm] at this
  | succ d ih =>
    intro k row hk h10 b hb a c
    obtain ⟨k, rfl⟩ : ∃ k', k = k' + 2 := ⟨k - 2, by omega⟩
    cases hbb : b with
    | nil =>
      refine ⟨[], rfl, Nat.le_refl _, a, c, ?_⟩
      rw [runF_fn A.t27 _ rfl (by decide)]
      simp [start, encB, D.eqvs]
    | cons s0 b0 =>
      rw [← hbb]
      have hlen := okBody_len hb
      have hpos : 0 < b.length := by rw [hbb]; simp
      obtain ⟨r, a1, c1, hr, p0, p1⟩ := draw_run A (W := W) (k + 1) a c b.length (by omega) (by omega)
      obtain ⟨n, rfl⟩ := Int.eq_ofNat_of_zero_le p0
      have hn : n < b.length := by omega
      obtain ⟨pre, s, post, eb, hpn⟩ : ∃ pre s post, b = pre ++ s :: post ∧ n = pre.length := ⟨b.take n, b[n], b.drop (n + 1), by simp, by simp; omega⟩
      clear hbb
      subst eb
      obtain ⟨w, a2, c2, hw, w0, w1⟩ := draw_run A (W := W) (k + 1) a1 c1 5 (by decide) (by decide)
      have hok := okBody_mem hb
      have hoke : okEq (.tup (pre.map encS ++ encS s :: post.map encS)) = true := by
        have := (okBody_all hb).2.2
        refine decide_eq_true (show D.dep _ ≤ 64 from ?_)
        unfold encB at this
        simp only [List.map_append, List.map_cons] at this
        omega
      have e1 := cut_lo (pre.map encS) (encS s) (post.map encS) n (by simp [hpn])
      have e2 := cut_hi (pre.map encS) (encS s) (post.map encS) n (by simp [hpn])
      have e3 := ix_mid (pre.map encS) (encS s) (post.map encS) n (by simp [hpn])
      have e4 := eqvs_mid (pre.map encS) (encS s) (post.map encS)
      simp only [List.length_append, List.length_cons] at hlen hr
      have l1 : pre.length + post.length ≤ 16777216 := by omega
      have l2 : pre.length + (post.length + 1) ≤ 16777216 := by omega
      have l3 : pre.length + 1 + post.length ≤ 16777216 := by omega
      have l4 : pre.length + 1 ≤ 16777216 := by omega
      have l5 : pre.length ≤ 16777216 := by omega
      have cs : w = 0 ∨ w = 1 ∨ (w = 2 ∨ w = 3 ∨ w = 4) := by omega
      rcases cs with e | e | e
      · subst e
        refine ⟨pre ++ post, okBody_of (by simp; omega) (fun x hx => hok x ?_), by simp [flatB_app, flatB], a2, c2, ?_⟩
        · rcases List.mem_append.mp hx with h | h <;> simp [h]
        · rw [runF_fn A.t27 _ rfl (by decide)]
          unfold encB
          simp [start, hoke, e1, e2, e3, e4, slop_t, hw, l1] at hr ⊢
          simp [hr, hoke, e1, e2, e3, e4, slop_t, hw, l1]
      · subst e
        cases post with
        | nil =>
          refine ⟨pre ++ [s], hb, Nat.le_refl _, a2, c2, ?_⟩
          rw [runF_fn A.t27 _ rfl (by decide)]
          unfold encB
          simp [start, hoke, e1, e2, e3, e4, slop_t, hw] at hr ⊢
          simp at e1 e2 e3 e4 hoke
          simp [hr, hoke, e1, e2, e3, e4, slop_t, hw, l4, l5, cut_n0, cut_n1]
        | cons q post =>
          refine ⟨pre ++ q :: s :: post, okBody_of (by simp at hlen ⊢; omega) (fun x hx => hok x ?_), by simp [flatB_app, flatB]; omega, a2, c2, ?_⟩
          · simp at hx ⊢; rcases hx with h | h | h | h <;> simp [h]
          · rw [runF_fn A.t27 _ rfl (by decide)]
            have l6 : pre.length + 1 + 1 ≤ 16777216 := by omega
            have l7 : pre.length + 1 + 1 + post.length ≤ 16777216 := by simp at hlen; omega
            unfold encB
            simp [start, hoke, e1, e2, e3, e4, slop_t, hw] at hr ⊢
            simp at e1 e2 e3 e4 hoke
            simp [hr, hoke, e1, e2, e3, e4, slop_t, hw, l4, l6, l7, cut_c0, cut_c1]
      · have hss : okStm (d + 1) row s = true := hok s (by simp)
        obtain ⟨s', hs', hfl, a3, c3, s7, hmid⟩ := mid_run A (W := W) (k := k) (row := row) (d := d) (fun b hb a c => ih (k + 1) row (by omega) (by omega) b hb a c) s hss a2 c2 w e
          (.val (encB (pre ++ s :: post))) (.val (.int n)) (.val (.tup (pre.map encS))) (.val (.tup (post.map encS)))
        refine ⟨pre ++ s' :: post, okBody_of (by simp; omega) (fun x hx => ?_), by simp [flatB_app, flatB]; omega, a3, c3, ?_⟩
        · simp at hx
          rcases hx with h | h | h
          · exact hok x (by simp [h])
          · rw [h]; exact hs'
          · exact hok x (by simp [h])
        · rw [runF_fn A.t27 _ rfl (by decide)]
          have hn0 : (w == 0) = false := by rcases e with e | e | e <;> subst e <;> rfl
          have hn1 : (w == 1) = false := by rcases e with e | e | e <;> subst e <;> rfl
          have hhead : evSs (runF T G W (k + 2)) G W bentHead (start 8 [.lnt (.lst [.int a, .int c]), .val (encB (pre ++ s :: post))]) =
              some (.nx [.lnt (.lst [.int a2, .int c2]), .val (encB (pre ++ s :: post)), .val (.int n), .val (.int w), .val (encS s), .val (.tup (pre.map encS)), .val (.tup (post.map encS)), .emp]) := by
            unfold encB
            simp [start, hoke, e1, e2, e3, e4, slop_t, hw, hn0, hn1] at hr ⊢
            simp [hr, hoke, e1, e2, e3, e4, slop_t, hw, hn0, hn1]
          show endO _ (evSs _ _ _ (bentHead ++ [bentMid, bentRet]) _) = _
          rw [ss_app, hhead, sK_nx, ss_cons, hmid, sK_nx]
          unfold encB
          simp [l2, l4, l3]
end
end BP

set_option maxRecDepth 100000
set_option maxHeartbeats 4000000
/-! Comprehensions that draw; near programs, any programs. -/
namespace BP
def All2 (Q : D → D → Prop) : List D → List D → Prop
  | [], [] => True
  | x :: xs, y :: ys => Q x y ∧ All2 Q xs ys
  | _, _ => False
theorem compLoop_src {f : D → Env → Option (List D × Env)} {w : Env} {Q : D → D → Prop} : ∀ (xs : List D) (acc : List D) (a b : Int),
    (∀ x ∈ xs, ∀ a b : Int, ∃ (y : D) (a' b' : Int), f x (.lnt (.lst [.int a, .int b]) :: w) = some ([y], .lnt (.lst [.int a', .int b']) :: w) ∧ Q x y) → acc.length + xs.length ≤ lineN →
    ∃ (ys : List D) (a' b' : Int), compLoop f xs (.lnt (.lst [.int a, .int b]) :: w) acc = some (acc ++ ys, .lnt (.lst [.int a', .int b']) :: w) ∧ All2 Q xs ys
  | [], acc, a, b, _, _ => ⟨[], a, b, by simp [compLoop], trivial⟩
  | x :: xs, acc, a, b, h, hl => by
    obtain ⟨y, a1, b1, h1, q⟩ := h x List.mem_cons_self a b
    simp only [List.length_cons] at hl
    obtain ⟨ys, a2, b2, h2, qs⟩ := compLoop_src xs (acc ++ [y]) a1 b1 (fun x hx => h x (List.mem_cons_of_mem _ hx)) (by simp only [List.length_append, List.length_cons, List.length_nil]; omega)
    refine ⟨y :: ys, a2, b2, ?_, q, qs⟩
    unfold compLoop
    rw [h1]
    simp only [List.length_cons, List.length_nil]
    rw [if_pos (by simp only [lineN_num] at *; omega), h2]
    simp
section
variable {T : Nat → Option Def} {G : Nat → Option D} {W : Nat}
theorem comp_src {k : Nat} {m : E} {i : Nat} {it : It} (rest w : Env) (xs : List D) (Q : D → D → Prop) (a b : Int) (hi : evI (runF T G W k) G it (.lnt (.lst [.int a, .int b]) :: rest) = some (xs, .lnt (.lst [.int a, .int b]) :: rest))
    (hwipe : ∀ s, wipeE [i + 1] 0 (s :: rest) = s :: w)
    (hf : ∀ x ∈ xs, ∀ a b : Int, ∃ (y : D) (a' b' : Int), evE (runF T G W k) G m (.lnt (.lst [.int a, .int b]) :: put w i (.val x)) = some (.val y, .lnt (.lst [.int a', .int b']) :: put w i (.val x)) ∧ Q x y)
    (ht : isThing (get rest i) = false) (hg : get w i = .emp) (hw2 : ∀ d s, wipeE [i + 1] 0 (s :: put w i (.val d)) = s :: w) (hg2 : ∀ d, isThing (get (put w i (.val d)) i) = false)
    (hb : ∀ s s', back [i + 1] 0 (s :: rest) (s' :: w) = s' :: rest) (hl : xs.length ≤ lineN) :
    ∃ (ys : List D) (a' b' : Int), evE (runF T G W k) G (.comp m (.nm (i + 1)) it []) (.lnt (.lst [.int a, .int b]) :: rest) = some (.own (.lst ys), .lnt (.lst [.int a', .int b']) :: rest) ∧ All2 Q xs ys := by
  have key : ∀ x ∈ xs, ∀ a b : Int, ∃ (y : D) (a' b' : Int), (match asg (.nm (i + 1)) x (.lnt (.lst [.int a, .int b]) :: w) with
        | some ρ => match evCs (runF T G W k) G [] ρ with
          | some (true, ρ) => bV (evE (runF T G W k) G m ρ) fun y ρ => addR [y] (wipeC (Tg.slots (.nm (i + 1))) ρ)
          | some (false, ρ) => addR [] (wipeC (Tg.slots (.nm (i + 1))) ρ)
          | none => none
        | none => none) = some ([y], .lnt (.lst [.int a', .int b']) :: w) ∧ Q x y := by
    intro x hx a b
    obtain ⟨y, a', b', h, q⟩ := hf x hx a b
    refine ⟨y, a', b', ?_, q⟩
    have e1 : asg (.nm (i + 1)) x (.lnt (.lst [.int a, .int b]) :: w) = some (.lnt (.lst [.int a, .int b]) :: put w i (.val x)) := by simp [hg]
    rw [e1]
    have e2 : ∀ ρ, evCs (runF T G W k) G [] ρ = some (true, ρ) := fun _ => rfl
    simp only [e2]
    rw [h]
    have hg3 := hg2 x
    simp [wipeC, Tg.slots, hg3, hw2, addR]
  obtain ⟨ys, a', b', h, q⟩ := compLoop_src (f := fun d ρ => match asg (.nm (i + 1)) d ρ with
        | some ρ => match evCs (runF T G W k) G [] ρ with
          | some (true, ρ) => bV (evE (runF T G W k) G m ρ) fun y ρ => addR [y] (wipeC (Tg.slots (.nm (i + 1))) ρ)
          | some (false, ρ) => addR [] (wipeC (Tg.slots (.nm (i + 1))) ρ)
          | none => none
        | none => none) (w := w) (Q := Q) xs [] a b key (by simpa using hl)
  refine ⟨ys, a', b', ?_, q⟩
  unfold evE
  rw [hi]
  have c1 : ((Tg.slots (.nm (i + 1))).all fun v => !isThing (get (.lnt (.lst [.int a, .int b]) :: rest) v)) = true := by simp [Tg.slots, ht]
  have c2 : decide (Tg.slots (.nm (i + 1))).Nodup = true := by simp [Tg.slots]
  have hw : wipeE (Tg.slots (.nm (i + 1))) 0 (.lnt (.lst [.int a, .int b]) :: rest) = .lnt (.lst [.int a, .int b]) :: w := hwipe _
  simp only [c1, c2, Bool.and_true, if_true]
  rw [hw]
  erw [h]
  have hb2 := hb (.lnt (.lst [.int a, .int b])) (.lnt (.lst [.int a', .int b']))
  simp [Tg.slots, hb2]
end
section
variable {T : Nat → Option Def} {G : Nat → Option D} {W : Nat} (A : LawT T G)
include A
theorem gnear_run (k : Nat) (hk : 7 ≤ k) (p : Prog) (ok : okProg p = true) (a b : Int) : ∃ p', okProg p' = true ∧ ∃ a' b' : Int, runF T G W (k + 1) 28 [.lnt (.lst [.int a, .int b]), .val (encP p)] = some (.val (encP p'), some (.lst [.int a', .int b'])) := by
  obtain ⟨k, rfl⟩ : ∃ k', k = k' + 2 := ⟨k - 2, by omega⟩
  obtain ⟨d, hd, a1, b1, h1⟩ := of_run A (W := W) k a b [.int 0, .int 1, .int 1, .int 1, .int 2] (by decide) (by decide)
  have hd : d = .int 0 ∨ d = .int 1 ∨ d = .int 2 := by
    simp only [List.mem_cons, List.not_mem_nil, or_false] at hd
    rcases hd with e | e | e | e | e <;> simp [e]
  have ok' := ok
  unfold okProg at ok'
  simp only [Bool.and_eq_true, decide_eq_true_eq] at ok'
  obtain ⟨⟨⟨ha, hb⟩, hc⟩, hn⟩ := ok'
  rw [all_parts] at hn
  rw [runF_fn A.t28 _ rfl (by decide)]
  rcases hd with e | e | e <;> subst e
  · obtain ⟨x, hx, lx, a2, b2, h2⟩ := gbent_run A (W := W) 4 (k + 1) false (by omega) (by omega) p.a ha a1 b1
    refine ⟨⟨x, p.b, p.c⟩, ?_, a2, b2, ?_⟩
    · unfold okProg
      simp only [Bool.and_eq_true, decide_eq_true_eq, all_parts]
      exact ⟨⟨⟨hx, hb⟩, hc⟩, by omega⟩
    · unfold encP
      simp [start, h1, h2, slop_t, cut, cutP]
  · obtain ⟨x, hx, lx, a2, b2, h2⟩ := gbent_run A (W := W) 4 (k + 1) true (by omega) (by omega) p.b hb a1 b1
    refine ⟨⟨p.a, x, p.c⟩, ?_, a2, b2, ?_⟩
    · unfold okProg
      simp only [Bool.and_eq_true, decide_eq_true_eq, all_parts]
      exact ⟨⟨⟨ha, hx⟩, hc⟩, by omega⟩
    · unfold encP
      simp [start, h1, h2, slop_t, cut, cutP]
  · obtain ⟨x, hx, lx, a2, b2, h2⟩ := gbent_run A (W := W) 4 (k + 1) false (by omega) (by omega) p.c hc a1 b1
    refine ⟨⟨p.a, p.b, x⟩, ?_, a2, b2, ?_⟩
    · unfold okProg
      simp only [Bool.and_eq_true, decide_eq_true_eq, all_parts]
      exact ⟨⟨⟨ha, hb⟩, hx⟩, by omega⟩
    · unfold encP
      simp [start, h1, h2, slop_t, cut, cutP]
end
end BP

set_option maxRecDepth 100000
set_option maxHeartbeats 4000000
/-! Layouts; any programs; the source. -/
namespace BP
def encO : Option (List Nat) → D
  | none => .non
  | some s => .str s
def okO : Option (List Nat) → Prop
  | none => True
  | some s => okSign s = true
theorem asg_tt (ts : List Tg) (ds : List D) (ρ : Env) : asg (.tp ts) (.tup ds) ρ = asgs ts ds ρ := rfl
theorem asg_tl (ts : List Tg) (ds : List D) (ρ : Env) : asg (.tp ts) (.lst ds) ρ = asgs ts ds ρ := rfl
theorem asgs_0 (ρ : Env) : asgs [] [] ρ = some ρ := rfl
theorem asgs_c (t : Tg) (ts : List Tg) (d : D) (ds : List D) (ρ : Env) : asgs (t :: ts) (d :: ds) ρ = (asg t d ρ).bind fun ρ => asgs ts ds ρ := rfl
theorem ok_up : ∀ (d : Nat) (row : Bool) (s : Stm), okStm d row s = true → okStm (d + 1) row s = true
  | 0, _, _, h => by simp [okStm] at h
  | d + 1, row, s, h => by
    cases s with
    | iff t a b =>
      have h : (okTst row t && (decide (a.length ≤ 8) && a.all (okStm d row)) && (decide (b.length ≤ 8) && b.all (okStm d row))) = true := h
      show (okTst row t && (decide (a.length ≤ 8) && a.all (okStm (d + 1) row)) && (decide (b.length ≤ 8) && b.all (okStm (d + 1) row))) = true
      simp only [Bool.and_eq_true, decide_eq_true_eq, List.all_eq_true] at h ⊢
      exact ⟨⟨h.1.1, h.1.2.1, fun s hs => ok_up d row s (h.1.2.2 s hs)⟩, h.2.1, fun s hs => ok_up d row s (h.2.2 s hs)⟩
    | _ => exact h
theorem all2_3 {Q : D → D → Prop} {x y z : D} : ∀ {ys : List D}, All2 Q [x, y, z] ys → ∃ u v w, ys = [u, v, w] ∧ Q x u ∧ Q y v ∧ Q z w
  | [], h => h.elim
  | [_], h => h.2.elim
  | [_, _], h => h.2.2.elim
  | [u, v, w], h => ⟨u, v, w, rfl, h.1, h.2.1, h.2.2.1⟩
  | _ :: _ :: _ :: _ :: _, h => h.2.2.2.elim
theorem rng3 {T : Nat → Option Def} {G : Nat → Option D} {W k : Nat} (ρ : Env) : evI (runF T G W k) G (.rng (.cst (.int 3))) ρ = some ([.int 0, .int 1, .int 2], ρ) := by
  simp [small62, rangeD, List.range, List.range.loop]
section
variable {T : Nat → Option Def} {G : Nat → Option D} {W : Nat} (A : LawT T G)
include A
theorem layout_run (k : Nat) (a b : Int) : ∃ (h t g : Bool) (si so se : Option (List Nat)), okO si ∧ okO so ∧ okO se ∧ ∃ a' b' : Int,
    runF T G W (k + 4) 21 [.lnt (.lst [.int a, .int b])] = some (.val (.tup [.bl h, encO si, .bl t, encO so, .bl g, encO se]), some (.lst [.int a', .int b'])) := by
  obtain ⟨ys, a1, b1, h1, q1⟩ := comp_src (T := T) (G := G) (W := W) (k := k + 3) (m := .call 19 [(.lent 0), (.lst [(.cst .non), (.cst .non), (.cst (.str [44])), (.cst (.str [44])), (.call 20 [(.lent 0)])])]) (i := 4) (it := .rng (.cst (.int 3)))
    [.emp, .emp, .emp, .emp, .emp] [.emp, .emp, .emp, .emp, .emp] [.int 0, .int 1, .int 2] (fun _ y => ∃ o, y = encO o ∧ okO o) a b (rng3 _) (fun s => rfl) (fun x _ a b => by
      obtain ⟨s, hs, a1, b1, h1⟩ := gsign_run A (W := W) k a b
      obtain ⟨d, hd, a2, b2, h2⟩ := of_run A (W := W) (k + 1) a1 b1 [.non, .non, .str [44], .str [44], .str s] (by simp) (by simp)
      refine ⟨d, a2, b2, by simp [h1, h2], ?_⟩
      simp only [List.mem_cons, List.not_mem_nil, or_false] at hd
      rcases hd with e | e | e | e | e
      · exact ⟨none, e, trivial⟩
      · exact ⟨none, e, trivial⟩
      · exact ⟨some _, e, by unfold okO; decide⟩
      · exact ⟨some _, e, by unfold okO; decide⟩
      · exact ⟨some _, e, hs⟩) rfl rfl (fun _ _ => rfl) (fun _ => rfl) (fun _ _ => rfl) (by simp)
  obtain ⟨u, v, w, rfl, ⟨si, rfl, qi⟩, ⟨so, rfl, qo⟩, ⟨se, rfl, qe⟩⟩ := all2_3 q1
  obtain ⟨zs, a2, b2, h2, q2⟩ := comp_src (T := T) (G := G) (W := W) (k := k + 3) (m := .cmp .eq (.call 18 [(.lent 0), (.cst (.int 2))]) (.cst (.int 0))) (i := 4) (it := .rng (.cst (.int 3)))
    [.val (.lst [encO si, encO so, encO se]), .emp, .emp, .emp, .emp] [.val (.lst [encO si, encO so, encO se]), .emp, .emp, .emp, .emp] [.int 0, .int 1, .int 2] (fun _ y => ∃ q, y = .bl q) a1 b1 (rng3 _) (fun s => rfl) (fun x _ a b => by
      obtain ⟨r, a1, b1, h1, _⟩ := draw_run A (W := W) (k + 2) a b 2 (by decide) (by decide)
      exact ⟨.bl (r == 0), a1, b1, by simp [h1], _, rfl⟩) rfl rfl (fun _ _ => rfl) (fun _ => rfl) (fun _ _ => rfl) (by simp)
  obtain ⟨u, v, w, rfl, ⟨h, rfl⟩, ⟨t, rfl⟩, ⟨g, rfl⟩⟩ := all2_3 q2
  refine ⟨h, t, g, si, so, se, qi, qo, qe, a2, b2, ?_⟩
  rw [runF_fn A.t21 _ rfl (by decide)]
  simp [start, h1, h2, asg_tl, asgs_0, asgs_c]
theorem any_run (k : Nat) (a b : Int) : ∃ p, okProg p = true ∧ ∃ a' b' : Int, runF T G W (k + 9) 29 [.lnt (.lst [.int a, .int b])] = some (.val (encP p), some (.lst [.int a', .int b'])) := by
  obtain ⟨ys, a1, b1, h1, q1⟩ := comp_src (T := T) (G := G) (W := W) (k := k + 8) (m := .call 24 [(.lent 0), (.cmp .eq (.var 2) (.cst (.int 1))), (.cst (.int 3)), (.ix (.lst [(.cst (.int 2)), (.cst (.int 6)), (.cst (.int 3))]) (.var 2))]) (i := 1) (it := .rng (.cst (.int 3)))
    [.emp, .emp, .emp] [.emp, .emp, .emp] [.int 0, .int 1, .int 2] (fun x y => ∃ c, y = encB c ∧ okBody 3 (D.eqv x (.int 1)) c = true) a b (rng3 _) (fun s => rfl) (fun x hx a b => by
      simp only [List.mem_cons, List.not_mem_nil, or_false] at hx
      rcases hx with e | e | e <;> subst e
      · obtain ⟨c, hc, _, a1, b1, h1⟩ := gbody_run A (W := W) 2 (k + 8) false 2 (by omega) (by omega) a b
        exact ⟨_, a1, b1, by simp at h1; simp [h1], c, rfl, by simpa using hc⟩
      · obtain ⟨c, hc, _, a1, b1, h1⟩ := gbody_run A (W := W) 2 (k + 8) true 6 (by omega) (by omega) a b
        exact ⟨_, a1, b1, by simp at h1; simp [h1], c, rfl, by simpa using hc⟩
      · obtain ⟨c, hc, _, a1, b1, h1⟩ := gbody_run A (W := W) 2 (k + 8) false 3 (by omega) (by omega) a b
        exact ⟨_, a1, b1, by simp at h1; simp [h1], c, rfl, by simpa using hc⟩) rfl rfl (fun _ _ => rfl) (fun _ => rfl) (fun _ _ => rfl) (by simp)
  obtain ⟨u, v, w, rfl, ⟨x, rfl, qx⟩, ⟨y, rfl, qy⟩, ⟨z, rfl, qz⟩⟩ := all2_3 q1
  have qx : okBody 3 false x = true := qx
  have qy : okBody 3 true y = true := qy
  have qz : okBody 3 false z = true := qz
  have hx := (okBody_all qx).2.1
  have hy := (okBody_all qy).2.1
  have hz := (okBody_all qz).2.1
  have sz : ∀ b, dpB b ≤ 3 → runF T G W (k + 8) 25 [.val (encB b)] = some (.val (.int (flatB b).length), none) := fun b hb => size_run (G := G) (W := W) A.t25 3 (k + 8) b hb (by omega)
  have hc : evE (runF T G W (k + 8)) G (.comp (.call 25 [(.var 3)]) (.nm 3) (.seq (.var 1)) []) [.lnt (.lst [.int a1, .int b1]), .val (.tup [encB x, encB y, encB z]), .emp, .emp] =
      some (.own (.lst ([x, y, z].map fun b => .int (flatB b).length)), [.lnt (.lst [.int a1, .int b1]), .val (.tup [encB x, encB y, encB z]), .emp, .emp]) := by
    refine comp_one (enc := encB) (g := fun b => .int (flatB b).length) [x, y, z] (by simp) rfl (fun b hb => ?_) (fun d => rfl) rfl rfl (fun d => rfl) (by simp)
    have hb2 : dpB b ≤ 3 := by
      simp only [List.mem_cons, List.not_mem_nil, or_false] at hb
      rcases hb with e | e | e <;> rw [e] <;> assumption
    simp [wipeE, sz b hb2]
  simp only [List.map_cons, List.map_nil] at hc
  have hs : sumD [D.int (flatB x).length, D.int (flatB y).length, D.int (flatB z).length] = some (((flatB x).length : Int) + (flatB y).length + (flatB z).length) := by
    simp [sumD]; try omega
  have up : ∀ row (c : List Stm), okBody 3 row c = true → okBody 4 row c = true := fun row c h => okBody_of (okBody_len h) fun s hs => ok_up 3 row s (okBody_mem h s hs)
  by_cases c24 : (flatB x).length + (flatB y).length + (flatB z).length ≤ 24
  · refine ⟨⟨x, y, z⟩, ?_, a1, b1, ?_⟩
    · unfold okProg
      simp only [Bool.and_eq_true, decide_eq_true_eq, all_parts]
      exact ⟨⟨⟨up _ _ qx, up _ _ qy⟩, up _ _ qz⟩, c24⟩
    · rw [runF_fn A.t29 _ rfl (by decide)]
      have c24' : ¬ (24 : Int) < ((flatB x).length : Int) + (flatB y).length + (flatB z).length := by omega
      unfold encP
      simp [start, h1, hc, hs, c24']
  · refine ⟨⟨[], [.item, .add false], [.total false]⟩, by decide, a1, b1, ?_⟩
    rw [runF_fn A.t29 _ rfl (by decide)]
    have c24' : (24 : Int) < ((flatB x).length : Int) + (flatB y).length + (flatB z).length := by omega
    have e : encP ⟨[], [.item, .add false], [.total false]⟩ = .tup [.tup [], .tup [.tup [.str [105, 116, 101, 109]], .tup [.str [97, 100, 100], .str [120]]], .tup [.tup [.str [116, 111, 116, 97, 108], .str [120]]]] := by
      simp [encP, encB, encS, xy]
    rw [e]
    simp [start, h1, hc, hs, c24']
end
end BP

set_option maxRecDepth 100000
set_option maxHeartbeats 4000000
/-! Written programs. -/
namespace BP
abbrev w0 : S := .set (.tp [(.nm 2), (.nm 3), (.nm 4), (.nm 5), (.nm 6), (.nm 7)]) (.var 1)
abbrev w1 : S := .set (.tp [(.nm 8), (.nm 9)]) (.call 19 [(.lent 0), (.lst [(.tup [(.cst (.str [120])), (.cst (.str [121]))]), (.tup [(.cst (.str [121])), (.cst (.str [120]))])])])
abbrev w2 : S := .set (.nm 10) (.ite (.var 4) (.tup [(.tup [(.cst (.str [116, 111, 116, 97, 108])), (.var 8)])]) (.tup []))
abbrev w3 : S := .set (.nm 11) (.tup [(.tup [(.cst (.str [105, 102])), (.tup [(.cst (.str [107, 101, 112, 116]))]), (.bin .add (.var 10) (.ite (.isn true (.var 5)) (.tup [(.tup [(.cst (.str [109, 97, 114, 107])), (.var 5)])]) (.tup []))), (.tup [])])])
abbrev w4 : S := .set (.nm 11) (.bin .add (.var 11) (.ite (.var 2) (.tup [(.tup [(.cst (.str [104, 101, 97, 100])), (.cst (.str [116, 104, 105, 115]))])]) (.tup [])))
abbrev w5 : S := .set (.nm 11) (.bin .add (.var 11) (.call 19 [(.lent 0), (.lst [(.tup [(.tup [(.cst (.str [122, 101, 114, 111])), (.var 8)]), (.tup [(.cst (.str [107, 101, 101, 112]))])]), (.tup [(.tup [(.cst (.str [107, 101, 101, 112]))]), (.tup [(.cst (.str [122, 101, 114, 111])), (.var 8)])])])]))
abbrev w6 : S := .set (.nm 12) (.ite (.isn true (.var 3)) (.tup [(.tup [(.cst (.str [109, 97, 114, 107])), (.var 3)])]) (.tup []))
abbrev w7 : S := .set (.nm 13) (.tup [(.tup [(.cst (.str [105, 102])), (.tup [(.cst (.str [110, 101, 119]))]), (.var 11), (.var 12)]), (.tup [(.cst (.str [105, 116, 101, 109]))])])
abbrev w8 : S := .set (.nm 13) (.bin .add (.var 13) (.call 19 [(.lent 0), (.lst [(.tup [(.tup [(.cst (.str [97, 100, 100])), (.var 8)]), (.tup [(.cst (.str [97, 100, 100])), (.var 9)])]), (.tup [(.tup [(.cst (.str [97, 100, 100])), (.var 9)]), (.tup [(.cst (.str [97, 100, 100])), (.var 8)])])])]))
abbrev w9 : S := .set (.nm 14) (.ite (.isn true (.var 7)) (.tup [(.tup [(.cst (.str [109, 97, 114, 107])), (.var 7)])]) (.tup []))
abbrev w10 : S := .set (.nm 15) (.ite (.var 6) (.tup [(.tup [(.cst (.str [116, 111, 116, 97, 108])), (.var 9)])]) (.tup []))
abbrev w11 : S := .iff (.cmp .eq (.call 18 [(.lent 0), (.cst (.int 2))]) (.cst (.int 0))) [.ret (.tup [(.tup []), (.var 13), (.bin .add (.tup [(.tup [(.cst (.str [105, 102])), (.tup [(.cst (.str [107, 101, 112, 116]))]), (.var 10), (.var 14)])]) (.var 15))])] []
abbrev w12 : S := .set (.nm 13) (.bin .add (.var 13) (.ite (.cmp .ne (.var 10) (.tup [])) (.tup [(.tup [(.cst (.str [105, 102])), (.tup [(.cst (.str [108, 97, 115, 116]))]), (.var 10), (.tup [])])]) (.tup [])))
abbrev w13 : S := .ret (.tup [(.tup [(.tup [(.cst (.str [100, 111, 119, 110])), (.cst (.str [112]))])]), (.bin .add (.var 13) (.tup [(.tup [(.cst (.str [117, 112])), (.cst (.str [112]))])])), (.bin .add (.tup [(.tup [(.cst (.str [105, 102])), (.tup [(.cst (.str [102, 108, 97, 103])), (.cst (.str [112]))]), (.tup []), (.var 14)])]) (.var 15))])
structure Okl (row : Bool) (d n m : Nat) (B : List Stm) : Prop where
  ok : ∀ s ∈ B, okStm d row s = true
  ln : B.length ≤ n
  fl : (flatB B).length ≤ m
theorem Okl.app {row : Bool} {d n m n' m' : Nat} {A B : List Stm} (h : Okl row d n m A) (h' : Okl row d n' m' B) : Okl row d (n + n') (m + m') (A ++ B) :=
  ⟨fun s hs => by rcases List.mem_append.mp hs with q | q; exact h.ok s q; exact h'.ok s q, by have := h.ln; have := h'.ln; simp; omega, by have := h.fl; have := h'.fl; simp [flatB_app]; omega⟩
theorem Okl.one {row : Bool} {d m : Nat} {s : Stm} (h : okStm d row s = true) (h2 : (flatS s).length ≤ m) : Okl row d 1 m [s] :=
  ⟨fun x hx => by have : x = s := by simpa using hx
                  rw [this]; exact h, by simp, by simpa [flatB] using h2⟩
theorem Okl.up {row : Bool} {d n m : Nat} {B : List Stm} (h : Okl row d n m B) : Okl row (d + 1) n m B := ⟨fun s hs => ok_up d row s (h.ok s hs), h.ln, h.fl⟩
theorem Okl.iff {row : Bool} {d n m n' m' : Nat} {t : Tst} {A B : List Stm} (ht : okTst row t = true) (h : Okl row d n m A) (h' : Okl row d n' m' B) (hn : n ≤ 8) (hn' : n' ≤ 8) : Okl row (d + 1) 1 (1 + m + m') [.iff t A B] := by
  have l1 := h.ln
  have l2 := h'.ln
  refine Okl.one ?_ ?_
  · have h1 := okBody_of (d := d) (row := row) (b := A) (by omega) h.ok
    have h2 := okBody_of (d := d) (row := row) (b := B) (by omega) h'.ok
    show (okTst row t && okBody d row A && okBody d row B) = true
    rw [ht, h1, h2]; rfl
  · have := h.fl; have := h'.fl; simp [flatS]; omega
theorem Okl.none {row : Bool} {d n m : Nat} : Okl row d n m [] := ⟨fun s hs => (by cases hs), by simp, by simp [flatB]⟩
def sgn : Option (List Nat) → List Stm
  | .none => []
  | some s => [.mark s]
theorem sgn_ok {row : Bool} {d : Nat} {o : Option (List Nat)} (h : okO o) : Okl row (d + 1) 1 1 (sgn o) := by
  cases o with
  | none => exact Okl.none
  | some s => exact Okl.one h (by simp [flatS])
theorem tot_ok {row : Bool} {d : Nat} {t x : Bool} : Okl row (d + 1) 1 1 (if t then [Stm.total x] else []) := by
  cases t
  · exact Okl.none
  · exact Okl.one rfl (by simp [flatS])
end BP

set_option maxRecDepth 100000
set_option maxHeartbeats 4000000
/-! Written programs, run. -/
namespace BP
section
variable {T : Nat → Option Def} {G : Nat → Option D} {W : Nat} (A : LawT T G)
include A
theorem written_run (k : Nat) (a b : Int) (h t g : Bool) (si so se : Option (List Nat)) (qi : okO si) (qo : okO so) (qe : okO se) : ∃ p, okProg p = true ∧ ∃ a' b' : Int,
    runF T G W (k + 3) 26 [.lnt (.lst [.int a, .int b]), .val (.tup [.bl h, encO si, .bl t, encO so, .bl g, encO se])] = some (.val (encP p), some (.lst [.int a', .int b'])) := by
  generalize hlay : D.tup [.bl h, encO si, .bl t, encO so, .bl g, encO se] = lay
  have r0 : evS (runF T G W (k + 2)) G W w0 [.lnt (.lst [.int a, .int b]), .val lay, .emp, .emp, .emp, .emp, .emp, .emp, .emp, .emp, .emp, .emp, .emp, .emp, .emp, .emp] =
      some (.nx [.lnt (.lst [.int a, .int b]), .val lay, .val (.bl h), .val (encO si), .val (.bl t), .val (encO so), .val (.bl g), .val (encO se), .emp, .emp, .emp, .emp, .emp, .emp, .emp, .emp]) := by
    subst hlay
    simp [asg_tt, asgs_0, asgs_c]
  obtain ⟨x, a1, b1, h1⟩ := of_two A (W := W) k a b (.tup [.str [120], .str [121]]) (.tup [.str [121], .str [120]])
  have r1 : evS (runF T G W (k + 2)) G W w1 [.lnt (.lst [.int a, .int b]), .val lay, .val (.bl h), .val (encO si), .val (.bl t), .val (encO so), .val (.bl g), .val (encO se), .emp, .emp, .emp, .emp, .emp, .emp, .emp, .emp] =
      some (.nx [.lnt (.lst [.int a1, .int b1]), .val lay, .val (.bl h), .val (encO si), .val (.bl t), .val (encO so), .val (.bl g), .val (encO se), .val (xy (!x)), .val (xy x), .emp, .emp, .emp, .emp, .emp, .emp]) := by
    cases x <;> simp at h1 <;> simp [h1, asg_tt, asgs_0, asgs_c, xy]
  obtain ⟨B, hB, hB'⟩ : ∃ B, B = (if t then [Stm.total (!x)] else []) ∧ ∀ row d, Okl row (d + 1) 1 1 B := ⟨_, rfl, fun row d => tot_ok⟩
  have r2 : evS (runF T G W (k + 2)) G W w2 [.lnt (.lst [.int a1, .int b1]), .val lay, .val (.bl h), .val (encO si), .val (.bl t), .val (encO so), .val (.bl g), .val (encO se), .val (xy (!x)), .val (xy x), .emp, .emp, .emp, .emp, .emp, .emp] =
      some (.nx [.lnt (.lst [.int a1, .int b1]), .val lay, .val (.bl h), .val (encO si), .val (.bl t), .val (encO so), .val (.bl g), .val (encO se), .val (xy (!x)), .val (xy x), .val (.tup (B.map encS)), .emp, .emp, .emp, .emp, .emp]) := by
    subst hB
    cases t <;> simp [encS]
  clear hB
  have lB := (hB' true 0).ln
  have lB1 : B.length + 1 ≤ 16777216 := by omega
  have lB0 : B.length ≤ 16777216 := by omega
  obtain ⟨F, hF, hF'⟩ : ∃ F, F = [Stm.iff .kept (B ++ sgn so) []] ∧ Okl true 2 1 3 F := ⟨_, rfl, by
    have := Okl.iff (t := .kept) rfl ((hB' true 0).app (sgn_ok (row := true) (d := 0) qo)) (Okl.none (n := 0) (m := 0)) (by decide) (by decide)
    exact this⟩
  have r3 : evS (runF T G W (k + 2)) G W w3 [.lnt (.lst [.int a1, .int b1]), .val lay, .val (.bl h), .val (encO si), .val (.bl t), .val (encO so), .val (.bl g), .val (encO se), .val (xy (!x)), .val (xy x), .val (.tup (B.map encS)), .emp, .emp, .emp, .emp, .emp] =
      some (.nx [.lnt (.lst [.int a1, .int b1]), .val lay, .val (.bl h), .val (encO si), .val (.bl t), .val (encO so), .val (.bl g), .val (encO se), .val (xy (!x)), .val (xy x), .val (.tup (B.map encS)), .val (.tup (F.map encS)), .emp, .emp, .emp, .emp]) := by
    subst hF
    cases so <;> simp [encO, isNon, sgn, lB0, lB1, encSs_map, encT, encS]
  clear hF
  have lF := hF'.ln
  obtain ⟨F1, hF1, hF1'⟩ : ∃ F1, F1 = F ++ (if h then [Stm.head true] else []) ∧ Okl true 2 2 4 F1 := ⟨_, rfl, by
    have : Okl true 2 1 1 (if h then [Stm.head true] else []) := by
      cases h
      · exact Okl.none
      · exact Okl.one rfl (by simp [flatS])
    exact hF'.app this⟩
  have lF1 : F.length + 1 ≤ 16777216 := by omega
  have lF0 : F.length ≤ 16777216 := by omega
  have r4 : evS (runF T G W (k + 2)) G W w4 [.lnt (.lst [.int a1, .int b1]), .val lay, .val (.bl h), .val (encO si), .val (.bl t), .val (encO so), .val (.bl g), .val (encO se), .val (xy (!x)), .val (xy x), .val (.tup (B.map encS)), .val (.tup (F.map encS)), .emp, .emp, .emp, .emp] =
      some (.nx [.lnt (.lst [.int a1, .int b1]), .val lay, .val (.bl h), .val (encO si), .val (.bl t), .val (encO so), .val (.bl g), .val (encO se), .val (xy (!x)), .val (xy x), .val (.tup (B.map encS)), .val (.tup (F1.map encS)), .emp, .emp, .emp, .emp]) := by
    subst hF1
    cases h <;> simp [lF0, lF1, encS]
  clear hF1
  have lF2 := hF1'.ln
  have lF3 : F1.length + 2 ≤ 16777216 := by omega
  obtain ⟨z, a2, b2, h2⟩ := of_two A (W := W) k a1 b1 (.tup [encS (.zero (!x)), encS .keep]) (.tup [encS .keep, encS (.zero (!x))])
  obtain ⟨F2, hF2, hF2'⟩ : ∃ F2, F2 = F1 ++ (if z then [Stm.zero (!x), .keep] else [.keep, .zero (!x)]) ∧ Okl true 2 4 6 F2 := ⟨_, rfl, by
    have : Okl true 2 2 2 (if z then [Stm.zero (!x), .keep] else [.keep, .zero (!x)]) := by
      cases z
      · exact (Okl.one (m := 1) (s := .keep) rfl (by simp [flatS])).app (Okl.one (m := 1) (s := .zero (!x)) rfl (by simp [flatS]))
      · exact (Okl.one (m := 1) (s := .zero (!x)) rfl (by simp [flatS])).app (Okl.one (m := 1) (s := .keep) rfl (by simp [flatS]))
    exact hF1'.app this⟩
  have r5 : evS (runF T G W (k + 2)) G W w5 [.lnt (.lst [.int a1, .int b1]), .val lay, .val (.bl h), .val (encO si), .val (.bl t), .val (encO so), .val (.bl g), .val (encO se), .val (xy (!x)), .val (xy x), .val (.tup (B.map encS)), .val (.tup (F1.map encS)), .emp, .emp, .emp, .emp] =
      some (.nx [.lnt (.lst [.int a2, .int b2]), .val lay, .val (.bl h), .val (encO si), .val (.bl t), .val (encO so), .val (.bl g), .val (encO se), .val (xy (!x)), .val (xy x), .val (.tup (B.map encS)), .val (.tup (F2.map encS)), .emp, .emp, .emp, .emp]) := by
    subst hF2
    cases z <;> simp [encS] at h2 <;> simp [h2, lF3, encS]
  clear hF2
  have lF4 := hF2'.ln
  have r6 : evS (runF T G W (k + 2)) G W w6 [.lnt (.lst [.int a2, .int b2]), .val lay, .val (.bl h), .val (encO si), .val (.bl t), .val (encO so), .val (.bl g), .val (encO se), .val (xy (!x)), .val (xy x), .val (.tup (B.map encS)), .val (.tup (F2.map encS)), .emp, .emp, .emp, .emp] =
      some (.nx [.lnt (.lst [.int a2, .int b2]), .val lay, .val (.bl h), .val (encO si), .val (.bl t), .val (encO so), .val (.bl g), .val (encO se), .val (xy (!x)), .val (xy x), .val (.tup (B.map encS)), .val (.tup (F2.map encS)), .val (.tup ((sgn si).map encS)), .emp, .emp, .emp]) := by
    cases si <;> simp [encO, isNon, sgn, encS]
  obtain ⟨C, hC, hC'⟩ : ∃ C, C = [Stm.iff .new F2 (sgn si), .item] ∧ Okl true 3 2 9 C := ⟨_, rfl, by
    have := Okl.iff (t := .new) rfl hF2' (sgn_ok (row := true) (d := 1) qi) (by decide) (by decide)
    exact this.app (Okl.one (m := 1) (s := .item) rfl (by simp [flatS]))⟩
  have r7 : evS (runF T G W (k + 2)) G W w7 [.lnt (.lst [.int a2, .int b2]), .val lay, .val (.bl h), .val (encO si), .val (.bl t), .val (encO so), .val (.bl g), .val (encO se), .val (xy (!x)), .val (xy x), .val (.tup (B.map encS)), .val (.tup (F2.map encS)), .val (.tup ((sgn si).map encS)), .emp, .emp, .emp] =
      some (.nx [.lnt (.lst [.int a2, .int b2]), .val lay, .val (.bl h), .val (encO si), .val (.bl t), .val (encO so), .val (.bl g), .val (encO se), .val (xy (!x)), .val (xy x), .val (.tup (B.map encS)), .val (.tup (F2.map encS)), .val (.tup ((sgn si).map encS)), .val (.tup (C.map encS)), .emp, .emp]) := by
    subst hC
    simp [encSs_map, encT, encS]
  clear hC
  have lC := hC'.ln
  have lC2 : C.length + 2 ≤ 16777216 := by omega
  obtain ⟨y, a3, b3, h3⟩ := of_two A (W := W) k a2 b2 (.tup [encS (.add (!x)), encS (.add x)]) (.tup [encS (.add x), encS (.add (!x))])
  obtain ⟨C1, hC1, hC1'⟩ : ∃ C1, C1 = C ++ (if y then [Stm.add (!x), .add x] else [.add x, .add (!x)]) ∧ Okl true 3 4 11 C1 := ⟨_, rfl, by
    have : Okl true 3 2 2 (if y then [Stm.add (!x), .add x] else [.add x, .add (!x)]) := by
      cases y
      · exact (Okl.one (m := 1) (s := .add x) rfl (by simp [flatS])).app (Okl.one (m := 1) (s := .add (!x)) rfl (by simp [flatS]))
      · exact (Okl.one (m := 1) (s := .add (!x)) rfl (by simp [flatS])).app (Okl.one (m := 1) (s := .add x) rfl (by simp [flatS]))
    exact hC'.app this⟩
  have r8 : evS (runF T G W (k + 2)) G W w8 [.lnt (.lst [.int a2, .int b2]), .val lay, .val (.bl h), .val (encO si), .val (.bl t), .val (encO so), .val (.bl g), .val (encO se), .val (xy (!x)), .val (xy x), .val (.tup (B.map encS)), .val (.tup (F2.map encS)), .val (.tup ((sgn si).map encS)), .val (.tup (C.map encS)), .emp, .emp] =
      some (.nx [.lnt (.lst [.int a3, .int b3]), .val lay, .val (.bl h), .val (encO si), .val (.bl t), .val (encO so), .val (.bl g), .val (encO se), .val (xy (!x)), .val (xy x), .val (.tup (B.map encS)), .val (.tup (F2.map encS)), .val (.tup ((sgn si).map encS)), .val (.tup (C1.map encS)), .emp, .emp]) := by
    subst hC1
    cases y <;> simp [encS] at h3 <;> simp [h3, lC2, encS]
  clear hC1
  have lC3 := hC1'.ln
  have r9 : evS (runF T G W (k + 2)) G W w9 [.lnt (.lst [.int a3, .int b3]), .val lay, .val (.bl h), .val (encO si), .val (.bl t), .val (encO so), .val (.bl g), .val (encO se), .val (xy (!x)), .val (xy x), .val (.tup (B.map encS)), .val (.tup (F2.map encS)), .val (.tup ((sgn si).map encS)), .val (.tup (C1.map encS)), .emp, .emp] =
      some (.nx [.lnt (.lst [.int a3, .int b3]), .val lay, .val (.bl h), .val (encO si), .val (.bl t), .val (encO so), .val (.bl g), .val (encO se), .val (xy (!x)), .val (xy x), .val (.tup (B.map encS)), .val (.tup (F2.map encS)), .val (.tup ((sgn si).map encS)), .val (.tup (C1.map encS)), .val (.tup ((sgn se).map encS)), .emp]) := by
    cases se <;> simp [encO, isNon, sgn, encS]
  obtain ⟨Z, hZ, hZ'⟩ : ∃ Z, Z = (if g then [Stm.total x] else []) ∧ ∀ row d, Okl row (d + 1) 1 1 Z := ⟨_, rfl, fun row d => tot_ok⟩
  have r10 : evS (runF T G W (k + 2)) G W w10 [.lnt (.lst [.int a3, .int b3]), .val lay, .val (.bl h), .val (encO si), .val (.bl t), .val (encO so), .val (.bl g), .val (encO se), .val (xy (!x)), .val (xy x), .val (.tup (B.map encS)), .val (.tup (F2.map encS)), .val (.tup ((sgn si).map encS)), .val (.tup (C1.map encS)), .val (.tup ((sgn se).map encS)), .emp] =
      some (.nx [.lnt (.lst [.int a3, .int b3]), .val lay, .val (.bl h), .val (encO si), .val (.bl t), .val (encO so), .val (.bl g), .val (encO se), .val (xy (!x)), .val (xy x), .val (.tup (B.map encS)), .val (.tup (F2.map encS)), .val (.tup ((sgn si).map encS)), .val (.tup (C1.map encS)), .val (.tup ((sgn se).map encS)), .val (.tup (Z.map encS))]) := by
    subst hZ
    cases g <;> simp [encS]
  clear hZ
  obtain ⟨r, a4, b4, hr, p0, p1⟩ := draw_run A (W := W) (k + 1) a3 b3 2 (by decide) (by decide)
  have lZ := (hZ' true 0).ln
  have lZ1 : Z.length + 1 ≤ 16777216 := by omega
  have body : ∀ {row : Bool} {d n m : Nat} {X : List Stm}, Okl row d n m X → n ≤ 8 → okBody d row X = true := fun h hn => okBody_of (by have := h.ln; omega) h.ok
  have run0 : evSs (runF T G W (k + 2)) G W [w0, w1, w2, w3, w4, w5, w6, w7, w8, w9, w10, w11, w12, w13] (start 16 [.lnt (.lst [.int a, .int b]), .val lay]) = evSs (runF T G W (k + 2)) G W [w11, w12, w13] [.lnt (.lst [.int a3, .int b3]), .val lay, .val (.bl h), .val (encO si), .val (.bl t), .val (encO so), .val (.bl g), .val (encO se), .val (xy (!x)), .val (xy x), .val (.tup (B.map encS)), .val (.tup (F2.map encS)), .val (.tup ((sgn si).map encS)), .val (.tup (C1.map encS)), .val (.tup ((sgn se).map encS)), .val (.tup (Z.map encS))] := by
    have hs : start 16 [.lnt (.lst [.int a, .int b]), .val lay] = [.lnt (.lst [.int a, .int b]), .val lay, .emp, .emp, .emp, .emp, .emp, .emp, .emp, .emp, .emp, .emp, .emp, .emp, .emp, .emp] := rfl
    rw [hs, ss_cons, r0, sK_nx, ss_cons, r1, sK_nx, ss_cons, r2, sK_nx, ss_cons, r3, sK_nx, ss_cons, r4, sK_nx, ss_cons, r5, sK_nx, ss_cons, r6, sK_nx, ss_cons, r7, sK_nx, ss_cons, r8, sK_nx, ss_cons, r9, sK_nx, ss_cons, r10, sK_nx]
  by_cases c : r = 0
  · subst c
    refine ⟨⟨[], C1, [.iff .kept B (sgn se)] ++ Z⟩, ?_, a4, b4, ?_⟩
    · have q1 := (Okl.iff (t := .kept) (row := false) rfl (hB' false 0) (sgn_ok (row := false) (d := 0) qe) (by decide) (by decide)).app (hZ' false 1)
      unfold okProg
      simp only [Bool.and_eq_true, decide_eq_true_eq, all_parts]
      refine ⟨⟨⟨rfl, body hC1'.up (by decide)⟩, body q1.up.up (by decide)⟩, ?_⟩
      have := hC1'.fl
      have := q1.fl
      simp only [flatB, List.length_nil] at *
      omega
    · rw [runF_fn A.t26 _ rfl (by decide)]
      show endO _ (evSs _ _ _ [w0, w1, w2, w3, w4, w5, w6, w7, w8, w9, w10, w11, w12, w13] _) = _
      rw [run0]
      have lZ2 : 1 + Z.length ≤ 16777216 := by omega
      have lZ0 : Z.length ≤ 16777216 := by omega
      simp [hr, encP, encB, encSs_map, encS, encT, lZ1, lZ2, lZ0]
  · have c' : (r == 0) = false := by simpa using c
    have hd : okEq (.tup (B.map encS)) = true := by
      have := (okBody_all (body (hB' true 0) (by decide))).2.2
      exact decide_eq_true (show D.dep (encB B) ≤ 64 by omega)
    obtain ⟨C2, hC2, hC2'⟩ : ∃ C2, C2 = C1 ++ (if B.isEmpty then [] else [Stm.iff .last B []]) ∧ Okl true 3 5 13 C2 := ⟨_, rfl, by
      have : Okl true 3 1 2 (if B.isEmpty then [] else [Stm.iff .last B []]) := by
        cases B.isEmpty
        · exact (Okl.iff (t := .last) rfl (hB' true 0) (Okl.none (n := 0) (m := 0)) (by decide) (by decide)).up
        · exact Okl.none
      exact hC1'.app this⟩
    have lC4 : C1.length ≤ 16777216 := by omega
    have lC5 : C1.length + 1 ≤ 16777216 := by omega
    have r11 : evS (runF T G W (k + 2)) G W w11 [.lnt (.lst [.int a3, .int b3]), .val lay, .val (.bl h), .val (encO si), .val (.bl t), .val (encO so), .val (.bl g), .val (encO se), .val (xy (!x)), .val (xy x), .val (.tup (B.map encS)), .val (.tup (F2.map encS)), .val (.tup ((sgn si).map encS)), .val (.tup (C1.map encS)), .val (.tup ((sgn se).map encS)), .val (.tup (Z.map encS))] = some (.nx [.lnt (.lst [.int a4, .int b4]), .val lay, .val (.bl h), .val (encO si), .val (.bl t), .val (encO so), .val (.bl g), .val (encO se), .val (xy (!x)), .val (xy x), .val (.tup (B.map encS)), .val (.tup (F2.map encS)), .val (.tup ((sgn si).map encS)), .val (.tup (C1.map encS)), .val (.tup ((sgn se).map encS)), .val (.tup (Z.map encS))]) := by
      simp [hr, c']
    have r12 : evS (runF T G W (k + 2)) G W w12 [.lnt (.lst [.int a4, .int b4]), .val lay, .val (.bl h), .val (encO si), .val (.bl t), .val (encO so), .val (.bl g), .val (encO se), .val (xy (!x)), .val (xy x), .val (.tup (B.map encS)), .val (.tup (F2.map encS)), .val (.tup ((sgn si).map encS)), .val (.tup (C1.map encS)), .val (.tup ((sgn se).map encS)), .val (.tup (Z.map encS))] = some (.nx [.lnt (.lst [.int a4, .int b4]), .val lay, .val (.bl h), .val (encO si), .val (.bl t), .val (encO so), .val (.bl g), .val (encO se), .val (xy (!x)), .val (xy x), .val (.tup (B.map encS)), .val (.tup (F2.map encS)), .val (.tup ((sgn si).map encS)), .val (.tup (C2.map encS)), .val (.tup ((sgn se).map encS)), .val (.tup (Z.map encS))]) := by
      subst hC2
      cases B with
      | nil => simp [hd, D.eqvs, lC4]
      | cons u v =>
        simp at hd
        simp [hd, D.eqvs, lC5, encSs_map, encS, encT]
    clear hC2
    have lC6 := hC2'.ln
    have lC7 : C2.length + 1 ≤ 16777216 := by omega
    refine ⟨⟨[.down false], C2 ++ [.up false], [.iff (.flag false) [] (sgn se)] ++ Z⟩, ?_, a4, b4, ?_⟩
    · have q1 := (Okl.iff (t := .flag false) (row := false) rfl (Okl.none (n := 0) (m := 0)) (sgn_ok (row := false) (d := 0) qe) (by decide) (by decide)).app (hZ' false 1)
      have q2 := hC2'.app (Okl.one (row := true) (d := 3) (m := 1) (s := .up false) rfl (by simp [flatS]))
      unfold okProg
      simp only [Bool.and_eq_true, decide_eq_true_eq, all_parts]
      refine ⟨⟨⟨rfl, body q2.up (by decide)⟩, body q1.up.up (by decide)⟩, ?_⟩
      have := q2.fl
      have := q1.fl
      have : (flatB [Stm.down false]).length = 1 := rfl
      omega
    · rw [runF_fn A.t26 _ rfl (by decide)]
      show endO _ (evSs _ _ _ [w0, w1, w2, w3, w4, w5, w6, w7, w8, w9, w10, w11, w12, w13] _) = _
      rw [run0, ss_cons, r11, sK_nx, ss_cons, r12, sK_nx]
      have lZ2 : 1 + Z.length ≤ 16777216 := by omega
      have lZ0 : Z.length ≤ 16777216 := by omega
      simp [encP, encB, encSs_map, encS, encT, pq, lZ1, lZ2, lZ0, lC7]
end
end BP

set_option maxRecDepth 100000
set_option maxHeartbeats 4000000
/-! Programs drawn; the source. -/
namespace BP
abbrev src0 : List S := [.set (.nm 2) (.cst (.int 0)), .iff (.cmp .lt (.var 1) (.blt .len [(.var 0)])) [.set (.nm 2) (.blt .abs [(.blt .int [(.ix (.var 0) (.var 1))])])] []]
abbrev src1 : List S := [.iff (.cmp .lt (.var 2) (.bin .pow (.cst (.int 10)) (.cst (.int 18)))) [.reto (.lst [(.cst (.int 0)), (.bin .add (.cst (.int 1)) (.bin .mod (.blt .int [(.bin .add (.bin .mul (.var 2) (.cst (.int 7919))) (.bin .mul (.cst (.int 104729)) (.var 1)))]) (.cst (.int 2147483646))))])] [],
    .reto (.lst [(.var 2), (.bin .add (.cst (.int 1)) (.bin .mod (.blt .int [(.bin .add (.var 2) (.var 1))]) (.cst (.int 2147483646))))])]
section
variable {T : Nat → Option Def} {G : Nat → Option D} {W : Nat} (A : LawT T G)
include A
theorem program_run (k : Nat) (a b : Int) : ∃ p, okProg p = true ∧ ∃ a' b' : Int, runF T G W (k + 10) 30 [.lnt (.lst [.int a, .int b])] = some (.val (encP p), some (.lst [.int a', .int b'])) := by
  obtain ⟨r, a1, b1, hr, p0, p1⟩ := draw_run A (W := W) (k + 8) a b 4 (by decide) (by decide)
  rw [runF_fn A.t30 _ rfl (by decide)]
  by_cases c : r = 3
  · subst c
    obtain ⟨p, hp, a2, b2, h2⟩ := any_run A (W := W) k a1 b1
    refine ⟨p, hp, a2, b2, ?_⟩
    simp [start, hr, h2]
  · have c' : (r == 3) = false := by simpa using c
    obtain ⟨h, t, g, si, so, se, qi, qo, qe, a2, b2, h2⟩ := layout_run A (W := W) (k + 5) a1 b1
    obtain ⟨p, hp, a3, b3, h3⟩ := written_run A (W := W) (k + 6) a2 b2 h t g si so se qi qo qe
    have h62 := small62_le (n := r) p0 (by omega)
    have loop := forLoop_inv (enc := fun d : D => d) (tg := .nm 3) (f := evSs (runF T G W (k + 9)) G W [.set (.nm 2) (.call 28 [(.lent 0), (.var 2)])])
      (fun pre ρ => ∃ (a b : Int) (p : Prog) (s3 : Slot), ρ = [.lnt (.lst [.int a, .int b]), .val (.int r), .val (encP p), s3] ∧ isLnt s3 = false ∧ okProg p = true)
      (rangeD 0 r.toNat) [] [.lnt (.lst [.int a3, .int b3]), .val (.int r), .val (encP p), .emp] (fun pre x post ρ e hP => ?_) ⟨a3, b3, p, .emp, rfl, rfl, hp⟩
    · obtain ⟨ρ', h4, a4, b4, p4, s3, rfl, _, hp4⟩ := loop
      refine ⟨p4, hp4, a4, b4, ?_⟩
      rw [List.map_id'] at h4
      simp [start, hr, c', h2, h3, h62, h4]
    · obtain ⟨a, b, p, s3, rfl, q3, hp⟩ := hP
      obtain ⟨p', hp', a', b', h'⟩ := gnear_run A (W := W) (k + 8) (by omega) p hp a b
      refine ⟨[.lnt (.lst [.int a, .int b]), .val (.int r), .val (encP p), .val x], by simp [q3], [.lnt (.lst [.int a', .int b']), .val (.int r), .val (encP p'), .val x], by simp [h'], a', b', p', .val x, rfl, rfl, hp'⟩
theorem source_run (k : Nat) (ns : List Int) (i : Nat) (hi : i ≤ 1000) (hl : ns.length ≤ 1000) : ∃ a b : Int, runF T G W (k + 1) 17 [.val (.scr ns), .val (.int i)] = some (.own (.lst [.int a, .int b]), none) := by
  rw [runF_fn A.t17 _ rfl (by decide)]
  have ep : binop .pow (.int 10) (.int 18) = some (.val (.int 1000000000000000000)) := by
    simp [binop]
  have s1 : small64 (7919 : Int) = true := by decide
  have s2 : small64 (104729 : Int) = true := by decide
  have key : ∀ c : Int, ∃ a b : Int, evSs (runF T G W k) G W src1 [.val (.scr ns), .val (.int i), .val (.int c)] = some (.rt (.own (.lst [.int a, .int b])) [.val (.scr ns), .val (.int i), .val (.int c)]) := by
    intro c
    by_cases h : c < 1000000000000000000
    · exact ⟨0, 1 + (c * 7919 + 104729 * i) % 2147483646, by simp [ep, h, s1, s2]⟩
    · exact ⟨c, 1 + (c + i) % 2147483646, by simp [ep, h]⟩
  show ∃ a b : Int, endO _ (evSs _ _ _ (src0 ++ src1) [.val (.scr ns), .val (.int i), .emp]) = _
  rw [ss_app]
  have h0 : ∃ c : Int, evSs (runF T G W k) G W src0 [.val (.scr ns), .val (.int i), .emp] = some (.nx [.val (.scr ns), .val (.int i), .val (.int c)]) := by
    by_cases h : i < ns.length
    · have h' : (i : Int) < ns.length := by omega
      have e := ixL_nat ns i
      rw [List.getElem?_eq_getElem h] at e
      exact ⟨if ns[i] < 0 then -ns[i] else ns[i], by simp [h', e]⟩
    · have h' : ¬ (i : Int) < ns.length := by omega
      exact ⟨0, by simp [h']⟩
  obtain ⟨c, h0⟩ := h0
  obtain ⟨a, b, hk⟩ := key c
  refine ⟨a, b, ?_⟩
  rw [h0, sK_nx, hk]
  rfl
end
end BP

set_option maxRecDepth 100000
set_option maxHeartbeats 4000000
/-! The law: what is asked of one program. -/
namespace BP
abbrev odds (m : Int) : List D := [.int (-1), .int m, .int 24, .non, .bl true, .str [48], .tup [.int 0]]
abbrev askOne : List S := [.set (.nm 10) (.call 16 [(.var 6), (.var 8)]),
    .iff (.or (.cmp .ne (.var 10) (.call 32 [(.var 6), (.lst [(.var 8)])])) (.not (.call 9 [(.var 10)]))) [.ret (.cst (.bl false))] [],
    .iff (.cmp .ge (.blt .len [(.call 15 [(.var 10)])]) (.var 7)) [.ret (.cst (.bl false))] []]
abbrev askOdd : List S := [.iff (.not (.call 34 [(.var 6), (.var 9)])) [.ret (.cst (.bl false))] []]
section
variable {T : Nat → Option Def} {G : Nat → Option D} {W : Nat} (A : LawT T G)
include A
theorem askOne_run (k : Nat) (hk : 17 ≤ k) (p : Prog) (ok : okProg p = true) (g : Int) (h0 : 0 ≤ g) (h1 : g < p.all.length) (s0 s1 s2 s3 s4 s5 s9 s10 : Slot) (q10 : isLnt s10 = false) :
    evSs (runF T G W k) G W askOne [s0, s1, s2, s3, s4, s5, .val (encP p), .val (.int p.all.length), .val (.int g), s9, s10] =
      some (.nx [s0, s1, s2, s3, s4, s5, .val (encP p), .val (.int p.all.length), .val (.int g), s9, .val (encP (cutP' g p))]) := by
  have ok2 := ok_cutP (g := g) ok
  have F2 := okProg_fit ok2
  have e1 := wo_run A (W := W) p ok g h0 h1 k hk
  have e2 := less_run A (W := W) p ok g k (by omega)
  have e3 := isprog_run A.toPrT (W := W) (cutP' g p) F2 k (by omega)
  have e4 := stms_run A (W := W) (cutP' g p) ok2 k (by omega)
  have e5 : okEq (encP (cutP' g p)) = true := F2.ok
  have e6 : D.eqv (encP (cutP' g p)) (encP (cutP' g p)) = true := eqv_refl _ (of_decide_eq_true e5)
  have e7 := less_cutP h0 h1
  have e8 : ¬ ((p.all.length : Int) ≤ ((cutP' g p).all.length : Int)) := by omega
  simp [q10, e1, e2, e3, e4, e5, e6, ok2, e7, e8]
end
end BP

set_option maxRecDepth 100000
set_option maxHeartbeats 4000000
/-! The law: one turn. -/
namespace BP
/-- what `_law_refused` answers -/
def Refuses (T : Nat → Option Def) (G : Nat → Option D) (W : Nat) (k : Nat) : Prop := ∀ p, okProg p = true → ∀ d ∈ odds p.all.length, runF T G W k 34 [.val (encP p), .val d] = some (.val (.bl true), none)
abbrev askTurn : List S := [.set (.nm 6) (.call 30 [(.lent 4)]),
    .set (.nm 7) (.call 33 [(.var 6)]),
    .for_ (.nm 8) (.rng (.var 7)) askOne,
    .for_ (.nm 9) (.seq (.lst [(.neg (.cst (.int 1))), (.var 7), (.cst (.int 24)), (.cst .non), (.cst (.bl true)), (.cst (.str [48])), (.tup [(.cst (.int 0))])])) askOdd]
theorem lnt_of {s : Slot} (h : isThing s = false) : isLnt s = false := by cases s <;> first | rfl | cases h
section
variable {T : Nat → Option Def} {G : Nat → Option D} {W : Nat} (A : LawT T G)
include A
theorem askTurn_run (k : Nat) (hk : 17 ≤ k) (R : Refuses T G W k) (a b : Int) (s0 s1 s2 s3 s5 s6 s7 s8 s9 s10 : Slot) (q6 : isThing s6 = false) (q7 : isThing s7 = false) (q8 : isThing s8 = false) (q9 : isThing s9 = false) (q10 : isThing s10 = false) :
    ∃ (a' b' : Int) (s6' s7' s8' s9' s10' : Slot), isThing s6' = false ∧ isThing s7' = false ∧ isThing s8' = false ∧ isThing s9' = false ∧ isThing s10' = false ∧
    evSs (runF T G W k) G W askTurn [s0, s1, s2, s3, .own (.lst [.int a, .int b]), s5, s6, s7, s8, s9, s10] =
      some (.nx [s0, s1, s2, s3, .own (.lst [.int a', .int b']), s5, s6', s7', s8', s9', s10']) := by
  obtain ⟨k, rfl⟩ : ∃ k', k = k' + 10 := ⟨k - 10, by omega⟩
  obtain ⟨p, ok, a1, b1, h1⟩ := program_run A (W := W) k a b
  have F := okProg_fit ok
  have hl := okProg_len ok
  have h2 := many_run A (W := W) p F (k + 10) (by omega)
  have h62 := small62_le (n := (p.all.length : Int)) (by omega) (by omega)
  have loop := forLoop_inv (enc := fun d : D => d) (tg := .nm 8) (f := evSs (runF T G W (k + 10)) G W askOne)
    (fun pre ρ => ∃ (s8 s10 : Slot), ρ = [s0, s1, s2, s3, .own (.lst [.int a1, .int b1]), s5, .val (encP p), .val (.int p.all.length), s8, s9, s10] ∧ isThing s8 = false ∧ isThing s10 = false)
    (rangeD 0 p.all.length) [] [s0, s1, s2, s3, .own (.lst [.int a1, .int b1]), s5, .val (encP p), .val (.int p.all.length), s8, s9, s10] (fun pre x post ρ e hP => ?_) ⟨s8, s10, rfl, q8, q10⟩
  · obtain ⟨ρ', h3, s8', s10', rfl, q8', q10'⟩ := loop
    have loop2 := forLoop_inv (enc := fun d : D => d) (tg := .nm 9) (f := evSs (runF T G W (k + 10)) G W askOdd)
      (fun pre ρ => ∃ (s9 : Slot), ρ = [s0, s1, s2, s3, .own (.lst [.int a1, .int b1]), s5, .val (encP p), .val (.int p.all.length), s8', s9, s10'] ∧ isThing s9 = false)
      (odds p.all.length) [] [s0, s1, s2, s3, .own (.lst [.int a1, .int b1]), s5, .val (encP p), .val (.int p.all.length), s8', s9, s10'] (fun pre x post ρ e hP => ?_) ⟨s9, rfl, q9⟩
    · obtain ⟨ρ', h4, s9', rfl, q9'⟩ := loop2
      refine ⟨a1, b1, .val (encP p), .val (.int p.all.length), s8', s9', s10', rfl, rfl, q8', q9', q10', ?_⟩
      rw [List.map_id'] at h3 h4
      have i1 : evS (runF T G W (k + 10)) G W (.set (.nm 6) (.call 30 [(.lent 4)])) [s0, s1, s2, s3, .own (.lst [.int a, .int b]), s5, s6, s7, s8, s9, s10] = some (.nx [s0, s1, s2, s3, .own (.lst [.int a1, .int b1]), s5, .val (encP p), s7, s8, s9, s10]) := by
        simp [h1, lnt_of q6]
      have i2 : evS (runF T G W (k + 10)) G W (.set (.nm 7) (.call 33 [(.var 6)])) [s0, s1, s2, s3, .own (.lst [.int a1, .int b1]), s5, .val (encP p), s7, s8, s9, s10] = some (.nx [s0, s1, s2, s3, .own (.lst [.int a1, .int b1]), s5, .val (encP p), .val (.int p.all.length), s8, s9, s10]) := by
        simp [h2, lnt_of q7]
      have i3 : evI (runF T G W (k + 10)) G (.rng (.var 7)) [s0, s1, s2, s3, .own (.lst [.int a1, .int b1]), s5, .val (encP p), .val (.int p.all.length), s8, s9, s10] = some (rangeD 0 p.all.length, [s0, s1, s2, s3, .own (.lst [.int a1, .int b1]), s5, .val (encP p), .val (.int p.all.length), s8, s9, s10]) := by
        simp [h62]
      have i4 : evI (runF T G W (k + 10)) G (.seq (.lst [(.neg (.cst (.int 1))), (.var 7), (.cst (.int 24)), (.cst .non), (.cst (.bl true)), (.cst (.str [48])), (.tup [(.cst (.int 0))])])) [s0, s1, s2, s3, .own (.lst [.int a1, .int b1]), s5, .val (encP p), .val (.int p.all.length), s8', s9, s10'] = some (odds p.all.length, [s0, s1, s2, s3, .own (.lst [.int a1, .int b1]), s5, .val (encP p), .val (.int p.all.length), s8', s9, s10']) := by
        simp
      rw [ss_cons, i1, sK_nx, ss_cons, i2, sK_nx, ss_cons, st_for, i3, fK_s, h3, sK_nx, ss_cons, st_for, i4, fK_s, h4, sK_nx, ss_nil]
    · obtain ⟨s9, rfl, q9⟩ := hP
      have hx : x ∈ odds p.all.length := by
        have e : odds p.all.length = pre ++ x :: post := by simpa using e
        rw [e]; simp
      have h := R p ok x hx
      exact ⟨[s0, s1, s2, s3, .own (.lst [.int a1, .int b1]), s5, .val (encP p), .val (.int p.all.length), s8', .val x, s10'], by simp [lnt_of q9], _, by simp [h], .val x, rfl, rfl⟩
  · obtain ⟨s8, s10, rfl, q8, q10⟩ := hP
    have hx : x ∈ rangeD 0 p.all.length := by
      have e : rangeD 0 p.all.length = pre ++ x :: post := by simpa using e
      rw [e]; simp
    obtain ⟨g, rfl, hg⟩ : ∃ g : Nat, x = .int g ∧ g < p.all.length := by
      unfold rangeD at hx
      obtain ⟨g, hg, rfl⟩ := List.mem_map.mp hx
      exact ⟨g, by simp, by simpa using hg⟩
    have h := askOne_run A (W := W) (k + 10) hk p ok g (by omega) (by omega) s0 s1 s2 s3 (.own (.lst [.int a1, .int b1])) s5 s9 s10 (lnt_of q10)
    exact ⟨_, by simp [lnt_of q8], _, h, .val (.int g), _, rfl, rfl, rfl⟩
end
end BP

set_option maxRecDepth 100000
set_option maxHeartbeats 4000000
/-! The law: all turns. -/
namespace BP
abbrev askK : List S := [.seto 4 (.call 17 [(.var 0), (.var 1)]), .for_ (.nm 5) (.rng (.cst (.int 3))) askTurn]
section
variable {T : Nat → Option Def} {G : Nat → Option D} {W : Nat} (A : LawT T G)
include A
theorem askK_run (k : Nat) (hk : 17 ≤ k) (R : Refuses T G W k) (ns : List Int) (hns : ns.length ≤ 1000) (i : Nat) (hi : i ≤ 1000) (s2 s3 s4 s5 s6 s7 s8 s9 s10 : Slot) (q4 : isLnt s4 = false) (q5 : isThing s5 = false) (q6 : isThing s6 = false) (q7 : isThing s7 = false) (q8 : isThing s8 = false) (q9 : isThing s9 = false) (q10 : isThing s10 = false) :
    ∃ (s4' s5' s6' s7' s8' s9' s10' : Slot), isLnt s4' = false ∧ isThing s5' = false ∧ isThing s6' = false ∧ isThing s7' = false ∧ isThing s8' = false ∧ isThing s9' = false ∧ isThing s10' = false ∧
    evSs (runF T G W k) G W askK [.val (.scr ns), .val (.int i), s2, s3, s4, s5, s6, s7, s8, s9, s10] =
      some (.nx [.val (.scr ns), .val (.int i), s2, s3, s4', s5', s6', s7', s8', s9', s10']) := by
  obtain ⟨k, rfl⟩ : ∃ k', k = k' + 1 := ⟨k - 1, by omega⟩
  obtain ⟨a, b, h1⟩ := source_run A (W := W) k ns i hi hns
  have loop := forLoop_inv (enc := fun d : D => d) (tg := .nm 5) (f := evSs (runF T G W (k + 1)) G W askTurn)
    (fun pre ρ => ∃ (a b : Int) (s5 s6 s7 s8 s9 s10 : Slot), ρ = [.val (.scr ns), .val (.int i), s2, s3, .own (.lst [.int a, .int b]), s5, s6, s7, s8, s9, s10] ∧ isThing s5 = false ∧ isThing s6 = false ∧ isThing s7 = false ∧ isThing s8 = false ∧ isThing s9 = false ∧ isThing s10 = false)
    [.int 0, .int 1, .int 2] [] [.val (.scr ns), .val (.int i), s2, s3, .own (.lst [.int a, .int b]), s5, s6, s7, s8, s9, s10] (fun pre x post ρ e hP => ?_) ⟨a, b, s5, s6, s7, s8, s9, s10, rfl, q5, q6, q7, q8, q9, q10⟩
  · obtain ⟨ρ', h2, a', b', s5', s6', s7', s8', s9', s10', rfl, q5', q6', q7', q8', q9', q10'⟩ := loop
    refine ⟨.own (.lst [.int a', .int b']), s5', s6', s7', s8', s9', s10', rfl, q5', q6', q7', q8', q9', q10', ?_⟩
    rw [List.map_id'] at h2
    have i1 : evS (runF T G W (k + 1)) G W (.seto 4 (.call 17 [(.var 0), (.var 1)])) [.val (.scr ns), .val (.int i), s2, s3, s4, s5, s6, s7, s8, s9, s10] = some (.nx [.val (.scr ns), .val (.int i), s2, s3, .own (.lst [.int a, .int b]), s5, s6, s7, s8, s9, s10]) := by
      simp [h1, q4]
    rw [ss_cons, i1, sK_nx, ss_cons, st_for, rng3, fK_s, h2, sK_nx, ss_nil]
  · obtain ⟨a, b, s5, s6, s7, s8, s9, s10, rfl, q5, q6, q7, q8, q9, q10⟩ := hP
    obtain ⟨a', b', s6', s7', s8', s9', s10', q6', q7', q8', q9', q10', h⟩ := askTurn_run A (W := W) (k + 1) hk R a b (.val (.scr ns)) (.val (.int i)) s2 s3 (.val x) s6 s7 s8 s9 s10 q6 q7 q8 q9 q10
    exact ⟨_, by simp [lnt_of q5], _, h, a', b', .val x, s6', s7', s8', s9', s10', rfl, rfl, q6', q7', q8', q9', q10'⟩
end
end BP

set_option maxRecDepth 100000
set_option maxHeartbeats 4000000
/-! The law, whole. -/
namespace BP
abbrev lawTail : List S := [.set (.nm 2) (.tup [(.tup [(.tup [(.cst (.str [109, 97, 114, 107])), (.cst (.str [45]))])]), (.tup [(.tup [(.cst (.str [105, 102])), (.tup [(.cst (.str [108, 97, 115, 116]))]), (.tup [(.tup [(.cst (.str [105, 116, 101, 109]))])]), (.tup [(.tup [(.cst (.str [107, 101, 101, 112]))])])])]), (.tup [(.tup [(.cst (.str [116, 111, 116, 97, 108])), (.cst (.str [121]))])])]),
    .set (.nm 3) (.comp (.call 16 [(.var 2), (.var 8)]) (.nm 8) (.rng (.cst (.int 5))) []),
    .iff (.or (.cmp .ne (.comp (.ix (.var 6) (.cst (.int 0))) (.nm 6) (.seq (.var 3)) []) (.bin .add (.lst [(.tup [])]) (.bin .mul (.lst [(.ix (.var 2) (.cst (.int 0)))]) (.cst (.int 4))))) (.or (.cmp .ne (.ix (.ix (.var 3) (.cst (.int 1))) (.cst (.int 1))) (.tup [])) (.cmp .ne (.ix (.ix (.var 3) (.cst (.int 4))) (.cst (.int 2))) (.tup [])))) [.ret (.cst (.bl false))] [],
    .ret (.and (.cmp .eq (.ix (.ix (.var 3) (.cst (.int 2))) (.cst (.int 1))) (.tup [(.tup [(.cst (.str [105, 102])), (.tup [(.cst (.str [108, 97, 115, 116]))]), (.tup []), (.tup [(.tup [(.cst (.str [107, 101, 101, 112]))])])])])) (.cmp .eq (.ix (.ix (.var 3) (.cst (.int 3))) (.cst (.int 1))) (.tup [(.tup [(.cst (.str [105, 102])), (.tup [(.cst (.str [108, 97, 115, 116]))]), (.tup [(.tup [(.cst (.str [105, 116, 101, 109]))])]), (.tup [])])])))]
def one : Prog := ⟨[.mark [45]], [.iff .last [.item] [.keep]], [.total true]⟩
section
variable {T : Nat → Option Def} {G : Nat → Option D} {W : Nat} (A : LawT T G)
include A
theorem loops_run (k : Nat) (hk : 17 ≤ k) (R : Refuses T G W k) (ns : List Int) (hns : ns.length ≤ 1000) :
    ∃ (s1 s4 s5 s6 s7 s8 s9 s10 : Slot), isThing s6 = false ∧ isThing s8 = false ∧
    evS (runF T G W k) G W (.for_ (.nm 1) (.rng (.bin .add (.cst (.int 1)) (.blt .min [(.blt .len [(.var 0)]), (.cst (.int 10))]))) askK) [.val (.scr ns), .emp, .emp, .emp, .emp, .emp, .emp, .emp, .emp, .emp, .emp] =
      some (.nx [.val (.scr ns), s1, .emp, .emp, s4, s5, s6, s7, s8, s9, s10]) := by
  have hn : ∃ n : Nat, n ≤ 11 ∧ evI (runF T G W k) G (.rng (.bin .add (.cst (.int 1)) (.blt .min [(.blt .len [(.var 0)]), (.cst (.int 10))]))) [.val (.scr ns), .emp, .emp, .emp, .emp, .emp, .emp, .emp, .emp, .emp, .emp] = some (rangeD 0 n, [.val (.scr ns), .emp, .emp, .emp, .emp, .emp, .emp, .emp, .emp, .emp, .emp]) := by
    by_cases c : (10 : Int) < ns.length
    · have h62 : small62 11 = true := by decide
      exact ⟨11, by omega, by simp [c, h62]⟩
    · have h62 := small62_le (n := 1 + (ns.length : Int)) (by omega) (by omega)
      have e : (1 + (ns.length : Int)).toNat = 1 + ns.length := by omega
      exact ⟨1 + ns.length, by omega, by simp [c, h62, e]⟩
  obtain ⟨n, hn, hi⟩ := hn
  have loop := forLoop_inv (enc := fun d : D => d) (tg := .nm 1) (f := evSs (runF T G W k) G W askK)
    (fun pre ρ => ∃ (s1 s4 s5 s6 s7 s8 s9 s10 : Slot), ρ = [.val (.scr ns), s1, .emp, .emp, s4, s5, s6, s7, s8, s9, s10] ∧ isLnt s1 = false ∧ isLnt s4 = false ∧ isThing s5 = false ∧ isThing s6 = false ∧ isThing s7 = false ∧ isThing s8 = false ∧ isThing s9 = false ∧ isThing s10 = false)
    (rangeD 0 n) [] [.val (.scr ns), .emp, .emp, .emp, .emp, .emp, .emp, .emp, .emp, .emp, .emp] (fun pre x post ρ e hP => ?_) ⟨.emp, .emp, .emp, .emp, .emp, .emp, .emp, .emp, rfl, rfl, rfl, rfl, rfl, rfl, rfl, rfl, rfl⟩
  · obtain ⟨ρ', h, s1, s4, s5, s6, s7, s8, s9, s10, rfl, _, _, _, q6, _, q8, _, _⟩ := loop
    rw [List.map_id'] at h
    exact ⟨s1, s4, s5, s6, s7, s8, s9, s10, q6, q8, by rw [st_for, hi, fK_s, h]⟩
  · obtain ⟨s1, s4, s5, s6, s7, s8, s9, s10, rfl, q1, q4, q5, q6, q7, q8, q9, q10⟩ := hP
    have hx : x ∈ rangeD 0 n := by
      have e : rangeD 0 n = pre ++ x :: post := by simpa using e
      rw [e]; simp
    obtain ⟨i, rfl, hg⟩ : ∃ g : Nat, x = .int g ∧ g < n := by
      unfold rangeD at hx
      obtain ⟨g, hg, rfl⟩ := List.mem_map.mp hx
      exact ⟨g, by simp, by simpa using hg⟩
    obtain ⟨s4', s5', s6', s7', s8', s9', s10', q4', q5', q6', q7', q8', q9', q10', h⟩ := askK_run A (W := W) k hk R ns hns i (by omega) .emp .emp s4 s5 s6 s7 s8 s9 s10 q4 q5 q6 q7 q8 q9 q10
    exact ⟨_, by simp [q1], _, h, .val (.int i), s4', s5', s6', s7', s8', s9', s10', rfl, rfl, q4', q5', q6', q7', q8', q9', q10'⟩
end
end BP

set_option maxRecDepth 100000
set_option maxHeartbeats 4000000
/-! The law: the fixed program, and all. -/
namespace BP
def cut1 (g : Int) : D := encP (cutP' g one)
section
variable {T : Nat → Option Def} {G : Nat → Option D} {W : Nat} (A : LawT T G)
include A
theorem tail_run (k : Nat) (hk : 17 ≤ k) (s0 s1 s4 s5 s6 s7 s8 s9 s10 : Slot) (q6 : isThing s6 = false) (q8 : isThing s8 = false) :
    ∃ ρ, evSs (runF T G W k) G W lawTail [s0, s1, .emp, .emp, s4, s5, s6, s7, s8, s9, s10] = some (.rt (.val (.bl true)) ρ) := by
  have ok : okProg one = true := by decide +kernel
  have hl : one.all.length = 5 := by decide +kernel
  have w : ∀ g : Nat, g < 5 → runF T G W k 16 [.val (encP one), .val (.int g)] = some (.val (cut1 g), none) := fun g hg => wo_run A (W := W) one ok g (by omega) (by omega) k hk
  have e5 : rangeD 0 5 = [.int 0, .int 1, .int 2, .int 3, .int 4] := rfl
  have hc : evE (runF T G W k) G (.comp (.call 16 [(.var 2), (.var 8)]) (.nm 8) (.rng (.cst (.int 5))) []) [s0, s1, .val (encP one), .emp, s4, s5, s6, s7, s8, s9, s10] =
      some (.own (.lst ([0, 1, 2, 3, 4].map fun g : Nat => cut1 g)), [s0, s1, .val (encP one), .emp, s4, s5, s6, s7, s8, s9, s10]) := by
    refine comp_one (enc := fun g : Nat => D.int g) (g := fun g => cut1 g) [0, 1, 2, 3, 4] ?_ q8 (fun g hg => ?_) (fun d => rfl) rfl rfl (fun d => rfl) (by decide)
    · have h62 : small62 5 = true := by decide
      simp [h62, e5]
    · have hg5 : g < 5 := by
        have : g ∈ [0, 1, 2, 3, 4] := hg
        simp at this; omega
      have := w g hg5
      simp [wipeE, this]
  let L : List D := [0, 1, 2, 3, 4].map fun g : Nat => cut1 g
  have hc2 : evE (runF T G W k) G (.comp (.ix (.var 6) (.cst (.int 0))) (.nm 6) (.seq (.var 3)) []) [s0, s1, .val (encP one), .val (.lst L), s4, s5, s6, s7, s8, s9, s10] =
      some (.own (.lst ([0, 1, 2, 3, 4].map fun g : Nat => encB (cutP' g one).a)), [s0, s1, .val (encP one), .val (.lst L), s4, s5, s6, s7, s8, s9, s10]) := by
    refine comp_one (enc := fun g : Nat => cut1 g) (g := fun g => encB (cutP' g one).a) [0, 1, 2, 3, 4] ?_ q6 (fun g hg => ?_) (fun d => rfl) rfl rfl (fun d => rfl) (by decide)
    · simp [L]
    · simp [wipeE, cut1, encP]
  have eone : encP one = .tup [.tup [.tup [.str [109, 97, 114, 107], .str [45]]], .tup [.tup [.str [105, 102], .tup [.str [108, 97, 115, 116]], .tup [.tup [.str [105, 116, 101, 109]]], .tup [.tup [.str [107, 101, 101, 112]]]]], .tup [.tup [.str [116, 111, 116, 97, 108], .str [121]]]] := rfl
  refine ⟨[s0, s1, .val (encP one), .val (.lst L), s4, s5, s6, s7, s8, s9, s10], ?_⟩
  have i1 : ∀ (s2 s3 : Slot), isLnt s2 = false → evS (runF T G W k) G W (.set (.nm 2) (.tup [(.tup [(.tup [(.cst (.str [109, 97, 114, 107])), (.cst (.str [45]))])]), (.tup [(.tup [(.cst (.str [105, 102])), (.tup [(.cst (.str [108, 97, 115, 116]))]), (.tup [(.tup [(.cst (.str [105, 116, 101, 109]))])]), (.tup [(.tup [(.cst (.str [107, 101, 101, 112]))])])])]), (.tup [(.tup [(.cst (.str [116, 111, 116, 97, 108])), (.cst (.str [121]))])])])) [s0, s1, s2, s3, s4, s5, s6, s7, s8, s9, s10] = some (.nx [s0, s1, .val (encP one), s3, s4, s5, s6, s7, s8, s9, s10]) := fun s2 s3 h => by
    rw [eone]
    simp [h]
  have i2 : evS (runF T G W k) G W (.set (.nm 3) (.comp (.call 16 [(.var 2), (.var 8)]) (.nm 8) (.rng (.cst (.int 5))) [])) [s0, s1, .val (encP one), .emp, s4, s5, s6, s7, s8, s9, s10] =
      some (.nx [s0, s1, .val (encP one), .val (.lst L), s4, s5, s6, s7, s8, s9, s10]) := by
    simp [hc, L]
  have c1 : cmpop .ne (.lst ([0, 1, 2, 3, 4].map fun g : Nat => encB (cutP' g one).a)) (.lst ([.tup []] ++ repD [.tup [.tup [.str [109, 97, 114, 107], .str [45]]]] 4)) = some false := by decide +kernel
  have i3 : evS (runF T G W k) G W (.iff (.or (.cmp .ne (.comp (.ix (.var 6) (.cst (.int 0))) (.nm 6) (.seq (.var 3)) []) (.bin .add (.lst [(.tup [])]) (.bin .mul (.lst [(.ix (.var 2) (.cst (.int 0)))]) (.cst (.int 4))))) (.or (.cmp .ne (.ix (.ix (.var 3) (.cst (.int 1))) (.cst (.int 1))) (.tup [])) (.cmp .ne (.ix (.ix (.var 3) (.cst (.int 4))) (.cst (.int 2))) (.tup [])))) [.ret (.cst (.bl false))] []) [s0, s1, .val (encP one), .val (.lst L), s4, s5, s6, s7, s8, s9, s10] =
      some (.nx [s0, s1, .val (encP one), .val (.lst L), s4, s5, s6, s7, s8, s9, s10]) := by
    have r1 : evE (runF T G W k) G (.bin .add (.lst [(.tup [])]) (.bin .mul (.lst [(.ix (.var 2) (.cst (.int 0)))]) (.cst (.int 4)))) [s0, s1, .val (encP one), .val (.lst L), s4, s5, s6, s7, s8, s9, s10] = some (.own (.lst ([.tup []] ++ repD [.tup [.tup [.str [109, 97, 114, 107], .str [45]]]] 4)), [s0, s1, .val (encP one), .val (.lst L), s4, s5, s6, s7, s8, s9, s10]) := by
      have m1 : ∀ x : D, binop .mul (.lst [x]) (.int 4) = some (.own (.lst (repD [x] 4))) := fun x => by
        have e : (decide (-(2 ^ 63 : Int) ≤ 4) && decide ((4 : Int) < 2 ^ 63) && decide (([x] : List D).length * (4 : Int).toNat ≤ lineN)) = true := by simp [lineN]
        exact (if_pos e : (if _ = true then some (Ret.own (.lst (repD [x] 4))) else none) = _)
      have m2 : ∀ x : D, binop .add (.lst [.tup []]) (.lst (repD [x] 4)) = some (.own (.lst ([.tup []] ++ repD [x] 4))) := fun x => by
        have e : ([D.tup []] : List D).length + (repD [x] 4).length ≤ lineN := by simp [repD, lineN]
        exact (if_pos e : (if _ then some (Ret.own (.lst (([.tup []] : List D) ++ repD [x] 4))) else none) = _)
      rw [eone]
      simp [m1, m2]
    have r2 : evE (runF T G W k) G (.cmp .ne (.ix (.ix (.var 3) (.cst (.int 1))) (.cst (.int 1))) (.tup [])) [s0, s1, .val (encP one), .val (.lst L), s4, s5, s6, s7, s8, s9, s10] = some (.val (.bl false), [s0, s1, .val (encP one), .val (.lst L), s4, s5, s6, s7, s8, s9, s10]) := by
      have c2 : okEq (encB (cutP' 1 one).b) = true := by decide +kernel
      have c3 : D.eqv (encB (cutP' 1 one).b) (.tup []) = true := by decide +kernel
      simp [L, cut1, encP, c2, c3]
    have r3 : evE (runF T G W k) G (.cmp .ne (.ix (.ix (.var 3) (.cst (.int 4))) (.cst (.int 2))) (.tup [])) [s0, s1, .val (encP one), .val (.lst L), s4, s5, s6, s7, s8, s9, s10] = some (.val (.bl false), [s0, s1, .val (encP one), .val (.lst L), s4, s5, s6, s7, s8, s9, s10]) := by
      have c2 : okEq (encB (cutP' 4 one).c) = true := by decide +kernel
      have c3 : D.eqv (encB (cutP' 4 one).c) (.tup []) = true := by decide +kernel
      have c4 : ∀ a b c d e : D, ixL [a, b, c, d, e] 4 = some e := fun _ _ _ _ _ => rfl
      simp [L, cut1, encP, c2, c3, c4]
    have r0 : evE (runF T G W k) G (.cmp .ne (.comp (.ix (.var 6) (.cst (.int 0))) (.nm 6) (.seq (.var 3)) []) (.bin .add (.lst [(.tup [])]) (.bin .mul (.lst [(.ix (.var 2) (.cst (.int 0)))]) (.cst (.int 4))))) [s0, s1, .val (encP one), .val (.lst L), s4, s5, s6, s7, s8, s9, s10] = some (.val (.bl false), [s0, s1, .val (encP one), .val (.lst L), s4, s5, s6, s7, s8, s9, s10]) := by
      rw [ev_cmp, hc2, bV_own, r1, bV_own, fz_lst, fz_lst, c1]
      rfl
    rw [st_iff, ev_or, r0, bV_val, bK_f, ev_or, r2, bV_val, bK_f, r3]
    rfl
  have i4 : evS (runF T G W k) G W (.ret (.and (.cmp .eq (.ix (.ix (.var 3) (.cst (.int 2))) (.cst (.int 1))) (.tup [(.tup [(.cst (.str [105, 102])), (.tup [(.cst (.str [108, 97, 115, 116]))]), (.tup []), (.tup [(.tup [(.cst (.str [107, 101, 101, 112]))])])])])) (.cmp .eq (.ix (.ix (.var 3) (.cst (.int 3))) (.cst (.int 1))) (.tup [(.tup [(.cst (.str [105, 102])), (.tup [(.cst (.str [108, 97, 115, 116]))]), (.tup [(.tup [(.cst (.str [105, 116, 101, 109]))])]), (.tup [])])])))) [s0, s1, .val (encP one), .val (.lst L), s4, s5, s6, s7, s8, s9, s10] =
      some (.rt (.val (.bl true)) [s0, s1, .val (encP one), .val (.lst L), s4, s5, s6, s7, s8, s9, s10]) := by
    have c2 : ∀ a b c d e : D, ixL [a, b, c, d, e] 2 = some c := fun _ _ _ _ _ => rfl
    have c3 : ∀ a b c d e : D, ixL [a, b, c, d, e] 3 = some d := fun _ _ _ _ _ => rfl
    have d1 : cmpop .eq (encB (cutP' 2 one).b) (.tup [.tup [.str [105, 102], .tup [.str [108, 97, 115, 116]], .tup [], .tup [.tup [.str [107, 101, 101, 112]]]]]) = some true := by decide +kernel
    have d2 : cmpop .eq (encB (cutP' 3 one).b) (.tup [.tup [.str [105, 102], .tup [.str [108, 97, 115, 116]], .tup [.tup [.str [105, 116, 101, 109]]], .tup []]]) = some true := by decide +kernel
    simp [L, cut1, encP, c2, c3, -cmp_eq, d1, d2]
  rw [ss_cons, i1 _ _ rfl, sK_nx, ss_cons, i2, sK_nx, ss_cons, i3, sK_nx, ss_cons, i4]
  rfl
theorem law_run (k : Nat) (hk : 17 ≤ k) (R : Refuses T G W k) (ns : List Int) (hns : ns.length ≤ 1000) (h35 : T 35 = some d_law) : runF T G W (k + 1) 35 [.val (.scr ns)] = some (.val (.bl true), none) := by
  rw [runF_fn h35 _ rfl (by decide)]
  obtain ⟨s1, s4, s5, s6, s7, s8, s9, s10, q6, q8, h⟩ := loops_run A (W := W) k hk R ns hns
  obtain ⟨ρ, h2⟩ := tail_run A (W := W) k hk (.val (.scr ns)) s1 s4 s5 s6 s7 s8 s9 s10 q6 q8
  have e : start 11 [.val (.scr ns)] = [.val (.scr ns), .emp, .emp, .emp, .emp, .emp, .emp, .emp, .emp, .emp, .emp] := rfl
  rw [e, ss_cons, h, sK_nx, h2]
  rfl
end
end BP

set_option maxRecDepth 100000
set_option maxHeartbeats 4000000
namespace BP.K14
open PySem PySem.Spec PyProof.Rows L2
open Classical in
/-- a number that is none is refused -/
noncomputable def g34 (k : Nat) (ss : List Slot) : Option (Ret × Option O) := if 17 ≤ k ∧ ∃ p d, okProg p = true ∧ ss = [.val (encP p), .val d] ∧ d ∈ odds p.all.length then some (.val (.bl true), none) else none
noncomputable def d_x_law_refused : Def := .ext 2 g34
abbrev prog : Program := PySem.Challenge.pw_breakprints_k14_statements_left_out
noncomputable def rows : List (Nat × Row) := [
  (0, ⟨"is_number", 10, ["value"], d_is_number⟩),
  (1, ⟨"is_sign", 11, ["value", "letter"], d_is_sign⟩),
  (2, ⟨"is_among", 12, ["words", "value"], d_is_among⟩),
  (3, ⟨"is_test", 13, ["value", "with_row"], d_is_test⟩),
  (4, ⟨"is_statement", 14, ["value", "deep", "with_row", "word", "many", "good", "body"], d_is_statement⟩),
  (5, ⟨"is_body", 15, ["value", "deep", "with_row", "statement"], d_is_body⟩),
  (6, ⟨"bodies_of", 16, ["statement"], d_bodies_of⟩),
  (7, ⟨"listed", 17, ["body", "found", "statement", "inner"], d_listed⟩),
  (8, ⟨"all_statements", 18, ["program"], d_all_statements⟩),
  (9, ⟨"is_program", 19, ["value", "place"], d_is_program⟩),
  (10, ⟨"need_program", 20, ["value"], d_need_program⟩),
  (11, ⟨"need_statement_number", 21, ["program", "value"], d_need_statement_number⟩),
  (12, ⟨"body_without", 22, ["body", "first", "gone", "found", "statement", "parts", "here", "inner"], d_body_without⟩),
  (13, ⟨"program_without", 23, ["program", "gone", "found", "first", "body"], d_program_without⟩),
  (14, ⟨"words_of", 24, ["program", "statement"], d_words_of⟩),
  (15, ⟨"statements", 25, ["program"], d_statements⟩),
  (16, ⟨"without", 26, ["program", "number"], d_without⟩),
  (17, ⟨"_law_source", 28, ["_law_script", "_law_k", "_law_cell"], d_law_source⟩),
  (18, ⟨"_law_draw", 29, ["_law_source_here", "_law_many_here", "_law_found"], d_law_draw⟩),
  (19, ⟨"_law_of", 30, ["_law_source_here", "_law_items"], d_law_of⟩),
  (20, ⟨"_law_sign", 31, ["_law_source_here"], d_law_sign⟩),
  (21, ⟨"_law_layout", 32, ["_law_source_here", "_law_signs", "_law_head", "_law_total", "_law_grand", "_law_turn"], d_law_layout⟩),
  (22, ⟨"_law_simple", 33, ["_law_source_here", "_law_with_row", "_law_way"], d_law_simple⟩),
  (23, ⟨"_law_test", 34, ["_law_source_here", "_law_with_row", "_law_some"], d_law_test⟩),
  (24, ⟨"_law_body", 35, ["_law_source_here", "_law_with_row", "_law_deep", "_law_most", "_law_found", "_law_turn", "_law_statement", "_law_first"], d_law_body⟩),
  (25, ⟨"_law_size", 36, ["_law_body_here", "_law_many_here", "_law_statement"], d_law_size⟩),
  (26, ⟨"_law_written", 37, ["_law_source_here", "_law_layout_here", "_law_head", "_law_inner", "_law_total", "_law_outer", "_law_grand", "_law_empty", "_law_x", "_law_y", "_law_behind", "_law_first", "_law_between", "_law_each", "_law_last", "_law_end"], d_law_written⟩),
  (27, ⟨"_law_bent", 38, ["_law_source_here", "_law_body_here", "_law_at", "_law_way", "_law_now", "_law_ahead", "_law_behind", "_law_spot"], d_law_bent⟩),
  (28, ⟨"_law_near", 39, ["_law_source_here", "_law_program_here", "_law_place"], d_law_near⟩),
  (29, ⟨"_law_any", 40, ["_law_source_here", "_law_bodies", "_law_place", "_law_body_here"], d_law_any⟩),
  (30, ⟨"_law_program", 41, ["_law_source_here", "_law_way", "_law_program_here", "_law_turn"], d_law_program⟩),
  (31, ⟨"_law_cut", 42, ["_law_body_here", "_law_first", "_law_gone", "_law_found", "_law_statement", "_law_number", "_law_kept", "_law_here"], d_law_cut⟩),
  (32, ⟨"_law_less", 43, ["_law_program_here", "_law_gone", "_law_first", "_law_second"], d_law_less⟩),
  (33, ⟨"_law_many", 44, ["_law_program_here"], d_law_many⟩),
  (34, ⟨"_law_refused", 45, ["_law_program_here", "_law_number", "e"], d_x_law_refused⟩),
  (35, ⟨"law", 46, ["_law_script", "_law_k", "_law_one", "_law_some", "_law_source_here", "_law_turn", "_law_program_here", "_law_many_here", "_law_number", "_law_odd", "_law_told"], d_law⟩)]
def cons : List (Nat × Str × D) := [
  (0, "SIGNS", (.str [44, 59, 46, 124, 45, 47, 42])),
  (1, "SUMS", (.tup [(.str [120]), (.str [121])])),
  (2, "FLAGS", (.tup [(.str [112]), (.str [113])])),
  (3, "MOST_STATEMENTS", (.int 24)),
  (4, "MOST_DEEP", (.int 4))]
noncomputable def bad : List Str := (rows.filter fun r => !chkRow prog (nmOf rows cons) r.2).map fun r => r.2.nm
theorem all_chk : rows.all (fun r => chkRow prog (nmOf rows cons) r.2) = true := by decide +kernel
end BP.K14

set_option maxRecDepth 100000
set_option maxHeartbeats 4000000
/-! An own error, from raise over a call to the clause that names it. -/
namespace BP
open PySem PySem.Spec PyProof.Rows L2

theorem PS_nox {X : Cx} {st : Stmt} {t : TS} (h : PS X.nox st t) : PS X st t := ⟨fun pins s σ H D I hw =>
  wpAny_mono (h.run pins s σ H D (I.wish _) hw) (fun _ _ q => q.unwish) fun _ _ z => False.elim z⟩
theorem PA_nox {X : Cx} {es : List Expr} {t : TA} (h : PA X.nox es t) : PA X es t := ⟨fun pos pins s σ H Q I hw =>
  wpAny_mono (h.run pos pins s σ H Q (I.wish _) hw) (fun _ _ ⟨v, H', I', r, q⟩ => ⟨v, H', I'.unwish, r, q⟩) fun _ _ z => False.elim z⟩
theorem pss_never {X : Cx} {ss : List Stmt} : PSs X ss (fun _ _ _ => False) := ⟨fun _ _ _ _ _ _ h => h.elim⟩
theorem Step.widen {F H F' H' : Hp} {as : List Addr} (s : Step F H [] F' H' []) : Step F H as F' H' [] :=
  ⟨s.same, fun b x e _ => s.keep b x e (by simp), fun b h => by
    rcases s.fre b h with z | z | z
    · exact .inl z
    · exact .inr (.inl z)
    · exact absurd z (by simp), fun b hb => absurd hb (by simp)⟩
theorem Step.drop {F H F' H' : Hp} {as as' : List Addr} (s : Step F H as F' H' as') : Step F H as F' H' [] := s.less fun b hb => absurd hb (by simp)
theorem env_of {K : PySem.W.Frag} {w : World} {F H : Hp} : ∀ {vs : List V} {ds : List D}, Reps K w F vs ds → EnvR K w F H (List.replicate ds.length none) (vs.map some) (ds.map Slot.val) []
  | _, _, .nil => .nil
  | _, _, .cons h r => .cons (as := []) (.val h) (env_of r)

/-- called with such things it lets out an error of the class at C -/
def spX (K : PySem.W.Frag) (w : World) (C : Addr) (ok : List Slot → Prop) : Sp := fun vs H _ E => ∃ L F ss as, StOk K w L F H (vs.map some) ss as ∧ ok ss ∧
  ∀ F' H', Step F H as F' H' [] → Same F' H' → E (.ref C) none H'

/-! ### raise -/
def isRaise (sc : Scope) (x : Str) : Stmt → Bool
  | .Raise (some (.Call (.Name y _) [.Constant (.str _) _ _] [] _)) none _ => (y == x) && glB sc x && okN x
  | _ => false
theorem ps_isRaise {X : Cx} {e b : Str} {C B : Addr} {W : WX} {st : Stmt} (hc : X.calm = true) (tk : Takes X W) (o : XcOk X.K X.mg e b C B) (h : isRaise X.env.scope e st = true) : PS X st (fun _ σ H => W (.ref C) none σ H) := by
  unfold isRaise at h
  split at h
  · rename_i y p1 m j p2 p3 p4
    simp only [Bool.and_eq_true, beq_iff_eq] at h
    obtain ⟨⟨rfl, h2⟩, h3⟩ := h
    exact ps_raise hc tk (pmk_own PySem.F.excBase_ValueError o.ex o.gC o.kC (raises_own o.sb o.ty) (gl_of h2) (okN_of h3).1)
  · cases h

/-! ### statements ahead -/
def tPre (K : PySem.W.Frag) (w : World) (ev : Env → Option Out) (t : TS) : TS := fun D σ H => ∃ L F ρ as ρ', StOk K w L F H σ ρ as ∧ ev ρ = some (.nx ρ') ∧ ∀ F' H' σ' as', Step F H as F' H' as' → StOk K w L F' H' σ' ρ' as' → t D σ' H'
theorem pss_pre {nm : Nm} {N : List Str} {Φ : Calls} {G : Nat → Option D} {W : Nat} {X : Cx} (C : COk nm Φ G X.nox) (hN : X.N = N) (hk : X.env.scope.kind = .function) (hf : ∀ x, X.fn x = true) {rest : List Stmt} {t : TS} (hr : PSs X rest t) :
    ∀ (ms : List S) (ss : List Stmt), chkSs nm N X.env.scope ms ss = true → PSs X (ss ++ rest) (tPre X.K X.w (evSs Φ G W ms) t)
  | [], ss, h => by
    unfold chkSs at h
    obtain rfl : ss = [] := List.isEmpty_iff.mp h
    refine hr.imp fun D σ H h => ?_
    obtain ⟨L, F, ρ, as, ρ', st, e, k⟩ := h
    unfold evSs at e
    cases e
    exact k F H σ as (Step.refl _ _ _) st
  | m :: ms, ss, h => by
    unfold chkSs at h
    split at h
    · rw [Bool.and_eq_true] at h
      refine (pss_cons (PS_nox (sndS (W := W) m C hN hk hf h.1)) (pss_pre (W := W) C hN hk hf hr ms _ h.2)).imp fun D σ H h => ?_
      obtain ⟨L, F, ρ, as, ρ', st, e, k⟩ := h
      unfold evSs at e
      split at e
      · rename_i ρ1 e1
        refine ⟨L, F, ρ, as, .nx ρ1, st, e1, fun F' H' σ' as' s' st' => ?_⟩
        exact ⟨L, F', ρ1, as', ρ', st', e, fun F2 H2 σ2 as2 s2 st2 => k F2 H2 σ2 as2 (s'.trans s2) st2⟩
      · rename_i hne
        exact absurd e (hne _)
    · cases h

section
variable {P : Program} {w : World} {K : PySem.W.Frag} {mg : Str → Option Value} {base : Heap} {nm : Nm} {T : Nat → Option Def} {G : Nat → Option D} {W : Nat} {tx : Nat → DT}
/-- the def's line -/
def chkHd (t : DT) (ps ns : Nat) : Bool := plainB (C8.fnArgs t.st) && decide ((C8.fnArgs t.st).args.map (·.arg) = t.N.take ps) && decide (ps ≤ ns) && decide (t.N.length = ns) && C8.scC t.N (t.N.take ps) (C8.fnScope t.st)
theorem hd_binds {t : DT} {x : Str} {ps ns : Nat} {fa : Addr} {fd : FuncData} (hc : chkHd t ps ns = true) (FD : FunD K x x (C8.fnArgs t.st) (C8.fnBody t.st) (C8.fnScope t.st) [] [] fa fd) : Binds K fd (t.N.take ps) [] := by
  unfold chkHd at hc
  simp only [Bool.and_eq_true, decide_eq_true_eq] at hc
  obtain ⟨⟨⟨⟨c1, c2⟩, c3⟩, c4⟩, c5⟩ := hc
  have S := C8.fnScope_by c5
  have nd : ((C8.fnArgs t.st).args.map (·.arg)).Nodup := by
    rw [c2]
    exact S.nd.sublist (List.take_sublist _ _)
  have hbd : ∀ (kV doc pm : Value) (an : Option Addr) (cdv ct : Value) (us : List Value), us.length = (t.N.take ps).length →
      bindArgs (PySem.W.fnOf x x (C8.fnArgs t.st) (C8.fnBody t.st) (C8.fnScope t.st) .none kV doc pm an cdv ct) ⟨us, []⟩ = pure ((t.N.take ps).zip us) := fun kV doc pm an cdv ct us hl => by
    rw [plainB_ok c1, ← c2] at *
    exact bind_plain nd hl
  exact FD.bindsN hbd
/-- statements, then: if c: raise e('..') -/
def chkRaiser (nm : Nm) (t : DT) (ps ns : Nat) (ms : List S) (m : E) (e : Str) : Bool :=
  chkHd t ps ns &&
    (chkSs nm t.N (C8.fnScope t.st) ms ((C8.fnBody t.st).take ms.length) && match (C8.fnBody t.st).drop ms.length with
      | .If c [r] [] _ :: _ => noIf c && chkE nm t.N (C8.fnScope t.st) m c && isRaise (C8.fnScope t.st) e r
      | _ => false)
theorem raiser_ok {k j f ps ns : Nat} {ms : List S} {m : E} {e b : Str} {C B : Addr} (blt : ∀ x ∈ bltNames, mg x = none) (con : ∀ n d, G n = some d → ∃ v u, mg (nm.gl n) = some u ∧ RelV v u ∧ ∀ F, Rep K w F v d)
    (ih : ∀ f ss r, runF T G W k f ss = some r → C8.Cal P w K mg base j (nm.fn f) (spF K w (runF T G W k) f) []) (o : XcOk K mg e b C B)
    (hc : chkRaiser nm (tx f) ps ns ms m e = true) {fa : Addr} {fd : FuncData} (FD : FunD K (nm.fn f) (nm.fn f) (C8.fnArgs (tx f).st) (C8.fnBody (tx f).st) (C8.fnScope (tx f).st) [] [] fa fd) :
    FnOk P w K mg base (L2.CX P w) (j + 1) fa fd ((tx f).N.take ps) (spX K w C fun ss => ss.length = ps ∧ ∃ ρ ρ', evSs (runF T G W k) G W ms (BP.start ns ss) = some (.nx ρ) ∧ evE (runF T G W k) G m ρ = some (.val (.bl true), ρ')) := by
  unfold chkRaiser chkHd at hc
  simp only [Bool.and_eq_true, decide_eq_true_eq] at hc
  obtain ⟨⟨⟨⟨⟨c1, c2⟩, c3⟩, c4⟩, c5⟩, c6, c7⟩ := hc
  have S := C8.fnScope_by c5
  have hpl : ((tx f).N.take ps).length = ps := by rw [List.length_take, c4]; omega
  refine FD.ok S (fun vs H Q E h => ?_) fun cdv A' outer s H vs Q E hr h => ?_
  · obtain ⟨L, F, ss, as, st, ⟨hl, _⟩, _⟩ := h
    have hl2 := st.env.len.1
    rw [List.length_map] at hl2
    rw [hpl, hl2, hl]
  · obtain ⟨L, F, ss, as, st, ⟨hl, ρ, ρ', e1, e2⟩, kk⟩ := h
    split at c7
    · rename_i c r p rest hb
      simp only [Bool.and_eq_true] at c7
      obtain ⟨⟨c7, c8⟩, c9⟩ := c7
      have C' : COk nm (runF T G W k) G (cxOf (L2.CX P w) P w K mg base (tx f).N (nm.fn f) (C8.fnScope (tx f).st) fa cdv A' outer s H E).nox := by
        refine ⟨rfl, ?_, S.nd, rfl, blt, con, fun g ss r hg => ⟨j, hr, ih g ss r hg⟩⟩
        have := hr.un
        show (A'.deeper _).units + 65 < cLine
        omega
      have tk : Takes (cxOf (L2.CX P w) P w K mg base (tx f).N (nm.fn f) (C8.fnScope (tx f).st) fa cdv A' outer s H E) (fun cls d _ H => E cls d H) := takes_of rfl rfl rfl rfl
      have body : C8.fnBody (tx f).st = (C8.fnBody (tx f).st).take ms.length ++ (.If c [r] [] p :: rest) := by rw [← hb, List.take_append_drop]
      rw [body]
      refine ⟨_, pss_pre (W := W) C' rfl S.kind (fun _ => rfl) (pss_cons (ps_if ((sndE m C' rfl c8).pt c7).nox (pss_one (ps_isRaise rfl tk o c9)) pss_nil) pss_never) ms _ c6, ?_⟩
      have hlen := st.env.len.1
      rw [List.length_map] at hlen
      have env : EnvR K w F H (L ++ List.replicate (ns - ss.length) none) (L2.start (tx f).N vs) (BP.start ns ss) as := by
        have := st.env.append (EnvR.blank (K := K) (w := w) (F := F) (H := H) (ns - ss.length))
        rw [List.append_nil] at this
        unfold L2.start BP.start
        rw [c4, hlen]
        exact this
      refine ⟨_, F, BP.start ns ss, as, ρ, ⟨st.sub, env, st.nd⟩, e1, fun F1 H1 σ1 as1 s1 st1 => ?_⟩
      refine ⟨_, F1, ρ, as1, .val (.bl true), ρ', true, st1, e2, rfl, fun F2 H2 as2 s2 st2 => ?_⟩
      show if (true : Bool) = true then E (Value.ref C) none H2 else _
      rw [if_pos rfl]
      exact kk F2 H2 ((s1.trans s2).drop) st2.sub
    · cases c7

/-- statements, then a call that lets the error out -/
def chkPasser (nm : Nm) (t : DT) (ps ns : Nat) (ms : List S) (g : Nat) (as : List E) : Bool :=
  chkHd t ps ns &&
    (chkSs nm t.N (C8.fnScope t.st) ms ((C8.fnBody t.st).take ms.length) && match (C8.fnBody t.st).drop ms.length with
      | .Expr (.Call (.Name y _) (e :: es) [] _) _ :: _ => chkN (C8.fnScope t.st) y (nm.fn g) && notStar e && es.all notStar && chkEs nm t.N (C8.fnScope t.st) as (e :: es)
      | _ => false)
/-- a call in the air -/
theorem tcall_go {Φ : Calls} {C : Addr} {ok : List Slot → Prop} {EX : L2.St → XK} {L : List (Option Addr)} {F H : Hp} {σ : L2.St} {ρ ρ' : Env} {as : List Addr} {ms : List E} {ds : List D} {Q : VK} (st : StOk K w L F H σ ρ as) (e : evEs Φ G ms ρ = some (ds, ρ')) (hok : ok (ds.map .val))
    (hk : ∀ F' H', Step F H as F' H' [] → Same F' H' → EX σ (.ref C) none H') : tCallS (spX K w C ok) EX (tLst K w (evEs Φ G ms)) σ H Q := by
  refine ⟨L, F, ρ, as, ds, ρ', st, e, fun F1 H1 vs as1 s1 st1 rs => ?_⟩
  refine ⟨List.replicate ds.length none, F1, ds.map .val, [], ⟨st1.sub, env_of rs, .nil⟩, hok, fun F2 H2 s2 sm => ?_⟩
  exact hk F2 H2 (s1.trans s2.widen) sm
theorem passer_ok {k j f ps ns g : Nat} {ms : List S} {as : List E} {C : Addr} {ok : List Slot → Prop} (blt : ∀ x ∈ bltNames, mg x = none) (con : ∀ n d, G n = some d → ∃ v u, mg (nm.gl n) = some u ∧ RelV v u ∧ ∀ F, Rep K w F v d)
    (ih : ∀ f ss r, runF T G W k f ss = some r → C8.Cal P w K mg base j (nm.fn f) (spF K w (runF T G W k) f) [])
    {ga : Addr} {gd : FuncData} {gps : List Str} (FG : FnOk P w K mg base (L2.CX P w) j ga gd gps (spX K w C ok)) (mG : mg (nm.fn g) = some (.ref ga)) (kG : PySem.W.keepIn K (.ref ga) = true) (bG : Binds K gd gps [])
    (hc : chkPasser nm (tx f) ps ns ms g as = true) {fa : Addr} {fd : FuncData} (FD : FunD K (nm.fn f) (nm.fn f) (C8.fnArgs (tx f).st) (C8.fnBody (tx f).st) (C8.fnScope (tx f).st) [] [] fa fd) :
    FnOk P w K mg base (L2.CX P w) (j + 1) fa fd ((tx f).N.take ps) (spX K w C fun ss => ss.length = ps ∧ ∃ ρ ds ρ', evSs (runF T G W k) G W ms (BP.start ns ss) = some (.nx ρ) ∧ evEs (runF T G W k) G as ρ = some (ds, ρ') ∧ ok (ds.map .val)) := by
  unfold chkPasser chkHd at hc
  simp only [Bool.and_eq_true, decide_eq_true_eq] at hc
  obtain ⟨⟨⟨⟨⟨c1, c2⟩, c3⟩, c4⟩, c5⟩, c6, c7⟩ := hc
  have S := C8.fnScope_by c5
  have hpl : ((tx f).N.take ps).length = ps := by rw [List.length_take, c4]; omega
  refine FD.ok S (fun vs H Q E h => ?_) fun cdv A' outer s H vs Q E hr h => ?_
  · obtain ⟨L, F, ss, as, st, ⟨hl, _⟩, _⟩ := h
    have hl2 := st.env.len.1
    rw [List.length_map] at hl2
    rw [hpl, hl2, hl]
  · obtain ⟨L, F, ss, as0, st, ⟨hl, ρ, ds, ρ', e1, e2, hok⟩, kk⟩ := h
    split at c7
    · rename_i y p1 e es p2 p3 rest hb
      simp only [Bool.and_eq_true] at c7
      obtain ⟨⟨⟨c7, c8⟩, c8'⟩, c9⟩ := c7
      unfold chkN at c7
      simp only [Bool.and_eq_true, beq_iff_eq] at c7
      obtain ⟨⟨rfl, c10⟩, c11⟩ := c7
      have C' : COk nm (runF T G W k) G (cxOf (L2.CX P w) P w K mg base (tx f).N (nm.fn f) (C8.fnScope (tx f).st) fa cdv A' outer s H E).nox := by
        refine ⟨rfl, ?_, S.nd, rfl, blt, con, fun g ss r hg => ⟨j, hr, ih g ss r hg⟩⟩
        have := hr.un
        show (A'.deeper _).units + 65 < cLine
        omega
      have tk : Takes (cxOf (L2.CX P w) P w K mg base (tx f).N (nm.fn f) (C8.fnScope (tx f).st) fa cdv A' outer s H E) (fun cls d _ H => E cls d H) := takes_of rfl rfl rfl rfl
      have body : C8.fnBody (tx f).st = (C8.fnBody (tx f).st).take ms.length ++ (.Expr (.Call (.Name (nm.fn g) p1) (e :: es) [] p2) p3 :: rest) := by rw [← hb, List.take_append_drop]
      rw [body]
      refine ⟨_, pss_pre (W := W) C' rfl S.kind (fun _ => rfl) (pss_cons (ps_expr (pe_callS (E := WE fun cls d _ H => E cls d H) FG hr (gl_of c10) mG kG bG (fun σ => passAt tk σ) (PA_nox (sndEs as C' rfl c9).1) (okN_of c11).1 (notStar_eq c8 es _) (notStar_any c8' _ _))) pss_never) ms _ c6, ?_⟩
      have hlen := st.env.len.1
      rw [List.length_map] at hlen
      have env : EnvR K w F H (L ++ List.replicate (ns - ss.length) none) (L2.start (tx f).N vs) (BP.start ns ss) as0 := by
        have := st.env.append (EnvR.blank (K := K) (w := w) (F := F) (H := H) (ns - ss.length))
        rw [List.append_nil] at this
        unfold L2.start BP.start
        rw [c4, hlen]
        exact this
      refine ⟨_, F, BP.start ns ss, as0, ρ, ⟨st.sub, env, st.nd⟩, e1, fun F1 H1 σ1 as1 s1 st1 => ?_⟩
      exact tcall_go st1 e2 hok fun F2 H2 s2 sm => kk F2 H2 (s1.trans s2).drop sm
    · cases c7

/-- try: g(..) except e as n: return isinstance(n, b) .. -/
def chkCatcher (nm : Nm) (t : DT) (ps ns : Nat) (g : Nat) (as : List E) (e b : Str) (i : Nat) : Bool :=
  chkHd t ps ns &&
    match C8.fnBody t.st with
      | [.Try [.Expr (.Call (.Name y _) (a :: es) [] _) _] [.ExceptHandler (some (.Name x _)) (some n) [.Return (some (.Call (.Name z _) [.Name n2 _, .Name b2 _] [] _)) _] _] [] [] _, _] =>
        chkN (C8.fnScope t.st) y (nm.fn g) && notStar a && es.all notStar && chkEs nm t.N (C8.fnScope t.st) as (a :: es) && chkN (C8.fnScope t.st) x e && (t.N[i]? == some n) && locB (C8.fnScope t.st) n && (n2 == n) && okN n &&
          chkN (C8.fnScope t.st) z "isinstance" && chkN (C8.fnScope t.st) b2 b
      | _ => false
/-- it is caught -/
def spC (K : PySem.W.Frag) (w : World) (ok : List Slot → Prop) : Sp := fun vs H Q _ => ∃ L F ss as, StOk K w L F H (vs.map some) ss as ∧ ok ss ∧ ∀ F' H', Step F H as F' H' [] → Same F' H' → Q (.bl true) H'
theorem catcher_ok {k j f ps ns g i : Nat} {as : List E} {e b : Str} {C B : Addr} {ok : List Slot → Prop} (blt : ∀ x ∈ bltNames, mg x = none) (con : ∀ n d, G n = some d → ∃ v u, mg (nm.gl n) = some u ∧ RelV v u ∧ ∀ F, Rep K w F v d)
    (ih : ∀ f ss r, runF T G W k f ss = some r → C8.Cal P w K mg base j (nm.fn f) (spF K w (runF T G W k) f) []) (o : XcOk K mg e b C B)
    {ga : Addr} {gd : FuncData} {gps : List Str} (FG : FnOk P w K mg base (L2.CX P w) j ga gd gps (spX K w C ok)) (mG : mg (nm.fn g) = some (.ref ga)) (kG : PySem.W.keepIn K (.ref ga) = true) (bG : Binds K gd gps [])
    (hc : chkCatcher nm (tx f) ps ns g as e b i = true) {fa : Addr} {fd : FuncData} (FD : FunD K (nm.fn f) (nm.fn f) (C8.fnArgs (tx f).st) (C8.fnBody (tx f).st) (C8.fnScope (tx f).st) [] [] fa fd) :
    FnOk P w K mg base C8.CX0 (j + 1) fa fd ((tx f).N.take ps) (spC K w fun ss => ss.length = ps ∧ ∃ ds ρ', evEs (runF T G W k) G as (BP.start ns ss) = some (ds, ρ') ∧ ok (ds.map .val)) := by
  unfold chkCatcher chkHd at hc
  simp only [Bool.and_eq_true, decide_eq_true_eq] at hc
  obtain ⟨⟨⟨⟨⟨c1, c2⟩, c3⟩, c4⟩, c5⟩, c7⟩ := hc
  have S := C8.fnScope_by c5
  have hpl : ((tx f).N.take ps).length = ps := by rw [List.length_take, c4]; omega
  refine FD.ok S (fun vs H Q E h => ?_) fun cdv A' outer s H vs Q E hr h => ?_
  · obtain ⟨L, F, ss, as, st, ⟨hl, _⟩, _⟩ := h
    have hl2 := st.env.len.1
    rw [List.length_map] at hl2
    rw [hpl, hl2, hl]
  · obtain ⟨L, F, ss, as0, st, ⟨hl, ds, ρ', e2, hok⟩, kk⟩ := h
    split at c7
    · rename_i y p1 a es p2 p3 x p4 n z p5 n2 p6 b2 p7 p8 p9 p10 p11 last hb
      simp only [Bool.and_eq_true, beq_iff_eq] at c7
      obtain ⟨⟨⟨⟨⟨⟨⟨⟨⟨⟨d1, d2⟩, d3⟩, d4⟩, d5⟩, d6⟩, d7⟩, rfl⟩, d9⟩, d10⟩, d11⟩ := c7
      unfold chkN at d1 d5 d10 d11
      simp only [Bool.and_eq_true, beq_iff_eq] at d1 d5 d10 d11
      obtain ⟨⟨rfl, a1⟩, a2⟩ := d1
      obtain ⟨⟨rfl, a3⟩, a4⟩ := d5
      obtain ⟨⟨rfl, a5⟩, a6⟩ := d10
      obtain ⟨⟨rfl, a7⟩, a8⟩ := d11
      rw [hb]
      have cok : ∀ (pn : List (Addr × Obj)) (xe : Value → Shared → Prop), COk nm (runF T G W k) G ((cxOf C8.CX0 P w K mg base (tx f).N (nm.fn f) (C8.fnScope (tx f).st) fa cdv A' outer s H E).tr pn xe).nox := fun pn xe => by
        refine ⟨rfl, ?_, S.nd, rfl, blt, con, fun g ss r hg => ⟨j, hr, ih g ss r hg⟩⟩
        have := hr.un
        show (A'.deeper _).units + 65 < cLine
        omega
      have hloc : (C8.fnScope (tx f).st).names.lookup n2 = some .local := by unfold locB at d7; simpa using d7
      refine ⟨_, pss_cons (ps_try_as (i := i) (c := .ref C) (Wout := fun _ _ _ _ => False) (tb := fun W => tDrop (tCallS (spX K w C ok) (WE W) (tLst K w (evEs (runF T G _ k) G as))))
        (ts := fun a cls d D σ H => (cls = .ref C ∧ d = none) ∧ tRet (tCB (rIsE K C a) (tCons (tVar i) (tCons (tC (.ref B)) tNil))) D σ H)
        rfl rfl S.nd d6 hloc ⟨gl_of a3, (okN_of a4).1, .inl o.gC⟩ takes0 (fun W pn xe tk _ => pss_one (ps_expr (pe_callS FG hr (gl_of a1) mG kG bG (fun σ => passAt tk σ) (PA_nox (sndEs as (cok pn xe) rfl d4).1) (okN_of a2).1 (notStar_eq d2 es _) (notStar_any d3 _ _))))
        (fun a oe cls d pn hz hf => ?_)) pss_never, ?_⟩
      · refine pss_one ⟨fun pins s σ H D I h => ?_⟩
        obtain ⟨⟨rfl, rfl⟩, h⟩ := h
        exact (ps_ret (pe_callB (call_isE o.ec hz hf) (gl_of a5) (blt "isinstance" (by decide +kernel)) (by decide +kernel)
          (pa_cons (pe_var (i := i) d6 (.inl hloc) (okN_of d9).1 (okN_of d9).2.1) (pa_cons (pe_glob (v := .ref B) (gl_of a7) o.gB rfl (okN_of a8).1) pa_nil (notStar_eq rfl _ _)) (notStar_eq rfl _ _)) (by decide) (by decide) (notStar_eq rfl _ _) rfl)).run pins s σ H D I h
      · have hlen := st.env.len.1
        rw [List.length_map] at hlen
        have env : EnvR K w F H (L ++ List.replicate (ns - ss.length) none) (L2.start (tx f).N vs) (BP.start ns ss) as0 := by
          have := st.env.append (EnvR.blank (K := K) (w := w) (F := F) (H := H) (ns - ss.length))
          rw [List.append_nil] at this
          unfold L2.start BP.start
          rw [c4, hlen]
          exact this
        have hi : i < (L2.start (tx f).N vs).length := by
          have h1 : i < (tx f).N.length := by
            rcases Nat.lt_or_ge i (tx f).N.length with z | z
            · exact z
            · rw [List.getElem?_eq_none z] at d6; cases d6
          rw [env.len.1]
          unfold BP.start
          rw [List.length_append, List.length_replicate]
          omega
        refine tcall_go (C := C) ⟨st.sub, env, st.nd⟩ e2 hok fun F2 H2 s2 sm => ?_
        refine ⟨true, o.em, fun _ a ha => ⟨⟨rfl, rfl⟩, ?_⟩, fun h => by cases h⟩
        refine ⟨.ref a, by rw [List.getElem?_set_self hi], ?_⟩
        exact ⟨.ref B, .ref B, true, rfl, fun u hu => hu, o.kt, kk F2 H2 s2.drop sm⟩
    · cases c7
theorem hd_raiser {t : DT} {ps ns : Nat} {ms : List S} {m : E} {e : Str} (h : chkRaiser nm t ps ns ms m e = true) : chkHd t ps ns = true := by
  unfold chkRaiser at h
  rw [Bool.and_eq_true] at h
  exact h.1
theorem hd_passer {t : DT} {ps ns g : Nat} {ms : List S} {as : List E} (h : chkPasser nm t ps ns ms g as = true) : chkHd t ps ns = true := by
  unfold chkPasser at h
  rw [Bool.and_eq_true] at h
  exact h.1
theorem hd_catcher {t : DT} {ps ns g i : Nat} {as : List E} {e b : Str} (h : chkCatcher nm t ps ns g as e b i = true) : chkHd t ps ns = true := by
  unfold chkCatcher at h
  rw [Bool.and_eq_true] at h
  exact h.1
theorem vals_L {F H : Hp} : ∀ {L : List (Option Addr)} {σ : L2.St} {ds : List D} {as : List Addr}, EnvR K w F H L σ (ds.map Slot.val) as → L.filterMap id = [] ∧ as = []
  | _, _, [], _, h => by cases h; exact ⟨rfl, rfl⟩
  | _, _, d :: ds, _, h => by
    rw [List.map_cons] at h
    cases h with
    | cons s r =>
      obtain ⟨h1, h2⟩ := vals_L (ds := ds) r
      cases s with
      | val q => exact ⟨by simpa using h1, by simpa using h2⟩
/-- what is caught, as the interpreter has it -/
theorem spC_of {Φ : Calls} {f : Nat} {ok : List Slot → Prop} (h : ∀ ss r, Φ f ss = some r → r = (.val (.bl true), none) ∧ ok ss ∧ ∃ ds : List D, ss = ds.map .val) : ∀ vs H Q EX, spF K w Φ f vs H Q EX → spC K w ok vs H Q EX := by
  rintro vs H Q EX ⟨L, F, ss, as, r, o, st, hL, e, k⟩
  obtain ⟨e1, e2, ds, rfl⟩ := h ss (r, o) e
  cases e1
  obtain ⟨l1, rfl⟩ := vals_L st.env
  exact ⟨L, F, _, [], st, e2, fun F' H' s sm => k F' H' (.bl true) [] [] s sm (.none l1) (.val (.bl true)) .nil⟩
end
end BP

set_option maxRecDepth 100000
set_option maxHeartbeats 4000000
namespace BP.K14
open PySem PySem.Spec PyProof.Rows L2
def tst : BP.E := (.or (.not (.call 0 [(.var 1)])) (.not (.chn .le .lt (.cst (.int 0)) (.var 1) (.blt .len [(.call 8 [(.var 0)])]))))
section
variable {T : Nat → Option Def} {G : Nat → Option D} {W : Nat}
theorem isnum_run (h0 : T 0 = some d_is_number) (k : Nat) (d : D) (b : Bool) (h : (∃ i, d = .int i ∧ b = true) ∨ (d ∈ [D.non, .bl true, .str [48], .tup [.int 0]] ∧ b = false)) : runF T G W (k + 1) 0 [.val d] = some (.val (.bl b), none) := by
  rw [runF_fn h0 _ rfl (by decide)]
  rcases h with ⟨i, rfl, rfl⟩ | ⟨h, rfl⟩
  · simp [start]
  · simp at h
    rcases h with rfl | rfl | rfl | rfl <;> rfl
theorem tst_run (A : LawT T G) (k : Nat) (hk : 17 ≤ k) (p : Prog) (ok : okProg p = true) (d : D) (hd : d ∈ odds p.all.length) : evE (runF T G W k) G tst [.val (encP p), .val d] = some (.val (.bl true), [.val (encP p), .val d]) := by
  obtain ⟨k, rfl⟩ : ∃ k', k = k' + 1 := ⟨k - 1, by omega⟩
  have F := okProg_fit ok
  have hl := okProg_len ok
  have h8 := all_run A.toPrT (W := W) p F (k + 1) (by omega)
  unfold tst
  have hn : (∃ i, d = .int i ∧ ¬ (0 ≤ i ∧ i < p.all.length)) ∨ d ∈ [D.non, .bl true, .str [48], .tup [.int 0]] := by
    simp at hd ⊢
    rcases hd with rfl | rfl | rfl | rfl | rfl | rfl | rfl
    · exact .inl ⟨_, rfl, by omega⟩
    · exact .inl ⟨_, rfl, by omega⟩
    · exact .inl ⟨_, rfl, by omega⟩
    all_goals simp
  rcases hn with ⟨i, rfl, hi⟩ | h
  · have h0 := isnum_run (G := G) (W := W) A.t0 k (.int i) true (.inl ⟨i, rfl, rfl⟩)
    by_cases c : 0 ≤ i
    · have c2 : ¬ i < p.all.length := fun z => hi ⟨c, z⟩
      simp [h0, h8, c, c2]
    · simp [h0, h8, c]
  · have h0 := isnum_run (G := G) (W := W) A.t0 k d false (.inr ⟨h, rfl⟩)
    simp [h0]
end
theorem lawT : LawT (TOf rows) (GOf cons) := by
  constructor <;> first | rfl | (constructor <;> first | rfl | (constructor <;> rfl))
theorem only34 {f ps : Nat} {g : Nat → List Slot → Option (Ret × Option O)} (h : TOf rows f = some (.ext ps g)) : f = 34 ∧ ps = 2 ∧ g = g34 := by
  unfold TOf at h
  cases e : rows.lookup f with
  | none => rw [e] at h; cases h
  | some r =>
    rw [e] at h
    have hm := lookup_mem e
    have hd : r.d = .ext ps g := Option.some.inj h
    have key : ∀ x ∈ rows, (∃ a b c, x.2.d = .fn a b c) ∨ x = (34, ⟨"_law_refused", 45, ["_law_program_here", "_law_number", "e"], d_x_law_refused⟩) := by
      intro x hx
      unfold rows at hx
      simp only [List.mem_cons, List.not_mem_nil, or_false] at hx
      rcases hx with h | h | h | h | h | h | h | h | h | h | h | h | h | h | h | h | h | h | h | h | h | h | h | h | h | h | h | h | h | h | h | h | h | h | h | h <;> subst h <;> first | exact .inl ⟨_, _, _, rfl⟩ | exact .inr rfl
    rcases key _ hm with ⟨a, b, c, z⟩ | z
    · rw [hd] at z; cases z
    · cases z
      cases hd
      exact ⟨rfl, rfl, rfl⟩
end BP.K14

set_option maxRecDepth 100000
set_option maxHeartbeats 0
namespace BP.K14
open PySem PySem.Spec PyProof.Rows L2
noncomputable abbrev fa : List He.Fa := faOf rows
noncomputable abbrev fn : List He.DefD := fnOfR prog rows
abbrev cs : List (Str × D) := csOf cons
abbrev xs : List (Str × Str) := [("InvalidNumber", "PrintError")]
abbrev R : PySem.W.OpenRow := PySem.W.OpenLaw.row PySem.Challenge.rw_breakprints_k14_statements_left_out
noncomputable abbrev hk : PySem.W.Hook := hookB 4 fa fn cs xs
noncomputable def ob (s : PySem.W.SharedT) : He.AlD := obsBG 4 fa fn cs xs (HandSHeadRun.getT s)
theorem ob_eq (s : PySem.W.SharedT) : ob s = hk.obs s.abs := obsBG_eq (HandSHeadRun.getT_eq s)
def names1 : List PySem.Str := ["PrintError", "InvalidProgram", "InvalidNumber", "SIGNS", "SUMS", "FLAGS", "MOST_STATEMENTS", "MOST_DEEP"]
noncomputable def names2 : List PySem.Str := (rows.map fun r => r.2.nm).filter fun x => !(x == ("law" : Str))
noncomputable def names : List PySem.Str := names1 ++ names2
theorem run (w : World) : HandSHeadRun.RunEq R (PySem.W.view R.prog [46]) hk ob 4000 names w := by
  intro os
  kernel_rfl
end BP.K14

set_option maxRecDepth 100000
set_option maxHeartbeats 0
namespace BP.K14
open PySem PySem.Spec PyProof.Rows L2
noncomputable def tx : Nat → DT := txOf prog rows
theorem chk11 : chkRaiser (nmOf rows cons) (tx 11) 2 2 [] tst "InvalidNumber" = true := by decide +kernel
theorem chk16 : chkPasser (nmOf rows cons) (tx 16) 2 2 [.drop (.call 10 [(.var 0)])] 11 [.var 0, .var 1] = true := by decide +kernel
theorem chk34 : chkCatcher (nmOf rows cons) (tx 34) 2 3 16 [.var 0, .var 1] "InvalidNumber" "PrintError" 2 = true := by decide +kernel
theorem ext_ok {w : World} {K : PySem.W.Frag} {h base : Heap} {mg : Str → Option Value} (X : K.In h) (Gg : h.Ns mainGlobals mg) (c : SaysB fa fn cs xs K) : ∀ f ps g, TOf rows f = some (.ext ps g) → ∀ k, (∀ f ss r, runF (TOf rows) (GOf cons) 0 k f ss = some r → C8.Cal prog w K mg base (3 * k) ((nmOf rows cons).fn f) (spF K w (runF (TOf rows) (GOf cons) 0 k) f) []) →
      C8.Cal prog w K mg base (3 * (k + 1)) ((nmOf rows cons).fn f) (spF K w (runF (TOf rows) (GOf cons) 0 (k + 1)) f) [] := by
  intro f ps g hT k ih
  obtain ⟨rfl, rfl, rfl⟩ := only34 hT
  obtain ⟨c1, _, cx⟩ := c.says
  have A := top_ok (w := w) X Gg c all_chk
  have o := xcB_ok X Gg (cx ("InvalidNumber", "PrintError") List.mem_cons_self)
  obtain ⟨fd11, F11⟩ := says_fd c1 (f := 11) (r := ⟨"need_statement_number", 21, ["program", "value"], d_need_statement_number⟩) rfl
  obtain ⟨fd16, F16⟩ := says_fd c1 (f := 16) (r := ⟨"without", 26, ["program", "number"], d_without⟩) rfl
  obtain ⟨fd34, F34⟩ := says_fd c1 (f := 34) (r := ⟨"_law_refused", 45, ["_law_program_here", "_law_number", "e"], d_x_law_refused⟩) rfl
  have m11 := says_glo X Gg c1 (f := 11) (r := ⟨"need_statement_number", 21, ["program", "value"], d_need_statement_number⟩) rfl
  have m16 := says_glo X Gg c1 (f := 16) (r := ⟨"without", 26, ["program", "number"], d_without⟩) rfl
  have m34 := says_glo X Gg c1 (f := 34) (r := ⟨"_law_refused", 45, ["_law_program_here", "_law_number", "e"], d_x_law_refused⟩) rfl
  have R11 := raiser_ok (P := prog) (w := w) (base := base) (tx := tx) (f := 11) A.blt A.con ih o chk11 F11
  have b11 := hd_binds (hd_raiser chk11) F11
  have ih1 : ∀ f ss r, runF (TOf rows) (GOf cons) 0 k f ss = some r → C8.Cal prog w K mg base (3 * k + 1) ((nmOf rows cons).fn f) (spF K w (runF (TOf rows) (GOf cons) 0 k) f) [] := fun f ss r e => by
    obtain ⟨f1, fd, ps, ds, q, rest⟩ := ih f ss r e
    exact ⟨f1, fd, ps, ds, q.mono (by omega), rest⟩
  have ih2 : ∀ f ss r, runF (TOf rows) (GOf cons) 0 k f ss = some r → C8.Cal prog w K mg base (3 * k + 2) ((nmOf rows cons).fn f) (spF K w (runF (TOf rows) (GOf cons) 0 k) f) [] := fun f ss r e => by
    obtain ⟨f1, fd, ps, ds, q, rest⟩ := ih f ss r e
    exact ⟨f1, fd, ps, ds, q.mono (by omega), rest⟩
  have R16 := passer_ok (tx := tx) (f := 16) (g := 11) A.blt A.con ih1 R11 m11 F11.kp b11 chk16 F16
  have b16 := hd_binds (hd_passer chk16) F16
  have R34 := catcher_ok (tx := tx) (f := 34) (g := 16) A.blt A.con ih2 o R16 m16 F16.kp b16 chk34 F34
  have b34 := hd_binds (hd_catcher chk34) F34
  refine ⟨_, fd34, _, [], R34.imp (spC_of fun ss r e => ?_), m34, F34.kp, b34, .nil⟩
  have e' : (if ss.length = 2 then g34 k ss else none) = some r := by
    unfold runF at e
    rw [hT] at e
    exact e
  split at e'
  · rename_i hl
    unfold g34 at e'
    split at e'
    · rename_i hh
      cases e'
      obtain ⟨hk, p, d, ok, rfl, hd⟩ := hh
      have Lw : LawT (TOf rows) (GOf cons) := lawT
      have F := okProg_fit ok
      have h10 := need_run Lw.toPrT (W := 0) p F ok k (by omega)
      have ht := tst_run (W := 0) Lw k hk p ok d hd
      refine ⟨rfl, ⟨rfl, [encP p, d], BP.start 3 [.val (encP p), .val d], rfl, rfl, [.val (encP p), .val d], [encP p, d], [.val (encP p), .val d], ?_, rfl, rfl, [.val (encP p), .val d], _, rfl, ht⟩, [encP p, d], rfl⟩
      simp [start, h10]
    · cases e'
  · cases e'
end BP.K14

set_option maxRecDepth 100000
set_option maxHeartbeats 0
namespace BP.K14
open PySem PySem.Spec PyProof.Rows L2
def K0 : Nat := 59
theorem refuses : Refuses (TOf rows) (GOf cons) 0 K0 := by
  intro p ok d hd
  have e : runF (TOf rows) (GOf cons) 0 K0 34 [.val (encP p), .val d] = if ([.val (encP p), .val d] : List Slot).length = 2 then g34 58 [.val (encP p), .val d] else none := by
    show runF _ _ _ (58 + 1) _ _ = _
    unfold runF
    rfl
  rw [e, if_pos (show ([.val (encP p), .val d] : List Slot).length = 2 from rfl)]
  exact if_pos ⟨by omega, p, d, ok, rfl, hd⟩
theorem law_true : ∀ ns : List Int, ns.length ≤ 63 → runF (TOf rows) (GOf cons) 0 (K0 + 1) 35 [.val (.scr ns)] = some (.val (.bl true), none) := fun ns h =>
  law_run lawT K0 (by unfold K0; omega) refuses ns (by omega) rfl
theorem facts {w : World} {K : PySem.W.Frag} {h : Heap} {mg : Str → Option Value} {f : Addr} (X : K.In h) (G : h.Ns mainGlobals mg) (hfa : mg ("law" : Str) = some (.ref f)) (c : SaysB fa fn cs xs K) :
    ∃ fd : FuncData, (∀ base : Heap, FnOk prog w K mg base C8.CX0 (3 * (K0 + 1)) f fd ["_law_script"] (spF K w (runF (TOf rows) (GOf cons) 0 (K0 + 1)) 35)) ∧ (∀ (s : Shared) (v : Value), BindsTo s fd ⟨[v], []⟩ [("_law_script", v)]) :=
  law_fn (W := 0) (P := prog) (top_ok (w := w) X G c all_chk) (fun base => ext_ok X G c) (k := K0) (f := 35) rfl rfl hfa
end BP.K14
open PySem PySem.W PySem.Calls PyProof.Rows
theorem PySem.Challenge.cw_breakprints_k14_statements_left_out_holds : PySem.Challenge.rw_breakprints_k14_statements_left_out.Holds := by
  w_on; o_law
  refine HandSHeadRun.head_any (r := OpenLaw.row PySem.Challenge.rw_breakprints_k14_statements_left_out) (q := view (OpenLaw.row PySem.Challenge.rw_breakprints_k14_statements_left_out).prog [46]) (H := BP.K14.hk) (ob := BP.K14.ob) (M := 4000) (loose := BP.K14.names) (d := HandSHeadRun.topDef (OpenLaw.row PySem.Challenge.rw_breakprints_k14_statements_left_out).prog 46) (kwd := []) BP.K14.ob_eq
    (by kernel_rfl) (fun s => by kernel_rfl) BP.K14.run (by kernel_rfl) (by kernel_rfl) (by kernel_rfl) (by rfl) (by first | assumption | decide +kernel) (by decide +kernel) ⟨rfl, rfl, rfl, rfl, rfl, by decide +kernel⟩ ?hw ?hc
  case hw => w_witness2
  case hc =>
    refine L2.walk_ofE (l := PySem.Challenge.rw_breakprints_k14_statements_left_out) (n := 63) (k := 3 * (BP.K14.K0 + 1)) (x := "_law_script") (CX := C8.CX0) rfl (by decide) (by kernel_rfl) ⟨rfl, by decide, by decide⟩ ?F (fun _ _ _ _ z => z)
    intro w mg fa h Y G hmg0
    obtain ⟨K, KX, c⟩ := Y
    have hmg : mg ("law" : PySem.Str) = some (.ref fa) := by
      have e : (HandSHeadRun.topDef (OpenLaw.row PySem.Challenge.rw_breakprints_k14_statements_left_out).prog 46).name = ("law" : PySem.Str) := by kernel_rfl
      rw [← e]
      exact hmg0
    obtain ⟨fd, hF, hb⟩ := BP.K14.facts (w := w) KX G hmg c
    exact ⟨K, fd, _, KX, hb, fun H a ns hl _ hS => BP.law_sp BP.K14.law_true hl hS, fun base _ _ => hF base⟩
