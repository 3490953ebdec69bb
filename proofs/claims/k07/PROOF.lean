import PyProof.Rows.All
import Wide.All
import OpenK.AllK
import Wide.FinOn
import HandS.ForMost
import HandS.Walk
import HandS.Rev
import HandS.IsInst
import HandS.TupAny
import HandS.TupLen
import HandS.Style
import HandS.Flow
import HandS.WordsExc
import PySem.Challenge.RW_patternback_k07_nets
set_option Elab.async false
set_option linter.all false
set_option autoImplicit false
set_option maxRecDepth 100000
set_option maxHeartbeats 4000000
section
/-! Mini: a pure evaluator for the fragment of Python that the program and the laws use. -/
namespace Mini

/-- an answer, an own exception (by its number), or: not covered -/
inductive R (α : Type) where
  | ok (a : α) | exc (c : Nat) | bad
namespace R
def bind {α β : Type} : R α → (α → R β) → R β
  | .ok a, f => f a
  | .exc c, _ => .exc c
  | .bad, _ => .bad
@[simp] theorem bind_ok {α β : Type} (a : α) (f : α → R β) : (R.ok a).bind f = f a := (rfl : _ = _).trans rfl
@[simp] theorem bind_bad {α β : Type} (f : α → R β) : (R.bad : R α).bind f = .bad := (rfl : _ = _).trans rfl
@[simp] theorem bind_exc {α β : Type} (c : Nat) (f : α → R β) : (R.exc c : R α).bind f = .exc c := (rfl : _ = _).trans rfl
/-- a part that is not covered -/
def of {α : Type} : Option α → R α
  | some a => .ok a
  | none => .bad
@[simp] theorem of_some {α : Type} (a : α) : R.of (some a) = .ok a := (rfl : _ = _).trans rfl
@[simp] theorem of_none {α : Type} : (R.of none : R α) = .bad := (rfl : _ = _).trans rfl
/-- no exception may leave here -/
def nox {α : Type} : R α → R α
  | .ok a => .ok a
  | _ => .bad
@[simp] theorem nox_ok {α : Type} (a : α) : (R.ok a).nox = .ok a := (rfl : _ = _).trans rfl
end R

/-- data -/
inductive D where
  | non | bl (b : Bool) | int (i : Int) | str (s : List Nat)
  | tup (ds : List D) | lst (ds : List D) | scr (ns : List Int) | own (k : Nat) | dic (n : Nat)

/-- owned objects: a list, a dict of zints, a dict of tuples of zints (all values True) -/
inductive Ob where
  | L (ds : List D) | DI (ks : List Int) | DT (ks : List (List Int))

abbrev Env := List (Option D)
abbrev Sto := List Ob
abbrev M := Env → Sto → R (D × Sto)
abbrev T := Env → Sto → R (Bool × Sto)
abbrev A := Env → Sto → R (List D × Sto)
abbrev PO := Env → Sto → R (Option Int × Sto)
inductive O where
  | nx (e : Env) | rt (d : D) | bk (e : Env) | ct (e : Env)
abbrev S := Env → Sto → R (O × Sto)
abbrev F := List D → Sto → R (D × Sto)

/-- the longest sequence -/
abbrev line : Nat := 16777216
@[simp] theorem line_eq : line = 16777216 := (rfl : _ = _).trans rfl

/-! ### values -/
mutual
def deq : D → D → Bool
  | .non, .non => true
  | .bl a, .bl b => a == b
  | .int a, .int b => a == b
  | .bl a, .int b => (if a then 1 else 0) == b
  | .int a, .bl b => a == (if b then 1 else 0)
  | .str a, .str b => a == b
  | .tup a, .tup b => deqL a b
  | .lst a, .lst b => deqL a b
  | _, _ => false
def deqL : List D → List D → Bool
  | [], [] => true
  | x :: xs, y :: ys => deq x y && deqL xs ys
  | _, _ => false
end
mutual
/-- data that == walks: no script, no owned object; its depth -/
@[simp] def plain : D → Bool
  | .scr _ => false
  | .own _ => false
  | .dic _ => false
  | .str z => z.all fun c => decide (c < 1114112)
  | .tup ds => plainL ds
  | .lst ds => plainL ds
  | _ => true
@[simp] def plainL : List D → Bool
  | [] => true
  | d :: ds => plain d && plainL ds
end
mutual
def dep : D → Nat
  | .tup ds => depL ds + 1
  | .lst ds => depL ds + 1
  | _ => 0
def depL : List D → Nat
  | [] => 0
  | d :: ds => max (dep d) (depL ds)
end
/-- an owned list is seen as a list -/
def rz (s : Sto) : D → D
  | .own k => match s[k]? with
    | some (.L ds) => .lst ds
    | _ => .own k
  | d => d
@[simp] theorem rz_non (s : Sto) : rz s .non = .non := (rfl : _ = _).trans rfl
@[simp] theorem rz_bl (s : Sto) (b : Bool) : rz s (.bl b) = .bl b := (rfl : _ = _).trans rfl
@[simp] theorem rz_int (s : Sto) (i : Int) : rz s (.int i) = .int i := (rfl : _ = _).trans rfl
@[simp] theorem rz_str (s : Sto) (z : List Nat) : rz s (.str z) = .str z := (rfl : _ = _).trans rfl
@[simp] theorem rz_tup (s : Sto) (ds : List D) : rz s (.tup ds) = .tup ds := (rfl : _ = _).trans rfl
@[simp] theorem rz_lst (s : Sto) (ds : List D) : rz s (.lst ds) = .lst ds := (rfl : _ = _).trans rfl
@[simp] theorem rz_scr (s : Sto) (ns : List Int) : rz s (.scr ns) = .scr ns := (rfl : _ = _).trans rfl
@[simp] theorem rz_dic (s : Sto) (n : Nat) : rz s (.dic n) = .dic n := (rfl : _ = _).trans rfl
theorem rz_own {s : Sto} {k : Nat} {ds : List D} (h : s[k]? = some (.L ds)) : rz s (.own k) = .lst ds := by simp only [rz, h]
theorem rz_ownT {s : Sto} {k : Nat} {ks : List (List Int)} (h : s[k]? = some (.DT ks)) : rz s (.own k) = .own k := by simp only [rz, h]
theorem rz_ownI {s : Sto} {k : Nat} {ks : List Int} (h : s[k]? = some (.DI ks)) : rz s (.own k) = .own k := by simp only [rz, h]
@[simp] def flat : D → Bool
  | .bl _ => true
  | .int _ => true
  | .str _ => true
  | .non => true
  | _ => false
def pos (n : Nat) (i : Int) : Option Nat := if 0 ≤ i then (if i < n then some i.toNat else none) else if -(n : Int) ≤ i then some (i + n).toNat else none
def six (n d : Nat) : Option Int → Nat
  | none => d
  | some v => if v < 0 then (v + (n : Int)).toNat else min v.toNat n
def cut {α : Type} (xs : List α) (lo hi : Option Int) : List α := (xs.drop (six xs.length 0 lo)).take (six xs.length xs.length hi - six xs.length 0 lo)
def glue (sep : List Nat) : List (List Nat) → List Nat
  | [] => []
  | [x] => x
  | x :: y :: r => x ++ sep ++ glue sep (y :: r)
@[simp] def zstrs : List D → Option (List (List Nat))
  | [] => some []
  | .str s :: r => (zstrs r).map (s :: ·)
  | _ :: _ => none
@[simp] def bls : List D → Option (List Bool)
  | [] => some []
  | .bl s :: r => (bls r).map (s :: ·)
  | _ :: _ => none
@[simp] def zints : List D → Option (List Int)
  | [] => some []
  | .int s :: r => (zints r).map (s :: ·)
  | _ :: _ => none
mutual
/-- nothing owned within -/
@[simp] def free : D → Bool
  | .own _ => false
  | .tup ds => freeL ds
  | .lst ds => freeL ds
  | _ => true
@[simp] def freeL : List D → Bool
  | [] => true
  | d :: ds => free d && freeL ds
end
/-- .. or nothing is owned at all -/
@[simp] def chk (s : Sto) (ds : List D) : Bool := s.isEmpty || freeL ds
def small64 (i : Int) : Prop := -(2 ^ 64) < i ∧ i < 2 ^ 64
instance (i : Int) : Decidable (small64 i) := inferInstanceAs (Decidable (_ ∧ _))

/-! ### operators on two values (owned lists are seen as lists) -/
abbrev Op := Sto → D → D → Option D
@[simp] def opAdd : Op
  | _, .int i, .int j => some (.int (i + j))
  | _, .str a, .str b => if a.length + b.length ≤ line then some (.str (a ++ b)) else none
  | _, .lst a, .lst b => if a.length + b.length ≤ line then some (.lst (a ++ b)) else none
  | _, _, _ => none
@[simp] def opSub : Op
  | _, .int i, .int j => some (.int (i - j))
  | _, _, _ => none
@[simp] def opMul : Op
  | _, .int i, .int j => if small64 i ∨ small64 j then some (.int (i * j)) else none
  | _, .lst a, .int k => if 0 ≤ k ∧ k < 2 ^ 63 ∧ a.length * k.toNat ≤ line then some (.lst (List.replicate k.toNat a).flatten) else none
  | _, .str a, .int k => if 0 ≤ k ∧ k ≤ 1000 ∧ a.length ≤ 1000 then some (.str (List.replicate k.toNat a).flatten) else none
  | _, _, _ => none
@[simp] def opDiv : Op
  | _, .int i, .int j => if 0 < j ∧ j < 1073741824 then some (.int (i / j)) else none
  | _, _, _ => none
@[simp] def opMod : Op
  | _, .int i, .int j => if 0 < j then some (.int (i % j)) else none
  | _, _, _ => none
@[simp] def cmI (p : Int → Int → Bool) : Op
  | _, .int i, .int j => some (.bl (p i j))
  | _, _, _ => none
abbrev opLt : Op := cmI fun i j => decide (i < j)
abbrev opLe : Op := cmI fun i j => decide (i ≤ j)
abbrev opGt : Op := cmI fun i j => decide (j < i)
abbrev opGe : Op := cmI fun i j => decide (j ≤ i)
def eqB : D → D → Option Bool
  | .int i, .int j => some (decide (i = j))
  | .str a, .str b => some (decide (a = b))
  | .bl a, .bl b => some (decide (a = b))
  | x, y => if plain x = true ∧ plain y = true ∧ dep x ≤ 60 ∧ dep y ≤ 60 then some (deq x y) else none
@[simp] def opEq : Op := fun _ x y => (eqB x y).map .bl
@[simp] def opNe : Op := fun _ x y => (eqB x y).map fun b => .bl (!b)
def inD (x : D) (ds : List D) : Bool := ds.any fun y => deq y x
def opInB (s : Sto) : D → D → Option Bool
  | .str [c], .str z => some (decide (c ∈ z))
  | x, .lst ds => if flat x && ds.all flat then some (inD x ds) else none
  | x, .tup ds => if flat x && ds.all flat then some (inD x ds) else none
  | .int i, .own k => match s[k]? with
    | some (.DI ks) => some (decide (i ∈ ks))
    | _ => none
  | .tup ds, .own k => match s[k]?, zints ds with
    | some (.DT ks), some js => some (decide (js ∈ ks))
    | _, _ => none
  | _, _ => none
@[simp] def opIn : Op := fun s x y => (opInB s x y).map .bl
@[simp] def opNotIn : Op := fun s x y => (opInB s x y).map fun b => .bl (!b)
/-- is: with None, or two truths -/
def opIsB : D → D → Option Bool
  | .non, .non => some true
  | _, .non => some false
  | .bl a, .bl b => some (a == b)
  | _, _ => none
@[simp] def opIs : Op := fun _ x y => (opIsB x y).map .bl
@[simp] def opIsNot : Op := fun _ x y => (opIsB x y).map fun b => .bl (!b)
def opIx : Op
  | _, .lst ds, .int i => (pos ds.length i).bind fun j => ds[j]?
  | _, .tup ds, .int i => (pos ds.length i).bind fun j => ds[j]?
  | _, .str z, .int i => if z.length ≤ line then ((pos z.length i).bind fun j => z[j]?).map fun c => .str [c] else none
  | _, .scr ns, .int i => ((pos ns.length i).bind fun j => ns[j]?).map .int
  | _, _, _ => none

/-- the sign at a place -/
def at0 (z : List Nat) (k : Nat) : Nat := z.getD k 0
@[simp] theorem eqB_int (i j : Int) : eqB (.int i) (.int j) = some (decide (i = j)) := (rfl : _ = _).trans rfl
@[simp] theorem eqB_str (i j : List Nat) : eqB (.str i) (.str j) = some (decide (i = j)) := (rfl : _ = _).trans rfl
@[simp] theorem eqB_bl (i j : Bool) : eqB (.bl i) (.bl j) = some (decide (i = j)) := (rfl : _ = _).trans rfl
@[simp] theorem eqB_lst (i j : List D) : eqB (.lst i) (.lst j) = if plainL i = true ∧ plainL j = true ∧ depL i ≤ 59 ∧ depL j ≤ 59 then some (deqL i j) else none := by
  simp [eqB, plain, dep, deq]
@[simp] theorem eqB_tup (i j : List D) : eqB (.tup i) (.tup j) = if plainL i = true ∧ plainL j = true ∧ depL i ≤ 59 ∧ depL j ≤ 59 then some (deqL i j) else none := by
  simp [eqB, plain, dep, deq]
@[simp] theorem opInB_sg (s : Sto) (c : Nat) (z : List Nat) : opInB s (.str [c]) (.str z) = some (decide (c ∈ z)) := (rfl : _ = _).trans rfl
theorem opInB_lst (s : Sto) (x : D) (ds : List D) (h : flat x = true) (h2 : ds.all flat = true) : opInB s x (.lst ds) = some (inD x ds) := by
  unfold opInB; split <;> simp_all
theorem opInB_tup (s : Sto) (x : D) (ds : List D) (h : flat x = true) (h2 : ds.all flat = true) : opInB s x (.tup ds) = some (inD x ds) := by
  unfold opInB; split <;> simp_all
theorem opInB_DI {s : Sto} {k : Nat} {ks : List Int} (h : s[k]? = some (.DI ks)) (i : Int) : opInB s (.int i) (.own k) = some (decide (i ∈ ks)) := by
  simp only [opInB, h]
theorem opInB_DT {s : Sto} {k : Nat} {ks : List (List Int)} (h : s[k]? = some (.DT ks)) {ds : List D} {js : List Int} (hj : zints ds = some js) : opInB s (.tup ds) (.own k) = some (decide (js ∈ ks)) := by
  simp only [opInB, h, hj]
@[simp] theorem opIsB_nn : opIsB .non .non = some true := (rfl : _ = _).trans rfl
@[simp] theorem opIsB_bb (a b : Bool) : opIsB (.bl a) (.bl b) = some (a == b) := (rfl : _ = _).trans rfl
@[simp] theorem opIsB_in (i : Int) : opIsB (.int i) .non = some false := (rfl : _ = _).trans rfl
@[simp] theorem opIsB_tn (i : List D) : opIsB (.tup i) .non = some false := (rfl : _ = _).trans rfl
@[simp] theorem opIsB_ln (i : List D) : opIsB (.lst i) .non = some false := (rfl : _ = _).trans rfl
@[simp] theorem opIsB_bn (i : Bool) : opIsB (.bl i) .non = some false := (rfl : _ = _).trans rfl
@[simp] theorem opIx_tup (s : Sto) (ds : List D) (i : Int) : opIx s (.tup ds) (.int i) = (pos ds.length i).bind fun j => ds[j]? := (rfl : _ = _).trans rfl
@[simp] theorem opIx_lst (s : Sto) (ds : List D) (i : Int) : opIx s (.lst ds) (.int i) = (pos ds.length i).bind fun j => ds[j]? := (rfl : _ = _).trans rfl
@[simp] theorem opIx_scr (s : Sto) (ns : List Int) (i : Int) : opIx s (.scr ns) (.int i) = ((pos ns.length i).bind fun j => ns[j]?).map .int := (rfl : _ = _).trans rfl
theorem opIx_str (s : Sto) (z : List Nat) (i : Int) (h0 : 0 ≤ i) (h1 : i < z.length) (hl : z.length ≤ line) : opIx s (.str z) (.int i) = some (.str [at0 z i.toNat]) := by
  have h2 : i.toNat < z.length := by omega
  simp [opIx, pos, h0, h1, show z.length ≤ 16777216 from hl, h2, at0]

/-! ### expressions -/
def mV (i : Nat) : M := fun e s => match e[i]? with
  | some (some d) => .ok (d, s)
  | _ => .bad
def mC (d : D) : M := fun _ s => .ok (d, s)
def aNil : A := fun _ s => .ok ([], s)
def aCons (m : M) (a : A) : A := fun e s => (m e s).bind fun p => (a e p.2).bind fun q => .ok (p.1 :: q.1, q.2)
def mTup (a : A) : M := fun e s => (a e s).bind fun p => if p.1.length ≤ 100 then .ok (.tup p.1, p.2) else .bad
def mLst (a : A) : M := fun e s => (a e s).bind fun p => if p.1.length ≤ 100 ∧ chk p.2 p.1 = true then .ok (.lst p.1, p.2) else .bad
def mOp (f : Op) (a b : M) : M := fun e s => (a e s).bind fun p => (b e p.2).bind fun q => (R.of (f q.2 (rz q.2 p.1) (rz q.2 q.1))).bind fun d => .ok (d, q.2)
def mNeg (a : M) : M := fun e s => (a e s).bind fun p => match p.1 with
  | .int i => .ok (.int (-i), p.2)
  | _ => .bad
@[simp] def isBl : D → Option Bool
  | .bl b => some b
  | _ => none
def mAnd (a b : M) : M := fun e s => (a e s).bind fun p => (R.of (isBl p.1)).bind fun c => if c = true then b e p.2 else .ok (.bl false, p.2)
def mOr (a b : M) : M := fun e s => (a e s).bind fun p => (R.of (isBl p.1)).bind fun c => if c = true then .ok (.bl true, p.2) else b e p.2
def mNot (a : M) : M := fun e s => (a e s).bind fun p => (R.of (isBl p.1)).bind fun c => .ok (.bl (!c), p.2)
def mIf (t : T) (a b : M) : M := fun e s => (t e s).bind fun p => if p.1 = true then a e p.2 else b e p.2
/-- a f b g c -/
def mChain (f g : Op) (a b c : M) : M := fun e s => (a e s).bind fun p => (b e p.2).bind fun q => (R.of ((f q.2 (rz q.2 p.1) (rz q.2 q.1)).bind isBl)).bind fun k =>
  if k = true then (c e q.2).bind fun r => (R.of (g r.2 (rz r.2 q.1) (rz r.2 r.1))).bind fun d => .ok (d, r.2) else .ok (.bl false, q.2)
def poN : PO := fun _ s => .ok (none, s)
def poS (m : M) : PO := fun e s => (m e s).bind fun p => match p.1 with
  | .int i => .ok (some i, p.2)
  | _ => .bad
@[simp] def slD (lo hi : Option Int) : D → Option D
  | .lst ds => some (.lst (cut ds lo hi))
  | .tup ds => some (.tup (cut ds lo hi))
  | .str z => if z.length ≤ line then some (.str (cut z lo hi)) else none
  | .scr ns => some (.lst ((cut ns lo hi).map .int))
  | _ => none
def mSl (a : M) (lo hi : PO) : M := fun e s => (a e s).bind fun p => (lo e p.2).bind fun q => (hi e q.2).bind fun r => (R.of (slD q.1 r.1 (rz r.2 p.1))).bind fun d => .ok (d, r.2)
/-- the call of a def that has nothing to do with what is owned here -/
def mCall (φ : List D → R D) (a : A) : M := fun e s => (a e s).bind fun p => if chk p.2 p.1 = true then (φ p.1).bind fun d => .ok (d, p.2) else .bad
/-- .. of a def that is handed owned objects -/
def mCallG (φ : F) (a : A) : M := fun e s => (a e s).bind fun p => φ p.1 p.2
/-- a built-in of one argument -/
def mB (f : D → Option D) (a : M) : M := fun e s => (a e s).bind fun p => (R.of (f (rz p.2 p.1))).bind fun d => .ok (d, p.2)
@[simp] def bLen : D → Option D
  | .lst ds => some (.int ds.length)
  | .tup ds => some (.int ds.length)
  | .str z => if z.length ≤ line then some (.int z.length) else none
  | .scr ns => some (.int ns.length)
  | .dic n => some (.int n)
  | _ => none
/-- len of an owned dict -/
def mLenD (a : M) : M := fun e s => (a e s).bind fun p => match p.1 with
  | .own k => match p.2[k]? with
    | some (.DT ks) => .ok (.int ks.length, p.2)
    | _ => .bad
  | _ => .bad
@[simp] def bTup : D → Option D
  | .lst ds => some (.tup ds)
  | .tup ds => some (.tup ds)
  | _ => none
@[simp] def bList : D → Option D
  | .lst ds => some (.lst ds)
  | _ => none
@[simp] def bAll : D → Option D
  | .lst ds => (bls ds).map fun bs => .bl (bs.all id)
  | _ => none
@[simp] def bAny : D → Option D
  | .lst ds => (bls ds).map fun bs => .bl (bs.any id)
  | _ => none
@[simp] def bSum : D → Option D
  | .lst ds => (zints ds).map fun ns => .int ns.sum
  | _ => none
def maxI : List Int → Int
  | [] => 0
  | [x] => x
  | x :: y :: r => max x (maxI (y :: r))
@[simp] def bMax : D → Option D
  | .lst ds => match zints ds with
    | some (n :: ns) => some (.int (maxI (n :: ns)))
    | _ => none
  | _ => none
@[simp] def bInt : D → Option D
  | .int i => some (.int i)
  | .bl b => some (.int (if b then 1 else 0))
  | _ => none
inductive Ty where
  | bool | int | str | tuple | list
  deriving DecidableEq
@[simp] def isTy : Ty → D → Option D
  | t, .non => some (.bl false)
  | t, .bl _ => some (.bl (decide (t = .bool) || decide (t = .int)))
  | t, .int _ => some (.bl (decide (t = .int)))
  | t, .str _ => some (.bl (decide (t = .str)))
  | t, .tup _ => some (.bl (decide (t = .tuple)))
  | t, .lst _ => some (.bl (decide (t = .list)))
  | t, _ => none
/-- min, max of two zints -/
@[simp] def opMin : Op
  | _, .int i, .int j => some (.int (if j < i then j else i))
  | _, _, _ => none
@[simp] def opMax : Op
  | _, .int i, .int j => some (.int (if i < j then j else i))
  | _, _, _ => none
@[simp] def joinD (sep : List Nat) : D → Option D
  | .lst ds => (zstrs ds).bind fun xs => if (xs.map (·.length)).sum + xs.length * sep.length ≤ line then some (.str (glue sep xs)) else none
  | _ => none
/-- methods of an owned list -/
def mApp (o a : M) : M := fun e s => (o e s).bind fun p => match p.1 with
  | .own k => match p.2[k]? with
    | some (.L _) => (a e p.2).bind fun q => match q.2[k]? with
      | some (.L ds) => if ds.length < line ∧ free q.1 = true then .ok (.non, q.2.set k (.L (ds ++ [q.1]))) else .bad
      | _ => .bad
    | _ => .bad
  | _ => .bad
def mPop (o : M) : M := fun e s => (o e s).bind fun p => match p.1 with
  | .own k => match p.2[k]? with
    | some (.L ds) => match ds[ds.length - 1]? with
      | some d => .ok (d, p.2.set k (.L ds.dropLast))
      | none => .bad
    | _ => .bad
  | _ => .bad
def mUpd (f : List D → List D) (o : M) : M := fun e s => (o e s).bind fun p => match p.1 with
  | .own k => match p.2[k]? with
    | some (.L ds) => .ok (.non, p.2.set k (.L (f ds)))
    | _ => .bad
  | _ => .bad
abbrev mRev : M → M := mUpd List.reverse
abbrev mClear : M → M := mUpd fun _ => []
/-- an owned list seen as it stands -/
@[simp] def fzD (s : Sto) : D → Option D
  | .own k => match s[k]? with
    | some (.L ds) => some (.lst ds)
    | _ => none
  | .tup ds => if freeL ds = true then some (.tup ds) else none
  | d => some d
mutual
/-- no list within -/
@[simp] def noL : D → Bool
  | .non => true
  | .bl _ => true
  | .int _ => true
  | .str _ => true
  | .tup ds => noLL ds
  | _ => false
@[simp] def noLL : List D → Bool
  | [] => true
  | d :: ds => noL d && noLL ds
end
/-- m, while what is owned stands still; it hands back no list -/
def mFz (m : M) : M := fun e s => (m (e.map fun o => o.bind (fzD s)) []).bind fun p => if noL p.1 = true then .ok (p.1, s) else .bad

/-! ### tests -/
@[simp] def tru : D → Option Bool
  | .non => some false
  | .bl b => some b
  | .int i => some (i != 0)
  | .str z => if z.length ≤ line then some (!z.isEmpty) else none
  | .lst ds => some (!ds.isEmpty)
  | .tup ds => some (!ds.isEmpty)
  | _ => none
def tV (m : M) : T := fun e s => (m e s).bind fun p => (R.of (isBl p.1)).bind fun b => .ok (b, p.2)
def tT (m : M) : T := fun e s => (m e s).bind fun p => (R.of (tru (rz p.2 p.1))).bind fun b => .ok (b, p.2)
def tAnd (a b : T) : T := fun e s => (a e s).bind fun p => if p.1 = true then b e p.2 else .ok (false, p.2)
def tOr (a b : T) : T := fun e s => (a e s).bind fun p => if p.1 = true then .ok (true, p.2) else b e p.2
def tNot (a : T) : T := fun e s => (a e s).bind fun p => .ok (!p.1, p.2)
def tYes : T := fun _ s => .ok (true, s)

/-! ### what is walked -/
def sgn (z : List Nat) : List D := z.map fun c => .str [c]
@[simp] def walkD : D → Option (List D)
  | .lst ds => some ds
  | .tup ds => some ds
  | .str z => some (sgn z)
  | _ => none
/-- a sequence; an owned one may not be walked (but for mFz) -/
def iSeq (m : M) : A := fun e s => (m e s).bind fun p => (R.of (walkD p.1)).bind fun ds => .ok (ds, p.2)
def rng (lo : Int) (n : Nat) : List D := (List.range n).map fun k => .int (lo + ((k : Nat) : Int))
def iR1 (m : M) : A := fun e s => (m e s).bind fun p => match p.1 with
  | .int j => if -(2 ^ 62) ≤ j ∧ j < 2 ^ 62 then .ok (rng 0 j.toNat, p.2) else .bad
  | _ => .bad
def iR2 (a b : M) : A := fun e s => (a e s).bind fun p => (b e p.2).bind fun q => match p.1, q.1 with
  | .int i, .int j => if -(2 ^ 62) ≤ i ∧ i < 2 ^ 62 ∧ -(2 ^ 62) ≤ j ∧ j < 2 ^ 62 then .ok (rng i (j - i).toNat, q.2) else .bad
  | _, _ => .bad
@[simp] def revD : D → Option (List D)
  | .lst ds => some ds.reverse
  | .tup ds => some ds.reverse
  | _ => none
def iRev (m : M) : A := fun e s => (m e s).bind fun p => (R.of (revD p.1)).bind fun ds => .ok (ds, p.2)
def lcF (i : Nat) (t : T) (m : M) (e : Env) : List D → Sto → R (List D × Sto)
  | [], s => .ok ([], s)
  | x :: xs, s => (t (e.set i (some x)) s).nox.bind fun p =>
    if p.1 = true then (m (e.set i (some x)) p.2).nox.bind fun q => if chk q.2 [q.1] = true then (lcF i t m e xs q.2).bind fun r => .ok (q.1 :: r.1, r.2) else .bad else lcF i t m e xs p.2
def mLc (i : Nat) (it : A) (t : T) (m : M) : M := fun e s => (it e s).bind fun p => if p.1.length ≤ line then (lcF i t m e p.1 p.2).bind fun q => .ok (.lst q.1, q.2) else .bad

/-! ### statements -/
def sNil : S := fun e s => .ok (.nx e, s)
def sCons (a b : S) : S := fun e s => (a e s).bind fun p => match p.1 with
  | .nx e' => b e' p.2
  | o => .ok (o, p.2)
def sSet (i : Nat) (m : M) : S := fun e s => (m e s).bind fun p => .ok (.nx (e.set i (some p.1)), p.2)
/-- x = a display of an object that is ours alone from here on -/
def sOwnL (i : Nat) (a : A) : S := fun e s => (a e s).bind fun p => if p.1.length ≤ 100 ∧ freeL p.1 = true then .ok (.nx (e.set i (some (.own p.2.length))), p.2 ++ [.L p.1]) else .bad
def mOwnDI : M := fun e s => .ok (.own s.length, s ++ [.DI []])
def mOwnDT : M := fun e s => .ok (.own s.length, s ++ [.DT []])
def sEx (m : M) : S := fun e s => (m e s).bind fun p => .ok (.nx e, p.2)
def sRet (m : M) : S := fun e s => (m e s).bind fun p => .ok (.rt p.1, p.2)
def sIf (t : T) (a b : S) : S := fun e s => (t e s).bind fun p => if p.1 = true then a e p.2 else b e p.2
def sCt : S := fun e s => .ok (.ct e, s)
def sBk : S := fun e s => .ok (.bk e, s)
def sPs : S := fun e s => .ok (.nx e, s)
def sBad : S := fun _ _ => .bad
def sRaise (c : Nat) : S := fun _ _ => .exc c
/-- o[i] = v -/
def putS (s : Sto) (k : Nat) (i v : D) : Option Sto := match s[k]?, i, v with
  | some (.L ds), .int j, v => (pos ds.length j).bind fun n => if free v = true then some (s.set k (.L (ds.set n v))) else none
  | some (.DI ks), .int j, .bl true => if ks.length < line then some (s.set k (.DI (if j ∈ ks then ks else ks ++ [j]))) else none
  | some (.DT ks), .tup ds, .bl true => (zints ds).bind fun js => if ks.length < line then some (s.set k (.DT (if js ∈ ks then ks else ks ++ [js]))) else none
  | _, _, _ => none
def sPut (o i v : M) : S := fun e s => (v e s).bind fun p => (o e p.2).bind fun q => (i e q.2).bind fun r => match q.1 with
  | .own k => (R.of (putS r.2 k r.1 p.1)).bind fun s' => .ok (.nx e, s')
  | _ => .bad
def forF (i : Nat) (b : S) : List D → Env → Sto → R (O × Sto)
  | [], e, s => .ok (.nx e, s)
  | x :: xs, e, s => (b (e.set i (some x)) s).bind fun p => match p.1 with
    | .nx e' => forF i b xs e' p.2
    | .ct e' => forF i b xs e' p.2
    | .bk e' => .ok (.nx e', p.2)
    | .rt d => .ok (.rt d, p.2)
def sFor (i : Nat) (it : A) (b : S) : S := fun e s => (it e s).bind fun p => forF i b p.1 e p.2
def whF (t : T) (b : S) : Nat → Env → Sto → Option (R (O × Sto))
  | 0, _, _ => none
  | n + 1, e, s => match t e s with
    | .bad => some .bad
    | .exc c => some (.exc c)
    | .ok (false, s') => some (.ok (.nx e, s'))
    | .ok (true, s') => match b e s' with
      | .bad => some .bad
      | .exc c => some (.exc c)
      | .ok (.nx e', s2) => whF t b n e' s2
      | .ok (.ct e', s2) => whF t b n e' s2
      | .ok (.bk e', s2) => some (.ok (.nx e', s2))
      | .ok (.rt d, s2) => some (.ok (.rt d, s2))
open Classical in
noncomputable def sWhile (t : T) (b : S) : S := fun e s => if h : ∃ n r, whF t b n e s = some r then (Classical.choose_spec h).choose else .bad

/-! ### a def -/
/-- the result of a body: what is handed back (None where it runs through) -/
def fin (r : R (O × Sto)) : R (D × Sto) := r.bind fun p => match p.1 with
  | .rt d => .ok (d, p.2)
  | .nx _ => .ok (.non, p.2)
  | _ => .bad
mutual
/-- objects from the n-th on are seen as they stand -/
@[simp] def frz (n : Nat) (s : Sto) : D → Option D
  | .own k => if k < n then some (.own k) else match s[k]? with
    | some (.L ds) => some (.lst ds)
    | some (.DT ks) => some (.dic ks.length)
    | _ => none
  | .tup ds => (frzL n s ds).map .tup
  | d => some d
@[simp] def frzL (n : Nat) (s : Sto) : List D → Option (List D)
  | [] => some []
  | d :: ds => (frz n s d).bind fun x => (frzL n s ds).map (x :: ·)
end
def ent (names : Nat) (ds : List D) : Env := ds.map some ++ List.replicate (names - ds.length) none
/-- a def of so many names: the arguments, then nothing; what is handed back is frozen, the def's own objects are gone -/
def runG (names : Nat) (b : S) : F := fun ds s => (fin (b (ent names ds) s)).bind fun p => (R.of (frz s.length p.2 p.1)).bind fun d => .ok (d, p.2.take s.length)
def run (names : Nat) (b : S) : List D → R D := fun ds => (runG names b ds []).bind fun p => .ok p.1

/-! ### while -/
theorem whF_det {t : T} {b : S} : ∀ (n m : Nat) (e : Env) (s : Sto) (r r' : R (O × Sto)), whF t b n e s = some r → whF t b m e s = some r' → r = r' := by
  intro n
  induction n with
  | zero => intro m e s r r' h; simp [whF] at h
  | succ n ih =>
    intro m e s r r' h h'
    cases m with
    | zero => simp [whF] at h'
    | succ m =>
      unfold whF at h h'
      split at h <;> simp_all
      split at h <;> simp_all
      · exact ih _ _ _ _ _ h h'
      · exact ih _ _ _ _ _ h h'
theorem sWhile_eq {t : T} {b : S} {n : Nat} {e : Env} {s : Sto} {r : R (O × Sto)} (h : whF t b n e s = some r) : sWhile t b e s = r := by
  have hx : ∃ n r, whF t b n e s = some r := ⟨n, r, h⟩
  unfold sWhile
  rw [dif_pos hx]
  exact whF_det _ _ _ _ _ _ (Classical.choose_spec hx).choose_spec h
theorem sWhile_bad_of {t : T} {b : S} {e : Env} {s : Sto} (h : ∀ n r, whF t b n e s ≠ some r) : sWhile t b e s = .bad := by
  unfold sWhile
  rw [dif_neg]
  rintro ⟨n, r, q⟩
  exact h n r q
theorem sWhile_false {t : T} {b : S} {e : Env} {s s' : Sto} (h : t e s = .ok (false, s')) : sWhile t b e s = .ok (.nx e, s') :=
  sWhile_eq (n := 1) (by unfold whF; rw [h])
theorem sWhile_true {t : T} {b : S} {e e' : Env} {s s' s2 : Sto} (h : t e s = .ok (true, s')) (hb : b e s' = .ok (.nx e', s2) ∨ b e s' = .ok (.ct e', s2)) : sWhile t b e s = sWhile t b e' s2 := by
  have step : ∀ n, whF t b (n + 1) e s = whF t b n e' s2 := fun n => by
    rw [whF, h]
    rcases hb with hb | hb <;> simp only [hb]
  by_cases hx : ∃ n r, whF t b n e' s2 = some r
  · obtain ⟨n, r, q⟩ := hx
    rw [sWhile_eq q]
    exact sWhile_eq (n := n + 1) (by rw [step]; exact q)
  · rw [sWhile_bad_of fun n r q => hx ⟨n, r, q⟩]
    refine sWhile_bad_of fun n r q => ?_
    cases n with
    | zero => simp [whF] at q
    | succ n => exact hx ⟨n, r, by rw [← step]; exact q⟩
theorem sWhile_ret {t : T} {b : S} {e : Env} {s s' s2 : Sto} {d : D} (h : t e s = .ok (true, s')) (hb : b e s' = .ok (.rt d, s2)) : sWhile t b e s = .ok (.rt d, s2) :=
  sWhile_eq (n := 1) (by unfold whF; rw [h]; simp only [hb])
theorem sWhile_exc {t : T} {b : S} {e : Env} {s s' : Sto} {c : Nat} (h : t e s = .ok (true, s')) (hb : b e s' = .exc c) : sWhile t b e s = .exc c :=
  sWhile_eq (n := 1) (by unfold whF; rw [h]; simp only [hb])
theorem sWhile_brk {t : T} {b : S} {e e' : Env} {s s' s2 : Sto} (h : t e s = .ok (true, s')) (hb : b e s' = .ok (.bk e', s2)) : sWhile t b e s = .ok (.nx e', s2) :=
  sWhile_eq (n := 1) (by unfold whF; rw [h]; simp only [hb])
end Mini
end
section
/-! Ev: the evaluator step by step, the first part always before the rest (for simp) -/
namespace Mini
section
variable {e : Env} {s s' : Sto} {d x y : D} {ds : List D} {i : Nat} {f g : Op}
/-- what a partial value step gives -/
def kOf (s : Sto) : Option D → R (D × Sto)
  | some d => .ok (d, s)
  | none => .bad
@[simp] theorem kOf_some : kOf s (some d) = .ok (d, s) := (rfl : _ = _).trans rfl
@[simp] theorem kOf_none : kOf s none = .bad := (rfl : _ = _).trans rfl
def look : Env → Nat → Option D
  | [], _ => none
  | x :: _, 0 => x
  | _ :: e, n + 1 => look e n
@[simp] theorem look_0 {a : Option D} : look (a :: e) 0 = a := (rfl : _ = _).trans rfl
@[simp] theorem look_s {a : Option D} {n : Nat} : look (a :: e) (n + 1) = look e n := (rfl : _ = _).trans rfl
theorem look_eq : ∀ (e : Env) (i : Nat), look e i = (e[i]?).join
  | [], i => by simp [look]
  | a :: e, 0 => by simp [look]
  | a :: e, n + 1 => by rw [look_s, look_eq e n]; simp
def kV (s : Sto) : Option D → R (D × Sto)
  | some d => .ok (d, s)
  | none => .bad
@[simp] theorem kV_some : kV s (some d) = .ok (d, s) := (rfl : _ = _).trans rfl
@[simp] theorem mV_eq : mV i e s = kV s (look e i) := by
  rw [look_eq]; unfold mV kV
  rcases e[i]? with _ | _ | d <;> rfl
@[simp] theorem mC_eq : mC d e s = .ok (d, s) := (rfl : _ = _).trans rfl
@[simp] theorem aNil_eq : aNil e s = .ok ([], s) := (rfl : _ = _).trans rfl
def kA2 (d : D) : R (List D × Sto) → R (List D × Sto)
  | .ok (ds, s) => .ok (d :: ds, s) | .exc c => .exc c | .bad => .bad
def kA1 (a : A) (e : Env) : R (D × Sto) → R (List D × Sto)
  | .ok (d, s) => kA2 d (a e s) | .exc c => .exc c | .bad => .bad
@[simp] theorem kA2_ok : kA2 d (.ok (ds, s)) = .ok (d :: ds, s) := (rfl : _ = _).trans rfl
@[simp] theorem kA2_exc {c} : kA2 d (.exc c) = .exc c := (rfl : _ = _).trans rfl
@[simp] theorem kA1_ok {a : A} : kA1 a e (.ok (d, s)) = kA2 d (a e s) := (rfl : _ = _).trans rfl
@[simp] theorem kA1_exc {a : A} {c} : kA1 a e (.exc c) = .exc c := (rfl : _ = _).trans rfl
@[simp] theorem aCons_eq {m : M} {a : A} : aCons m a e s = kA1 a e (m e s) := by
  unfold aCons; cases m e s <;> simp [kA1]; rename_i p; cases a e p.2 <;> simp [kA2]
def kTup : R (List D × Sto) → R (D × Sto)
  | .ok (ds, s) => if ds.length ≤ 100 then .ok (.tup ds, s) else .bad | .exc c => .exc c | .bad => .bad
@[simp] theorem kTup_ok : kTup (.ok (ds, s)) = if ds.length ≤ 100 then .ok (.tup ds, s) else .bad := (rfl : _ = _).trans rfl
@[simp] theorem mTup_eq {a : A} : mTup a e s = kTup (a e s) := by unfold mTup; cases a e s <;> simp [kTup]
def kLst : R (List D × Sto) → R (D × Sto)
  | .ok (ds, s) => if ds.length ≤ 100 ∧ chk s ds = true then .ok (.lst ds, s) else .bad | .exc c => .exc c | .bad => .bad
@[simp] theorem kLst_ok : kLst (.ok (ds, s)) = if ds.length ≤ 100 ∧ chk s ds = true then .ok (.lst ds, s) else .bad := (rfl : _ = _).trans rfl
@[simp] theorem mLst_eq {a : A} : mLst a e s = kLst (a e s) := by unfold mLst; cases a e s <;> simp [kLst]
def kOp2 (f : Op) (x : D) : R (D × Sto) → R (D × Sto)
  | .ok (y, s) => kOf s (f s (rz s x) (rz s y)) | .exc c => .exc c | .bad => .bad
def kOp1 (f : Op) (b : M) (e : Env) : R (D × Sto) → R (D × Sto)
  | .ok (x, s) => kOp2 f x (b e s) | .exc c => .exc c | .bad => .bad
@[simp] theorem kOp2_ok : kOp2 f x (.ok (y, s)) = kOf s (f s (rz s x) (rz s y)) := (rfl : _ = _).trans rfl
@[simp] theorem kOp2_exc {c} : kOp2 f x (.exc c) = .exc c := (rfl : _ = _).trans rfl
@[simp] theorem kOp1_ok {b : M} : kOp1 f b e (.ok (x, s)) = kOp2 f x (b e s) := (rfl : _ = _).trans rfl
@[simp] theorem kOp1_exc {b : M} {c} : kOp1 f b e (.exc c) = .exc c := (rfl : _ = _).trans rfl
theorem of_kOf (o : Option D) : ((R.of o).bind fun d => R.ok (d, s)) = kOf s o := by cases o <;> rfl
@[simp] theorem mOp_eq {a b : M} : mOp f a b e s = kOp1 f b e (a e s) := by
  unfold mOp; cases a e s <;> simp [kOp1]; rename_i p; cases b e p.2 <;> simp [kOp2, of_kOf]
def kNeg : R (D × Sto) → R (D × Sto)
  | .ok (.int i, s) => .ok (.int (-i), s) | .ok _ => .bad | .exc c => .exc c | .bad => .bad
@[simp] theorem kNeg_ok {i : Int} : kNeg (.ok (.int i, s)) = .ok (.int (-i), s) := (rfl : _ = _).trans rfl
@[simp] theorem mNeg_eq {a : M} : mNeg a e s = kNeg (a e s) := by
  unfold mNeg kNeg; rcases a e s with ⟨d, s⟩ | _ | _ <;> simp; cases d <;> simp
def kAnd (b : M) (e : Env) : R (D × Sto) → R (D × Sto)
  | .ok (.bl true, s) => b e s | .ok (.bl false, s) => .ok (.bl false, s) | .ok _ => .bad | .exc c => .exc c | .bad => .bad
@[simp] theorem kAnd_t {b : M} : kAnd b e (.ok (.bl true, s)) = b e s := (rfl : _ = _).trans rfl
@[simp] theorem kAnd_f {b : M} : kAnd b e (.ok (.bl false, s)) = .ok (.bl false, s) := (rfl : _ = _).trans rfl
@[simp] theorem mAnd_eq {a b : M} : mAnd a b e s = kAnd b e (a e s) := by
  unfold mAnd kAnd; rcases a e s with ⟨d, s⟩ | _ | _ <;> simp; cases d <;> simp; rename_i q; cases q <;> simp
def kOr (b : M) (e : Env) : R (D × Sto) → R (D × Sto)
  | .ok (.bl false, s) => b e s | .ok (.bl true, s) => .ok (.bl true, s) | .ok _ => .bad | .exc c => .exc c | .bad => .bad
@[simp] theorem kOr_f {b : M} : kOr b e (.ok (.bl false, s)) = b e s := (rfl : _ = _).trans rfl
@[simp] theorem kOr_t {b : M} : kOr b e (.ok (.bl true, s)) = .ok (.bl true, s) := (rfl : _ = _).trans rfl
@[simp] theorem mOr_eq {a b : M} : mOr a b e s = kOr b e (a e s) := by
  unfold mOr kOr; rcases a e s with ⟨d, s⟩ | _ | _ <;> simp; cases d <;> simp; rename_i q; cases q <;> simp
def kNot : R (D × Sto) → R (D × Sto)
  | .ok (.bl b, s) => .ok (.bl (!b), s) | .ok _ => .bad | .exc c => .exc c | .bad => .bad
@[simp] theorem kNot_ok {b : Bool} : kNot (.ok (.bl b, s)) = .ok (.bl (!b), s) := (rfl : _ = _).trans rfl
@[simp] theorem mNot_eq {a : M} : mNot a e s = kNot (a e s) := by
  unfold mNot kNot; rcases a e s with ⟨d, s⟩ | _ | _ <;> simp; cases d <;> simp
def kIf {β : Type} (a b : Env → Sto → R (β × Sto)) (e : Env) : R (Bool × Sto) → R (β × Sto)
  | .ok (true, s) => a e s | .ok (false, s) => b e s | .exc c => .exc c | .bad => .bad
@[simp] theorem kIf_t {β : Type} {a b : Env → Sto → R (β × Sto)} : kIf a b e (.ok (true, s)) = a e s := (rfl : _ = _).trans rfl
@[simp] theorem kIf_f {β : Type} {a b : Env → Sto → R (β × Sto)} : kIf a b e (.ok (false, s)) = b e s := (rfl : _ = _).trans rfl
@[simp] theorem mIf_eq {t : T} {a b : M} : mIf t a b e s = kIf a b e (t e s) := by
  unfold mIf kIf; rcases t e s with ⟨d, s⟩ | _ | _ <;> simp; cases d <;> simp
@[simp] theorem sIf_eq {t : T} {a b : S} : sIf t a b e s = kIf a b e (t e s) := by
  unfold sIf kIf; rcases t e s with ⟨d, s⟩ | _ | _ <;> simp; cases d <;> simp
def kCh4 (g : Op) (y : D) : R (D × Sto) → R (D × Sto)
  | .ok (z, s) => kOf s (g s (rz s y) (rz s z)) | .exc c => .exc c | .bad => .bad
def kCh3 (g : Op) (c : M) (e : Env) (y : D) (s : Sto) : Option D → R (D × Sto)
  | some (.bl true) => kCh4 g y (c e s) | some (.bl false) => .ok (.bl false, s) | _ => .bad
def kCh2 (f g : Op) (c : M) (e : Env) (x : D) : R (D × Sto) → R (D × Sto)
  | .ok (y, s) => kCh3 g c e y s (f s (rz s x) (rz s y)) | .exc c => .exc c | .bad => .bad
def kCh1 (f g : Op) (b c : M) (e : Env) : R (D × Sto) → R (D × Sto)
  | .ok (x, s) => kCh2 f g c e x (b e s) | .exc c => .exc c | .bad => .bad
@[simp] theorem kCh1_ok {b c : M} : kCh1 f g b c e (.ok (x, s)) = kCh2 f g c e x (b e s) := (rfl : _ = _).trans rfl
@[simp] theorem kCh2_ok {c : M} : kCh2 f g c e x (.ok (y, s)) = kCh3 g c e y s (f s (rz s x) (rz s y)) := (rfl : _ = _).trans rfl
@[simp] theorem kCh3_t {c : M} : kCh3 g c e y s (some (.bl true)) = kCh4 g y (c e s) := (rfl : _ = _).trans rfl
@[simp] theorem kCh3_f {c : M} : kCh3 g c e y s (some (.bl false)) = .ok (.bl false, s) := (rfl : _ = _).trans rfl
@[simp] theorem kCh4_ok : kCh4 g y (.ok (x, s)) = kOf s (g s (rz s y) (rz s x)) := (rfl : _ = _).trans rfl
@[simp] theorem mChain_eq {a b c : M} : mChain f g a b c e s = kCh1 f g b c e (a e s) := by
  unfold mChain; rcases a e s with ⟨x, s⟩ | _ | _ <;> simp [kCh1]
  rcases b e s with ⟨y, s⟩ | _ | _ <;> simp [kCh2]
  cases f s (rz s x) (rz s y) with
  | none => simp [kCh3]
  | some d =>
    cases d <;> simp [kCh3]
    rename_i k
    cases k <;> simp
    rcases c e s with ⟨z, s⟩ | _ | _ <;> simp [kCh4, of_kOf]
@[simp] theorem poN_eq : poN e s = .ok (none, s) := (rfl : _ = _).trans rfl
def kPo : R (D × Sto) → R (Option Int × Sto)
  | .ok (.int i, s) => .ok (some i, s) | .ok _ => .bad | .exc c => .exc c | .bad => .bad
@[simp] theorem kPo_ok {i : Int} : kPo (.ok (.int i, s)) = .ok (some i, s) := (rfl : _ = _).trans rfl
@[simp] theorem poS_eq {a : M} : poS a e s = kPo (a e s) := by
  unfold poS kPo; rcases a e s with ⟨d, s⟩ | _ | _ <;> simp; cases d <;> simp
def kSl3 (x : D) (lo : Option Int) : R (Option Int × Sto) → R (D × Sto)
  | .ok (hi, s) => kOf s (slD lo hi (rz s x)) | .exc c => .exc c | .bad => .bad
def kSl2 (h : PO) (e : Env) (x : D) : R (Option Int × Sto) → R (D × Sto)
  | .ok (lo, s) => kSl3 x lo (h e s) | .exc c => .exc c | .bad => .bad
def kSl1 (l h : PO) (e : Env) : R (D × Sto) → R (D × Sto)
  | .ok (x, s) => kSl2 h e x (l e s) | .exc c => .exc c | .bad => .bad
@[simp] theorem kSl1_ok {l h : PO} : kSl1 l h e (.ok (x, s)) = kSl2 h e x (l e s) := (rfl : _ = _).trans rfl
@[simp] theorem kSl2_ok {h : PO} {lo : Option Int} : kSl2 h e x (.ok (lo, s)) = kSl3 x lo (h e s) := (rfl : _ = _).trans rfl
@[simp] theorem kSl3_ok {lo hi : Option Int} : kSl3 x lo (.ok (hi, s)) = kOf s (slD lo hi (rz s x)) := (rfl : _ = _).trans rfl
@[simp] theorem mSl_eq {a : M} {l h : PO} : mSl a l h e s = kSl1 l h e (a e s) := by
  unfold mSl; rcases a e s with ⟨x, s⟩ | _ | _ <;> simp [kSl1]
  rcases l e s with ⟨y, s⟩ | _ | _ <;> simp [kSl2]
  rcases h e s with ⟨z, s⟩ | _ | _ <;> simp [kSl3, of_kOf]
def kCall2 (s : Sto) : R D → R (D × Sto)
  | .ok d => .ok (d, s) | .exc c => .exc c | .bad => .bad
def kCall (φ : List D → R D) : R (List D × Sto) → R (D × Sto)
  | .ok (ds, s) => if chk s ds = true then kCall2 s (φ ds) else .bad | .exc c => .exc c | .bad => .bad
@[simp] theorem kCall2_ok : kCall2 s (.ok d) = .ok (d, s) := (rfl : _ = _).trans rfl
@[simp] theorem kCall2_exc {c} : kCall2 s (.exc c) = .exc c := (rfl : _ = _).trans rfl
@[simp] theorem kCall_ok {φ : List D → R D} : kCall φ (.ok (ds, s)) = if chk s ds = true then kCall2 s (φ ds) else .bad := (rfl : _ = _).trans rfl
@[simp] theorem mCall_eq {φ : List D → R D} {a : A} : mCall φ a e s = kCall φ (a e s) := by
  unfold mCall; rcases a e s with ⟨x, s⟩ | _ | _ <;> simp only [R.bind_ok, R.bind_exc, R.bind_bad, kCall]; split <;> try rfl
  cases φ x <;> rfl
def kG (φ : F) : R (List D × Sto) → R (D × Sto)
  | .ok (ds, s) => φ ds s | .exc c => .exc c | .bad => .bad
@[simp] theorem kG_ok {φ : F} : kG φ (.ok (ds, s)) = φ ds s := (rfl : _ = _).trans rfl
@[simp] theorem mCallG_eq {φ : F} {a : A} : mCallG φ a e s = kG φ (a e s) := by
  unfold mCallG; rcases a e s with ⟨x, s⟩ | _ | _ <;> rfl
def kB (f : D → Option D) : R (D × Sto) → R (D × Sto)
  | .ok (d, s) => kOf s (f (rz s d)) | .exc c => .exc c | .bad => .bad
@[simp] theorem kB_ok {f : D → Option D} : kB f (.ok (d, s)) = kOf s (f (rz s d)) := (rfl : _ = _).trans rfl
@[simp] theorem mB_eq {f : D → Option D} {a : M} : mB f a e s = kB f (a e s) := by
  unfold mB; rcases a e s with ⟨x, s⟩ | _ | _ <;> simp [kB, of_kOf]
def kTV : R (D × Sto) → R (Bool × Sto)
  | .ok (.bl b, s) => .ok (b, s) | .ok _ => .bad | .exc c => .exc c | .bad => .bad
@[simp] theorem kTV_ok {b : Bool} : kTV (.ok (.bl b, s)) = .ok (b, s) := (rfl : _ = _).trans rfl
@[simp] theorem tV_eq {a : M} : tV a e s = kTV (a e s) := by
  unfold tV kTV; rcases a e s with ⟨d, s⟩ | _ | _ <;> simp; cases d <;> simp
def kTT2 (s : Sto) : Option Bool → R (Bool × Sto)
  | some b => .ok (b, s) | none => .bad
def kTT : R (D × Sto) → R (Bool × Sto)
  | .ok (d, s) => kTT2 s (tru (rz s d)) | .exc c => .exc c | .bad => .bad
@[simp] theorem kTT2_some {b : Bool} : kTT2 s (some b) = .ok (b, s) := (rfl : _ = _).trans rfl
@[simp] theorem kTT_ok : kTT (.ok (d, s)) = kTT2 s (tru (rz s d)) := (rfl : _ = _).trans rfl
@[simp] theorem tT_eq {a : M} : tT a e s = kTT (a e s) := by
  unfold tT kTT; rcases a e s with ⟨d, s⟩ | _ | _ <;> simp only [R.bind_ok, R.bind_exc, R.bind_bad]; cases tru (rz s d) <;> rfl
def kTA (b : T) (e : Env) : R (Bool × Sto) → R (Bool × Sto)
  | .ok (true, s) => b e s | .ok (false, s) => .ok (false, s) | .exc c => .exc c | .bad => .bad
@[simp] theorem kTA_t {b : T} : kTA b e (.ok (true, s)) = b e s := (rfl : _ = _).trans rfl
@[simp] theorem kTA_f {b : T} : kTA b e (.ok (false, s)) = .ok (false, s) := (rfl : _ = _).trans rfl
@[simp] theorem tAnd_eq {a b : T} : tAnd a b e s = kTA b e (a e s) := by
  unfold tAnd kTA; rcases a e s with ⟨d, s⟩ | _ | _ <;> simp; cases d <;> simp
def kTO (b : T) (e : Env) : R (Bool × Sto) → R (Bool × Sto)
  | .ok (false, s) => b e s | .ok (true, s) => .ok (true, s) | .exc c => .exc c | .bad => .bad
@[simp] theorem kTO_f {b : T} : kTO b e (.ok (false, s)) = b e s := (rfl : _ = _).trans rfl
@[simp] theorem kTO_t {b : T} : kTO b e (.ok (true, s)) = .ok (true, s) := (rfl : _ = _).trans rfl
@[simp] theorem tOr_eq {a b : T} : tOr a b e s = kTO b e (a e s) := by
  unfold tOr kTO; rcases a e s with ⟨d, s⟩ | _ | _ <;> simp; cases d <;> simp
def kTN : R (Bool × Sto) → R (Bool × Sto)
  | .ok (b, s) => .ok (!b, s) | .exc c => .exc c | .bad => .bad
@[simp] theorem kTN_ok {b : Bool} : kTN (.ok (b, s)) = .ok (!b, s) := (rfl : _ = _).trans rfl
@[simp] theorem tNot_eq {a : T} : tNot a e s = kTN (a e s) := by
  unfold tNot kTN; rcases a e s with ⟨d, s⟩ | _ | _ <;> simp
@[simp] theorem tYes_eq : tYes e s = .ok (true, s) := (rfl : _ = _).trans rfl
def kW (s : Sto) : Option (List D) → R (List D × Sto)
  | some ds => .ok (ds, s) | none => .bad
@[simp] theorem kW_some : kW s (some ds) = .ok (ds, s) := (rfl : _ = _).trans rfl
def kI (w : D → Option (List D)) : R (D × Sto) → R (List D × Sto)
  | .ok (d, s) => kW s (w d) | .exc c => .exc c | .bad => .bad
@[simp] theorem kI_ok {w : D → Option (List D)} : kI w (.ok (d, s)) = kW s (w d) := (rfl : _ = _).trans rfl
@[simp] theorem iSeq_eq {a : M} : iSeq a e s = kI walkD (a e s) := by
  unfold iSeq kI; rcases a e s with ⟨d, s⟩ | _ | _ <;> simp only [R.bind_ok, R.bind_exc, R.bind_bad]; cases walkD d <;> rfl
@[simp] theorem iRev_eq {a : M} : iRev a e s = kI revD (a e s) := by
  unfold iRev kI; rcases a e s with ⟨d, s⟩ | _ | _ <;> simp only [R.bind_ok, R.bind_exc, R.bind_bad]; cases revD d <;> rfl
def kR1 : R (D × Sto) → R (List D × Sto)
  | .ok (.int j, s) => if -(2 ^ 62) ≤ j ∧ j < 2 ^ 62 then .ok (rng 0 j.toNat, s) else .bad | .ok _ => .bad | .exc c => .exc c | .bad => .bad
theorem kR1_ok {j : Int} (h : -(2 ^ 62) ≤ j ∧ j < 2 ^ 62) : kR1 (.ok (.int j, s)) = .ok (rng 0 j.toNat, s) := by simp only [kR1, if_pos h]
@[simp] theorem kR1_nat {j : Nat} (h : (j : Int) < 2 ^ 62) : kR1 (.ok (.int (j : Int), s)) = .ok (rng 0 j, s) := by rw [kR1_ok ⟨by omega, h⟩]; rfl
@[simp] theorem iR1_eq {a : M} : iR1 a e s = kR1 (a e s) := by
  unfold iR1 kR1; rcases a e s with ⟨d, s⟩ | _ | _ <;> simp; cases d <;> simp
def kR3 (x : D) : R (D × Sto) → R (List D × Sto)
  | .ok (.int j, s) => match x with
    | .int i => if -(2 ^ 62) ≤ i ∧ i < 2 ^ 62 ∧ -(2 ^ 62) ≤ j ∧ j < 2 ^ 62 then .ok (rng i (j - i).toNat, s) else .bad
    | _ => .bad
  | .ok _ => .bad | .exc c => .exc c | .bad => .bad
def kR2 (b : M) (e : Env) : R (D × Sto) → R (List D × Sto)
  | .ok (x, s) => kR3 x (b e s) | .exc c => .exc c | .bad => .bad
@[simp] theorem kR2_ok {b : M} : kR2 b e (.ok (x, s)) = kR3 x (b e s) := (rfl : _ = _).trans rfl
theorem kR3_ok {i j : Int} (h : -(2 ^ 62) ≤ i ∧ i < 2 ^ 62 ∧ -(2 ^ 62) ≤ j ∧ j < 2 ^ 62) : kR3 (.int i) (.ok (.int j, s)) = .ok (rng i (j - i).toNat, s) := by simp only [kR3, if_pos h]
@[simp] theorem iR2_eq {a b : M} : iR2 a b e s = kR2 b e (a e s) := by
  unfold iR2; rcases a e s with ⟨x, s⟩ | _ | _ <;> simp only [R.bind_ok, R.bind_exc, R.bind_bad, kR2]
  rcases b e s with ⟨y, s⟩ | _ | _ <;> simp only [R.bind_ok, R.bind_exc, R.bind_bad, kR3]
  cases x <;> cases y <;> rfl
def kLc2 : R (List D × Sto) → R (D × Sto)
  | .ok (ys, s) => .ok (.lst ys, s) | .exc c => .exc c | .bad => .bad
def kLc (i : Nat) (t : T) (m : M) (e : Env) : R (List D × Sto) → R (D × Sto)
  | .ok (ds, s) => if ds.length ≤ 16777216 then kLc2 (lcF i t m e ds s) else .bad | .exc c => .exc c | .bad => .bad
@[simp] theorem kLc2_ok : kLc2 (.ok (ds, s)) = .ok (.lst ds, s) := (rfl : _ = _).trans rfl
@[simp] theorem kLc_ok {t : T} {m : M} : kLc i t m e (.ok (ds, s)) = if ds.length ≤ 16777216 then kLc2 (lcF i t m e ds s) else .bad := (rfl : _ = _).trans rfl
@[simp] theorem mLc_eq {a : A} {t : T} {m : M} : mLc i a t m e s = kLc i t m e (a e s) := by
  unfold mLc kLc; rcases a e s with ⟨d, s⟩ | _ | _ <;> simp only [R.bind_ok, R.bind_exc, R.bind_bad, line_eq]; split <;> try rfl
  cases lcF i t m e d s <;> rfl
/-! statements -/
@[simp] theorem sNil_eq : sNil e s = .ok (.nx e, s) := (rfl : _ = _).trans rfl
def kS (b : S) : R (O × Sto) → R (O × Sto)
  | .ok (.nx e, s) => b e s | .ok (.rt d, s) => .ok (.rt d, s) | .ok (.bk e, s) => .ok (.bk e, s) | .ok (.ct e, s) => .ok (.ct e, s) | .exc c => .exc c | .bad => .bad
@[simp] theorem kS_nx {b : S} : kS b (.ok (.nx e, s)) = b e s := (rfl : _ = _).trans rfl
@[simp] theorem kS_rt {b : S} : kS b (.ok (.rt d, s)) = .ok (.rt d, s) := (rfl : _ = _).trans rfl
@[simp] theorem kS_bk {b : S} : kS b (.ok (.bk e, s)) = .ok (.bk e, s) := (rfl : _ = _).trans rfl
@[simp] theorem kS_ct {b : S} : kS b (.ok (.ct e, s)) = .ok (.ct e, s) := (rfl : _ = _).trans rfl
@[simp] theorem kS_exc {b : S} {c} : kS b (.exc c) = .exc c := (rfl : _ = _).trans rfl
@[simp] theorem sCons_eq {a b : S} : sCons a b e s = kS b (a e s) := by
  unfold sCons kS; rcases a e s with ⟨o, s⟩ | _ | _ <;> simp; cases o <;> simp
def kSet (i : Nat) (e : Env) : R (D × Sto) → R (O × Sto)
  | .ok (d, s) => .ok (.nx (e.set i (some d)), s) | .exc c => .exc c | .bad => .bad
@[simp] theorem kSet_ok : kSet i e (.ok (d, s)) = .ok (.nx (e.set i (some d)), s) := (rfl : _ = _).trans rfl
@[simp] theorem sSet_eq {m : M} : sSet i m e s = kSet i e (m e s) := by
  unfold sSet kSet; rcases m e s with ⟨o, s⟩ | _ | _ <;> simp
def kOwnL (i : Nat) (e : Env) : R (List D × Sto) → R (O × Sto)
  | .ok (ds, s) => if ds.length ≤ 100 ∧ freeL ds = true then .ok (.nx (e.set i (some (.own s.length))), s ++ [.L ds]) else .bad | .exc c => .exc c | .bad => .bad
@[simp] theorem kOwnL_ok : kOwnL i e (.ok (ds, s)) = if ds.length ≤ 100 ∧ freeL ds = true then .ok (.nx (e.set i (some (.own s.length))), s ++ [.L ds]) else .bad := (rfl : _ = _).trans rfl
@[simp] theorem sOwnL_eq {a : A} : sOwnL i a e s = kOwnL i e (a e s) := by
  unfold sOwnL kOwnL; rcases a e s with ⟨o, s⟩ | _ | _ <;> simp
@[simp] theorem mOwnDI_eq : mOwnDI e s = .ok (.own s.length, s ++ [.DI []]) := (rfl : _ = _).trans rfl
@[simp] theorem mOwnDT_eq : mOwnDT e s = .ok (.own s.length, s ++ [.DT []]) := (rfl : _ = _).trans rfl
def kEx (e : Env) : R (D × Sto) → R (O × Sto)
  | .ok (d, s) => .ok (.nx e, s) | .exc c => .exc c | .bad => .bad
@[simp] theorem kEx_ok : kEx e (.ok (d, s)) = .ok (.nx e, s) := (rfl : _ = _).trans rfl
@[simp] theorem sEx_eq {m : M} : sEx m e s = kEx e (m e s) := by
  unfold sEx kEx; rcases m e s with ⟨o, s⟩ | _ | _ <;> simp
def kRet : R (D × Sto) → R (O × Sto)
  | .ok (d, s) => .ok (.rt d, s) | .exc c => .exc c | .bad => .bad
@[simp] theorem kRet_ok : kRet (.ok (d, s)) = .ok (.rt d, s) := (rfl : _ = _).trans rfl
@[simp] theorem sRet_eq {m : M} : sRet m e s = kRet (m e s) := by
  unfold sRet kRet; rcases m e s with ⟨o, s⟩ | _ | _ <;> simp
@[simp] theorem sCt_eq : sCt e s = .ok (.ct e, s) := (rfl : _ = _).trans rfl
@[simp] theorem sBk_eq : sBk e s = .ok (.bk e, s) := (rfl : _ = _).trans rfl
@[simp] theorem sPs_eq : sPs e s = .ok (.nx e, s) := (rfl : _ = _).trans rfl
@[simp] theorem sRaise_eq {c} : sRaise c e s = .exc c := (rfl : _ = _).trans rfl
def kFor (i : Nat) (b : S) (e : Env) : R (List D × Sto) → R (O × Sto)
  | .ok (ds, s) => forF i b ds e s | .exc c => .exc c | .bad => .bad
@[simp] theorem kFor_ok {b : S} : kFor i b e (.ok (ds, s)) = forF i b ds e s := (rfl : _ = _).trans rfl
@[simp] theorem sFor_eq {a : A} {b : S} : sFor i a b e s = kFor i b e (a e s) := by
  unfold sFor kFor; rcases a e s with ⟨o, s⟩ | _ | _ <;> simp
/-! owned objects -/
def kApp2 (k : Nat) : R (D × Sto) → R (D × Sto)
  | .ok (d, s) => match s[k]? with
    | some (.L ds) => if ds.length < 16777216 ∧ free d = true then .ok (.non, s.set k (.L (ds ++ [d]))) else .bad
    | _ => .bad
  | .exc c => .exc c | .bad => .bad
def kApp (a : M) (e : Env) : R (D × Sto) → R (D × Sto)
  | .ok (.own k, s) => match s[k]? with
    | some (.L _) => kApp2 k (a e s)
    | _ => .bad
  | .ok _ => .bad | .exc c => .exc c | .bad => .bad
theorem kApp_ok {a : M} {k : Nat} (h : s[k]? = some (.L ds)) : kApp a e (.ok (.own k, s)) = kApp2 k (a e s) := by simp only [kApp, h]
theorem kApp2_ok {k : Nat} (h : s[k]? = some (.L ds)) (h2 : ds.length < 16777216) (h3 : free d = true) : kApp2 k (.ok (d, s)) = .ok (.non, s.set k (.L (ds ++ [d]))) := by simp only [kApp2, h, h2, h3, and_self, if_true]
@[simp] theorem mApp_eq {o a : M} : mApp o a e s = kApp a e (o e s) := by
  unfold mApp kApp; rcases o e s with ⟨x, s⟩ | _ | _ <;> simp only [R.bind_ok, R.bind_exc, R.bind_bad]
  cases x <;> simp only
  rename_i k
  cases s[k]? with
  | none => rfl
  | some o =>
    cases o <;> simp only
    rcases a e s with ⟨y, s⟩ | _ | _ <;> simp only [R.bind_ok, R.bind_exc, R.bind_bad, kApp2, line_eq]
    all_goals (cases s[k]? with
    | none => rfl
    | some o => cases o <;> rfl)
def kFz (s : Sto) : R (D × Sto) → R (D × Sto)
  | .ok (d, _) => if noL d = true then .ok (d, s) else .bad
  | .exc c => .exc c | .bad => .bad
@[simp] theorem kFz_ok : kFz s (.ok (d, s')) = if noL d = true then .ok (d, s) else .bad := (rfl : _ = _).trans rfl
@[simp] theorem mFz_eq {m : M} : mFz m e s = kFz s (m (e.map fun o => o.bind (fzD s)) []) := by
  unfold mFz; generalize m (e.map fun o => o.bind (fzD s)) [] = r; rcases r with ⟨x, s2⟩ | _ | _ <;> rfl
def kPop2 (s : Sto) (k : Nat) : Option Ob → R (D × Sto)
  | some (.L ds) => match ds[ds.length - 1]? with
    | some d => .ok (d, s.set k (.L ds.dropLast))
    | none => .bad
  | _ => .bad
def kPop : R (D × Sto) → R (D × Sto)
  | .ok (.own k, s) => kPop2 s k s[k]?
  | .ok _ => .bad | .exc c => .exc c | .bad => .bad
@[simp] theorem kPop_ok {k : Nat} : kPop (.ok (.own k, s)) = kPop2 s k s[k]? := (rfl : _ = _).trans rfl
theorem kPop2_ok {k : Nat} : kPop2 s k (some (.L (ds ++ [d]))) = .ok (d, s.set k (.L ds)) := by
  simp only [kPop2, List.length_append, List.length_cons, List.length_nil, Nat.zero_add, Nat.add_sub_cancel, List.getElem?_concat_length, List.dropLast_concat]
@[simp] theorem mPop_eq {o : M} : mPop o e s = kPop (o e s) := by
  unfold mPop kPop; rcases o e s with ⟨x, s⟩ | _ | _ <;> simp only [R.bind_ok, R.bind_exc, R.bind_bad]
  cases x <;> simp only [kPop2] <;> rfl
def kUpd2 (f : List D → List D) (s : Sto) (k : Nat) : Option Ob → R (D × Sto)
  | some (.L ds) => .ok (.non, s.set k (.L (f ds)))
  | _ => .bad
def kUpd (f : List D → List D) : R (D × Sto) → R (D × Sto)
  | .ok (.own k, s) => kUpd2 f s k s[k]?
  | .ok _ => .bad | .exc c => .exc c | .bad => .bad
@[simp] theorem kUpd_ok {f : List D → List D} {k : Nat} : kUpd f (.ok (.own k, s)) = kUpd2 f s k s[k]? := (rfl : _ = _).trans rfl
@[simp] theorem kUpd2_ok {f : List D → List D} {k : Nat} : kUpd2 f s k (some (.L ds)) = .ok (.non, s.set k (.L (f ds))) := (rfl : _ = _).trans rfl
@[simp] theorem mUpd_eq {f : List D → List D} {o : M} : mUpd f o e s = kUpd f (o e s) := by
  unfold mUpd kUpd; rcases o e s with ⟨x, s⟩ | _ | _ <;> simp only [R.bind_ok, R.bind_exc, R.bind_bad]
  cases x <;> simp only [kUpd2] <;> rfl
def kPut4 (s : Sto) (e : Env) : Option Sto → R (O × Sto)
  | some s' => .ok (.nx e, s') | none => .bad
@[simp] theorem kPut4_some : kPut4 s e (some s') = .ok (.nx e, s') := (rfl : _ = _).trans rfl
def kPut3 (e : Env) (v o : D) : R (D × Sto) → R (O × Sto)
  | .ok (i, s) => match o with
    | .own k => kPut4 s e (putS s k i v)
    | _ => .bad
  | .exc c => .exc c | .bad => .bad
@[simp] theorem kPut3_ok {v : D} {k : Nat} : kPut3 e v (.own k) (.ok (x, s)) = kPut4 s e (putS s k x v) := (rfl : _ = _).trans rfl
def kPut2 (i : M) (e : Env) (v : D) : R (D × Sto) → R (O × Sto)
  | .ok (o, s) => kPut3 e v o (i e s) | .exc c => .exc c | .bad => .bad
@[simp] theorem kPut2_ok {i : M} {v : D} : kPut2 i e v (.ok (x, s)) = kPut3 e v x (i e s) := (rfl : _ = _).trans rfl
def kPut1 (o i : M) (e : Env) : R (D × Sto) → R (O × Sto)
  | .ok (v, s) => kPut2 i e v (o e s) | .exc c => .exc c | .bad => .bad
@[simp] theorem kPut1_ok {o i : M} : kPut1 o i e (.ok (x, s)) = kPut2 i e x (o e s) := (rfl : _ = _).trans rfl
@[simp] theorem sPut_eq {o i v : M} : sPut o i v e s = kPut1 o i e (v e s) := by
  unfold sPut; rcases v e s with ⟨x, s⟩ | _ | _ <;> simp only [R.bind_ok, R.bind_exc, R.bind_bad, kPut1]
  rcases o e s with ⟨y, s⟩ | _ | _ <;> simp only [R.bind_ok, R.bind_exc, R.bind_bad, kPut2]
  rcases i e s with ⟨z, s⟩ | _ | _ <;> simp only [R.bind_ok, R.bind_exc, R.bind_bad, kPut3]
  cases y <;> simp only
  rename_i k
  cases putS s k z x <;> rfl
end
/-! a def -/
def kRun2 : Option D → R D
  | some d => .ok d | none => .bad
def kRun : R (O × Sto) → R D
  | .ok (.rt d, s) => kRun2 (frz 0 s d) | .ok (.nx _, _) => .ok .non | .ok _ => .bad | .exc c => .exc c | .bad => .bad
@[simp] theorem kRun2_some {d : D} : kRun2 (some d) = .ok d := (rfl : _ = _).trans rfl
@[simp] theorem kRun_rt {d : D} {s : Sto} : kRun (.ok (.rt d, s)) = kRun2 (frz 0 s d) := (rfl : _ = _).trans rfl
@[simp] theorem kRun_nx {e : Env} {s : Sto} : kRun (.ok (.nx e, s)) = .ok .non := (rfl : _ = _).trans rfl
@[simp] theorem kRun_exc {c} : kRun (.exc c) = .exc c := (rfl : _ = _).trans rfl
theorem run_eq (n : Nat) (b : S) (ds : List D) : run n b ds = kRun (b (ent n ds) []) := by
  unfold run runG fin kRun; rcases b (ent n ds) [] with ⟨o, s⟩ | _ | _ <;> simp
  cases o <;> simp
  rename_i d
  cases frz 0 s d <;> rfl
def kRunG2 (s : Sto) : Option D → R (D × Sto)
  | some d => .ok (d, s) | none => .bad
def kRunG (n : Nat) : R (O × Sto) → R (D × Sto)
  | .ok (.rt d, s) => kRunG2 (s.take n) (frz n s d) | .ok (.nx _, s) => .ok (.non, s.take n) | .ok _ => .bad | .exc c => .exc c | .bad => .bad
@[simp] theorem kRunG2_some {d : D} {s : Sto} : kRunG2 s (some d) = .ok (d, s) := (rfl : _ = _).trans rfl
@[simp] theorem kRunG_rt {n : Nat} {d : D} {s : Sto} : kRunG n (.ok (.rt d, s)) = kRunG2 (s.take n) (frz n s d) := (rfl : _ = _).trans rfl
@[simp] theorem kRunG_nx {n : Nat} {e : Env} {s : Sto} : kRunG n (.ok (.nx e, s)) = .ok (.non, s.take n) := (rfl : _ = _).trans rfl
theorem runG_eq (n : Nat) (b : S) (ds : List D) (s : Sto) : runG n b ds s = kRunG s.length (b (ent n ds) s) := by
  unfold runG fin kRunG; rcases b (ent n ds) s with ⟨o, s2⟩ | _ | _ <;> simp
  cases o <;> simp
  rename_i d
  cases frz s.length s2 d <;> rfl
@[simp] theorem ent_1 (n : Nat) (a : D) (ds : List D) : ent n (a :: ds) = some a :: ent (n - 1) ds := by
  unfold ent; rw [List.map_cons, List.cons_append, List.length_cons, Nat.sub_sub, Nat.add_comm 1]
@[simp] theorem ent_0 (n : Nat) : ent n [] = List.replicate n none := by simp [ent]
end Mini
end
section
/-! Mini2: fresh lists that are ours alone, and defs that hand back what they own -/
namespace Mini
/-- a comprehension that is ours alone -/
def mLcO (i : Nat) (it : A) (t : T) (m : M) : M := fun e s => (it e s).bind fun p => if p.1.length ≤ line then (lcF i t m e p.1 p.2).bind fun q => .ok (.own q.2.length, q.2 ++ [.L q.1]) else .bad
@[simp] def catD : D → D → Option (List D)
  | .lst xs, .lst ys => if xs.length + ys.length ≤ line then some (xs ++ ys) else none
  | _, _ => none
/-- a + b, lists; ours alone -/
def mOwnCat (a b : M) : M := fun e s => (a e s).bind fun p => (b e p.2).bind fun q => (R.of (catD (rz q.2 p.1) (rz q.2 q.1))).bind fun ds => .ok (.own q.2.length, q.2 ++ [.L ds])
/-- a def whose own objects go over to its caller -/
def runK (names : Nat) (b : S) : F := fun ds s => fin (b (ent names ds) s)
section
variable {e : Env} {s s' : Sto} {d x y : D} {ds : List D} {i : Nat}
def kLcO2 : R (List D × Sto) → R (D × Sto)
  | .ok (ys, s) => .ok (.own s.length, s ++ [.L ys]) | .exc c => .exc c | .bad => .bad
def kLcO (i : Nat) (t : T) (m : M) (e : Env) : R (List D × Sto) → R (D × Sto)
  | .ok (ds, s) => if ds.length ≤ 16777216 then kLcO2 (lcF i t m e ds s) else .bad | .exc c => .exc c | .bad => .bad
@[simp] theorem kLcO2_ok : kLcO2 (.ok (ds, s)) = .ok (.own s.length, s ++ [.L ds]) := (rfl : _ = _).trans rfl
@[simp] theorem kLcO_ok {t : T} {m : M} : kLcO i t m e (.ok (ds, s)) = if ds.length ≤ 16777216 then kLcO2 (lcF i t m e ds s) else .bad := (rfl : _ = _).trans rfl
@[simp] theorem mLcO_eq {a : A} {t : T} {m : M} : mLcO i a t m e s = kLcO i t m e (a e s) := by
  unfold mLcO kLcO; rcases a e s with ⟨d, s⟩ | _ | _ <;> simp only [R.bind_ok, R.bind_exc, R.bind_bad, line_eq]; split <;> try rfl
  cases lcF i t m e d s <;> rfl
def kCat3 (s : Sto) : Option (List D) → R (D × Sto)
  | some ds => .ok (.own s.length, s ++ [.L ds]) | none => .bad
@[simp] theorem kCat3_some : kCat3 s (some ds) = .ok (.own s.length, s ++ [.L ds]) := (rfl : _ = _).trans rfl
def kCat2 (x : D) : R (D × Sto) → R (D × Sto)
  | .ok (y, s) => kCat3 s (catD (rz s x) (rz s y)) | .exc c => .exc c | .bad => .bad
def kCat1 (b : M) (e : Env) : R (D × Sto) → R (D × Sto)
  | .ok (x, s) => kCat2 x (b e s) | .exc c => .exc c | .bad => .bad
@[simp] theorem kCat2_ok : kCat2 x (.ok (y, s)) = kCat3 s (catD (rz s x) (rz s y)) := (rfl : _ = _).trans rfl
@[simp] theorem kCat1_ok {b : M} : kCat1 b e (.ok (x, s)) = kCat2 x (b e s) := (rfl : _ = _).trans rfl
theorem of_kCat3 (o : Option (List D)) : ((R.of o).bind fun ds => R.ok (D.own s.length, s ++ [.L ds])) = kCat3 s o := by cases o <;> rfl
@[simp] theorem mOwnCat_eq {a b : M} : mOwnCat a b e s = kCat1 b e (a e s) := by
  unfold mOwnCat; rcases a e s with ⟨x, s⟩ | _ | _ <;> simp only [R.bind_ok, R.bind_exc, R.bind_bad, kCat1]
  rcases b e s with ⟨y, s⟩ | _ | _ <;> simp only [R.bind_ok, R.bind_exc, R.bind_bad, kCat2, of_kCat3]
def kRunK : R (O × Sto) → R (D × Sto)
  | .ok (.rt d, s) => .ok (d, s) | .ok (.nx _, s) => .ok (.non, s) | .ok _ => .bad | .exc c => .exc c | .bad => .bad
@[simp] theorem kRunK_rt : kRunK (.ok (.rt d, s)) = .ok (d, s) := (rfl : _ = _).trans rfl
@[simp] theorem kRunK_nx : kRunK (.ok (.nx e, s)) = .ok (.non, s) := (rfl : _ = _).trans rfl
theorem runK_eq (n : Nat) (b : S) (ds : List D) (s : Sto) : runK n b ds s = kRunK (b (ent n ds) s) := by
  unfold runK fin kRunK; rcases b (ent n ds) s with ⟨o, s2⟩ | _ | _ <;> simp
  cases o <;> simp
end
end Mini
end
section
/-! Lm: lemmas about the pure evaluator's loops -/
namespace Mini
theorem lcF_map {i : Nat} {m : M} {e : Env} {s : Sto} (f : D → D) : ∀ ds : List D, (∀ d ∈ ds, m (e.set i (some d)) s = .ok (f d, s) ∧ chk s [f d] = true) → lcF i tYes m e ds s = .ok (ds.map f, s)
  | [], _ => rfl
  | d :: ds, h => by
    obtain ⟨h1, h2⟩ := h d List.mem_cons_self
    have ih := lcF_map f ds fun d hd => h d (List.mem_cons_of_mem _ hd)
    have h2' : chk s [f d] = true := h2
    simp only [lcF, tYes, R.nox_ok, R.bind_ok, if_true, h1, h2', ih, List.map_cons]
/-- the same over indices -/
theorem lcF_idx {i : Nat} {m : M} {e : Env} {s : Sto} {α : Type} (g : α → D) (f : α → D) : ∀ xs : List α, (∀ x ∈ xs, m (e.set i (some (g x))) s = .ok (f x, s) ∧ chk s [f x] = true) → lcF i tYes m e (xs.map g) s = .ok (xs.map f, s)
  | [], _ => rfl
  | x :: xs, h => by
    obtain ⟨h1, h2⟩ := h x List.mem_cons_self
    have ih := lcF_idx g f xs fun d hd => h d (List.mem_cons_of_mem _ hd)
    have h2' : chk s [f x] = true := h2
    simp only [List.map_cons, lcF, tYes, R.nox_ok, R.bind_ok, if_true, h1, h2', ih]
/-- a loop by its invariant -/
theorem forF_inv {i : Nat} {b : S} (I : Nat → Env → Sto → Prop) : ∀ (ds : List D) (j : Nat) (e : Env) (s : Sto), I j e s →
    (∀ k e s d, I (j + k) e s → ds[k]? = some d → ∃ e' s', (b (e.set i (some d)) s = .ok (.nx e', s') ∨ b (e.set i (some d)) s = .ok (.ct e', s')) ∧ I (j + k + 1) e' s') →
    ∃ e' s', forF i b ds e s = .ok (.nx e', s') ∧ I (j + ds.length) e' s'
  | [], j, e, s, h, _ => ⟨e, s, rfl, h⟩
  | d :: ds, j, e, s, h, st => by
    obtain ⟨e', s', hb, h'⟩ := st 0 e s d h rfl
    obtain ⟨e2, s2, h2, h3⟩ := forF_inv I ds (j + 1) e' s' h' fun k e s d hi hd => by
      have e1 : j + 1 + k = j + (k + 1) := by omega
      rw [e1] at hi ⊢
      exact st (k + 1) e s d hi (by simpa using hd)
    refine ⟨e2, s2, ?_, by rw [List.length_cons, show j + (ds.length + 1) = j + 1 + ds.length by omega]; exact h3⟩
    rcases hb with hb | hb <;> simp only [forF, hb, R.bind_ok, h2]
theorem rng_len (lo : Int) (n : Nat) : (rng lo n).length = n := by simp [rng]
theorem rng_at {lo : Int} {n k : Nat} {d : D} (h : (rng lo n)[k]? = some d) : k < n ∧ d = .int (lo + (k : Int)) := by
  unfold rng at h
  rw [List.getElem?_map] at h
  obtain ⟨j, hj, rfl⟩ := Option.map_eq_some_iff.mp h
  obtain ⟨h1, h2⟩ := List.getElem?_eq_some_iff.mp hj
  simp at h1 h2
  subst h2
  exact ⟨h1, rfl⟩
theorem pos_nat {n k : Nat} (h : k < n) : pos n (k : Int) = some k := by simp [pos, h]
theorem opIx_str_nat (s : Sto) (z : List Nat) (k : Nat) (h1 : k < z.length) (hl : z.length ≤ 16777216) : opIx s (.str z) (.int (k : Int)) = some (.str [at0 z k]) := by
  rw [opIx_str s z k (by omega) (by omega) hl]
  simp
theorem strs_map {α : Type} (f : α → List Nat) : ∀ xs : List α, zstrs (xs.map fun x => .str (f x)) = some (xs.map f)
  | [] => rfl
  | x :: xs => by simp only [List.map_cons, zstrs, strs_map f xs]; rfl
theorem ints_map {α : Type} (f : α → Int) : ∀ xs : List α, zints (xs.map fun x => .int (f x)) = some (xs.map f)
  | [] => rfl
  | x :: xs => by simp only [List.map_cons, zints, ints_map f xs]; rfl
theorem bls_map {α : Type} (f : α → Bool) : ∀ xs : List α, bls (xs.map fun x => .bl (f x)) = some (xs.map f)
  | [] => rfl
  | x :: xs => by simp only [List.map_cons, bls, bls_map f xs]; rfl
theorem glue_nil : ∀ xs : List (List Nat), glue [] xs = xs.flatten
  | [] => rfl
  | [x] => by simp [glue]
  | x :: y :: r => by
    have := glue_nil (y :: r)
    simp only [glue, this]
    simp
theorem glue_one {α : Type} (f : α → Nat) (xs : List α) : glue [] (xs.map fun x => [f x]) = xs.map f := by
  rw [glue_nil]
  induction xs with
  | nil => rfl
  | cons x xs ih => simp [ih]
theorem sum_one {α : Type} (f : α → List Nat) (xs : List α) (h : ∀ x ∈ xs, (f x).length = 1) : ((xs.map f).map (·.length)).sum = xs.length := by
  induction xs with
  | nil => rfl
  | cons x xs ih =>
    simp only [List.map_cons, List.sum_cons, List.length_cons]
    rw [h x List.mem_cons_self, ih fun y hy => h y (List.mem_cons_of_mem _ hy)]
    omega
/-- join of one-sign texts -/
theorem join_signs {α : Type} (f : α → Nat) (xs : List α) (h : xs.length ≤ 16777216) : joinD [] (.lst (xs.map fun x => .str [f x])) = some (.str (xs.map f)) := by
  simp only [joinD, strs_map fun x => [f x], Option.bind_some]
  rw [if_pos, glue_one]
  rw [sum_one _ _ fun _ _ => rfl]
  simp
  exact h
end Mini
end
section
/-! Sound: Mini's combinators against the hand layer. -/
namespace Snd
open PySem L2

/-- the heap without what is protected or owned -/
def imm (H : Hp) (P α : List Addr) : Hp := fun b => if b ∈ P ∨ b ∈ α then none else H b
theorem imm_some {H : Hp} {P α : List Addr} {b : Addr} {o : HO} : imm H P α b = some o ↔ b ∉ P ∧ b ∉ α ∧ H b = some o := by
  unfold imm
  split
  · rename_i h
    constructor
    · intro q; cases q
    · rintro ⟨h1, h2, _⟩
      exact (h.elim h1 h2).elim
  · rename_i h
    constructor
    · intro q
      exact ⟨fun z => h (.inl z), fun z => h (.inr z), q⟩
    · exact fun q => q.2.2
def Ext (G G' : Hp) : Prop := ∀ b o, G b = some o → G' b = some o
theorem Ext.refl (G : Hp) : Ext G G := fun _ _ h => h
theorem Ext.trans {G G' G2 : Hp} (a : Ext G G') (b : Ext G' G2) : Ext G G2 := fun c o h => b c o (a c o h)
theorem imm_sub (H : Hp) (P α : List Addr) : Ext (imm H P α) H := fun b o h => (imm_some.mp h).2.2
theorem Ext.sqL {K : PySem.W.Frag} {G G' : Hp} {a : Addr} {xs : List V} (e : Ext G G') (h : SqL K G a xs) : SqL K G' a xs := by
  rcases h with (h | ⟨o, h⟩) | h
  · exact .inl (.inl (e _ _ h))
  · exact .inl (.inr ⟨o, e _ _ h⟩)
  · exact .inr h

mutual
/-- d stands at v -/
def Dr (K : PySem.W.Frag) (G : Hp) : List Addr → Mini.D → V → Prop
  | _, .non, v => v = .non
  | _, .bl b, v => v = .bl b
  | _, .int i, v => v = .int i
  | _, .str s, v => v = .str ⟨s.toArray⟩
  | α, .tup ds, v => ∃ a xs, v = .ref a ∧ G a = some (.tup xs) ∧ DrL K G α ds xs
  | _, .lst ds, v => ∃ a xs, v = .ref a ∧ G a = some (.lst xs) ∧ DrL K G [] ds xs
  | _, .scr ns, v => ∃ a, v = .ref a ∧ SqL K G a (ns.map V.int)
  | α, .own k, v => ∃ a, α[k]? = some a ∧ v = .ref a
  | _, .dic n, v => ∃ a kvs, v = .ref a ∧ G a = some (.dT kvs) ∧ kvs.length = n
def DrL (K : PySem.W.Frag) (G : Hp) : List Addr → List Mini.D → List V → Prop
  | _, [], [] => True
  | α, d :: ds, v :: vs => Dr K G α d v ∧ DrL K G α ds vs
  | _, _, _ => False
end
section
variable {K : PySem.W.Frag} {G G' : Hp}
theorem drL_iff {α : List Addr} : ∀ {ds : List Mini.D} {xs : List V}, DrL K G α ds xs ↔ ds.length = xs.length ∧ ∀ (i : Nat) d x, ds[i]? = some d → xs[i]? = some x → Dr K G α d x
  | [], [] => by simp [DrL]
  | [], x :: xs => by simp [DrL]
  | d :: ds, [] => by simp [DrL]
  | d :: ds, x :: xs => by
    rw [DrL, drL_iff (ds := ds) (xs := xs)]
    constructor
    · rintro ⟨h1, h2, h3⟩
      refine ⟨by simp [h2], fun i e y he hy => ?_⟩
      cases i with
      | zero => simp at he hy; subst he; subst hy; exact h1
      | succ i => exact h3 i e y (by simpa using he) (by simpa using hy)
    · rintro ⟨h1, h2⟩
      exact ⟨h2 0 d x rfl rfl, by simpa using h1, fun i e y he hy => h2 (i + 1) e y (by simpa using he) (by simpa using hy)⟩
theorem DrL.len {α : List Addr} {ds : List Mini.D} {xs : List V} (h : DrL K G α ds xs) : ds.length = xs.length := (drL_iff.mp h).1
theorem DrL.at {α : List Addr} {ds : List Mini.D} {xs : List V} (h : DrL K G α ds xs) {i : Nat} {d : Mini.D} (e : ds[i]? = some d) : ∃ x, xs[i]? = some x ∧ Dr K G α d x := by
  have hl := h.len
  have hi : i < xs.length := by rw [← hl]; exact (List.getElem?_eq_some_iff.mp e).1
  exact ⟨xs[i], List.getElem?_eq_getElem hi, (drL_iff.mp h).2 i d _ e (List.getElem?_eq_getElem hi)⟩
mutual
theorem Dr.mono {α α' : List Addr} (e : Ext G G') (p : ∀ (k : Nat) a, α[k]? = some a → α'[k]? = some a) : ∀ {d : Mini.D} {v : V}, Dr K G α d v → Dr K G' α' d v
  | .non, v, h => by simpa [Dr] using h
  | .bl b, v, h => by simpa [Dr] using h
  | .int i, v, h => by simpa [Dr] using h
  | .str s, v, h => by simpa [Dr] using h
  | .tup ds, v, h => by
    rw [Dr] at h ⊢
    obtain ⟨a, xs, h1, h2, h3⟩ := h
    exact ⟨a, xs, h1, e _ _ h2, DrL.mono e p h3⟩
  | .lst ds, v, h => by
    rw [Dr] at h ⊢
    obtain ⟨a, xs, h1, h2, h3⟩ := h
    exact ⟨a, xs, h1, e _ _ h2, DrL.mono e (fun _ _ q => q) h3⟩
  | .scr ns, v, h => by
    rw [Dr] at h ⊢
    obtain ⟨a, h1, h2⟩ := h
    exact ⟨a, h1, e.sqL h2⟩
  | .own k, v, h => by
    rw [Dr] at h ⊢
    obtain ⟨a, h1, h2⟩ := h
    exact ⟨a, p k a h1, h2⟩
  | .dic n, v, h => by
    rw [Dr] at h ⊢
    obtain ⟨a, kvs, h1, h2, h3⟩ := h
    exact ⟨a, kvs, h1, e _ _ h2, h3⟩
theorem DrL.mono {α α' : List Addr} (e : Ext G G') (p : ∀ (k : Nat) a, α[k]? = some a → α'[k]? = some a) : ∀ {ds : List Mini.D} {vs : List V}, DrL K G α ds vs → DrL K G' α' ds vs
  | [], [], h => by simp [DrL]
  | [], _ :: _, h => by simp [DrL] at h
  | _ :: _, [], h => by simp [DrL] at h
  | d :: ds, v :: vs, h => by
    rw [DrL] at h ⊢
    exact ⟨Dr.mono e p h.1, DrL.mono e p h.2⟩
end
mutual
theorem Dr.free {α α' : List Addr} : ∀ {d : Mini.D} {v : V}, Mini.free d = true → Dr K G α d v → Dr K G α' d v
  | .non, v, _, h => by simpa [Dr] using h
  | .bl b, v, _, h => by simpa [Dr] using h
  | .int i, v, _, h => by simpa [Dr] using h
  | .str s, v, _, h => by simpa [Dr] using h
  | .tup ds, v, f, h => by
    rw [Dr] at h ⊢
    obtain ⟨a, xs, h1, h2, h3⟩ := h
    exact ⟨a, xs, h1, h2, DrL.free (by simpa [Mini.free] using f) h3⟩
  | .lst ds, v, _, h => by rw [Dr] at h ⊢; exact h
  | .scr ns, v, _, h => by rw [Dr] at h ⊢; exact h
  | .own k, v, f, h => by simp [Mini.free] at f
  | .dic n, v, _, h => by rw [Dr] at h ⊢; exact h
theorem DrL.free {α α' : List Addr} : ∀ {ds : List Mini.D} {vs : List V}, Mini.freeL ds = true → DrL K G α ds vs → DrL K G α' ds vs
  | [], [], _, h => by simp [DrL]
  | [], _ :: _, _, h => by simp [DrL] at h
  | _ :: _, [], _, h => by simp [DrL] at h
  | d :: ds, v :: vs, f, h => by
    rw [DrL] at h ⊢
    have f' : Mini.free d = true ∧ Mini.freeL ds = true := by simpa [Mini.freeL] using f
    exact ⟨Dr.free f'.1 h.1, DrL.free f'.2 h.2⟩
end
theorem DrL.nil_any {α : List Addr} {ds : List Mini.D} {vs : List V} (h : DrL K G [] ds vs) : DrL K G α ds vs := DrL.mono (Ext.refl G) (fun k a q => by simp at q) h
theorem Dr.nil_any {α : List Addr} {ds : Mini.D} {vs : V} (h : Dr K G [] ds vs) : Dr K G α ds vs := Dr.mono (Ext.refl G) (fun k a q => by simp at q) h
theorem DrL.append {α : List Addr} {ds es : List Mini.D} {vs us : List V} (h : DrL K G α ds vs) (h' : DrL K G α es us) : DrL K G α (ds ++ es) (vs ++ us) := by
  rw [drL_iff] at h h' ⊢
  refine ⟨by simp [h.1, h'.1], fun i d x hd hx => ?_⟩
  by_cases hi : i < ds.length
  · rw [List.getElem?_append_left hi] at hd
    rw [List.getElem?_append_left (by omega)] at hx
    exact h.2 i d x hd hx
  · rw [List.getElem?_append_right (by omega)] at hd hx
    rw [← h.1] at hx
    exact h'.2 _ d x hd hx
theorem DrL.take {α : List Addr} {ds : List Mini.D} {vs : List V} (h : DrL K G α ds vs) (n : Nat) : DrL K G α (ds.take n) (vs.take n) := by
  rw [drL_iff] at h ⊢
  refine ⟨by simp [h.1], fun i d x hd hx => ?_⟩
  rw [List.getElem?_take] at hd hx
  split at hd <;> simp_all
  exact h.2 i d x hd hx
theorem DrL.drop {α : List Addr} {ds : List Mini.D} {vs : List V} (h : DrL K G α ds vs) (n : Nat) : DrL K G α (ds.drop n) (vs.drop n) := by
  rw [drL_iff] at h ⊢
  refine ⟨by simp [h.1], fun i d x hd hx => ?_⟩
  rw [List.getElem?_drop] at hd hx
  exact h.2 _ d x hd hx
theorem DrL.set {α : List Addr} {ds : List Mini.D} {vs : List V} (h : DrL K G α ds vs) (n : Nat) {d : Mini.D} {v : V} (hd : Dr K G α d v) : DrL K G α (ds.set n d) (vs.set n v) := by
  rw [drL_iff] at h ⊢
  refine ⟨by simp [h.1], fun i e x he hx => ?_⟩
  rw [List.getElem?_set] at he hx
  split at he
  · rename_i q
    subst q
    rw [if_pos rfl] at hx
    split at he
    · split at hx
      · cases he; cases hx; exact hd
      · cases hx
    · cases he
  · rename_i q
    rw [if_neg q] at hx
    exact h.2 i e x he hx
theorem DrL.reverse {α : List Addr} {ds : List Mini.D} {vs : List V} (h : DrL K G α ds vs) : DrL K G α ds.reverse vs.reverse := by
  rw [drL_iff] at h ⊢
  refine ⟨by simp [h.1], fun i d x hd hx => ?_⟩
  have hi : i < ds.length := by
    have := (List.getElem?_eq_some_iff.mp hd).1
    simpa using this
  rw [List.getElem?_reverse hi] at hd
  rw [List.getElem?_reverse (by omega)] at hx
  rw [← h.1] at hx
  exact h.2 _ d x hd hx
theorem DrL.dropLast {α : List Addr} {ds : List Mini.D} {vs : List V} (h : DrL K G α ds vs) : DrL K G α ds.dropLast vs.dropLast := by
  rw [List.dropLast_eq_take, List.dropLast_eq_take, h.len]
  exact h.take _
theorem DrL.rep {α : List Addr} {ds : List Mini.D} {vs : List V} (h : DrL K G α ds vs) : ∀ n : Nat, DrL K G α (List.replicate n ds).flatten (List.replicate n vs).flatten
  | 0 => by simp [DrL]
  | n + 1 => by
    simp only [List.replicate_succ, List.flatten_cons]
    exact h.append (DrL.rep h n)
theorem DrL.ofInts {α : List Addr} : ∀ (ns : List Int), DrL K G α (ns.map .int) (ns.map V.int)
  | [] => by simp [DrL]
  | n :: ns => by
    simp only [List.map_cons, DrL]
    exact ⟨by simp [Dr], DrL.ofInts ns⟩
theorem DrL.zints {α : List Addr} : ∀ {ds : List Mini.D} {vs : List V} {ns : List Int}, DrL K G α ds vs → Mini.zints ds = some ns → vs = ns.map V.int
  | [], [], ns, _, h => by simp [Mini.zints] at h; subst h; rfl
  | [], _ :: _, _, h, _ => by simp [DrL] at h
  | _ :: _, [], _, h, _ => by simp [DrL] at h
  | d :: ds, v :: vs, ns, h, e => by
    rw [DrL] at h
    cases d <;> simp [Mini.zints] at e
    obtain ⟨ms, h1, h2⟩ := e
    subst h2
    have := DrL.zints h.2 h1
    have h0 := h.1
    rw [Dr] at h0
    simp [this, h0]
theorem DrL.bls {α : List Addr} : ∀ {ds : List Mini.D} {vs : List V} {ns : List Bool}, DrL K G α ds vs → Mini.bls ds = some ns → vs = ns.map V.bl
  | [], [], ns, _, h => by simp [Mini.bls] at h; subst h; rfl
  | [], _ :: _, _, h, _ => by simp [DrL] at h
  | _ :: _, [], _, h, _ => by simp [DrL] at h
  | d :: ds, v :: vs, ns, h, e => by
    rw [DrL] at h
    cases d <;> simp [Mini.bls] at e
    obtain ⟨ms, h1, h2⟩ := e
    subst h2
    have := DrL.bls h.2 h1
    have h0 := h.1
    rw [Dr] at h0
    simp [this, h0]
theorem DrL.zstrs {α : List Addr} : ∀ {ds : List Mini.D} {vs : List V} {ns : List (List Nat)}, DrL K G α ds vs → Mini.zstrs ds = some ns → vs = ns.map fun z => V.str ⟨z.toArray⟩
  | [], [], ns, _, h => by simp [Mini.zstrs] at h; subst h; rfl
  | [], _ :: _, _, h, _ => by simp [DrL] at h
  | _ :: _, [], _, h, _ => by simp [DrL] at h
  | d :: ds, v :: vs, ns, h, e => by
    rw [DrL] at h
    cases d <;> simp [Mini.zstrs] at e
    obtain ⟨ms, h1, h2⟩ := e
    subst h2
    have := DrL.zstrs h.2 h1
    have h0 := h.1
    rw [Dr] at h0
    simp [this, h0]
end

/-! ### states -/
def ObR (K : PySem.W.Frag) (G : Hp) : Mini.Ob → Option HO → Prop
  | .L ds, o => ∃ xs, o = some (.lst xs) ∧ DrL K G [] ds xs
  | .DI ks, o => o = some (.dK (ks.map fun k => (Sum.inl k, V.bl true)))
  | .DT ks, o => o = some (.dT (ks.map fun k => (k.map Sum.inl, V.bl true)))
structure StR (K : PySem.W.Frag) (P α : List Addr) (s : Mini.Sto) (H : Hp) : Prop where
  nd : α.Nodup
  dis : ∀ a ∈ α, a ∉ P
  pt : ∀ b ∈ P, H b ≠ none
  len : s.length = α.length
  ob : ∀ (k : Nat) o a, s[k]? = some o → α[k]? = some a → ObR K (imm H P α) o (H a)
structure Gr (P α : List Addr) (H : Hp) (α' : List Addr) (H' : Hp) : Prop where
  pre : ∀ (k : Nat) a, α[k]? = some a → α'[k]? = some a
  ext : Ext (imm H P α) (imm H' P α')
  keep : ∀ b ∈ P, ∀ o, H b = some o → H' b = some o
theorem Gr.refl (P α : List Addr) (H : Hp) : Gr P α H α H := ⟨fun _ _ h => h, Ext.refl _, fun _ _ _ h => h⟩
theorem Gr.trans {P α α' α2 : List Addr} {H H' H2 : Hp} (a : Gr P α H α' H') (b : Gr P α' H' α2 H2) : Gr P α H α2 H2 :=
  ⟨fun k x h => b.pre k x (a.pre k x h), a.ext.trans b.ext, fun c hc o h => b.keep c hc o (a.keep c hc o h)⟩
section
variable {K : PySem.W.Frag} {P α α' : List Addr} {s : Mini.Sto} {H H' : Hp}
theorem Gr.dr (g : Gr P α H α' H') {d : Mini.D} {v : V} (h : Dr K (imm H P α) α d v) : Dr K (imm H' P α') α' d v := Dr.mono g.ext g.pre h
theorem Gr.drL (g : Gr P α H α' H') {d : List Mini.D} {v : List V} (h : DrL K (imm H P α) α d v) : DrL K (imm H' P α') α' d v := DrL.mono g.ext g.pre h
theorem ObR.some_of {G : Hp} {o : Mini.Ob} {x : Option HO} (h : ObR K G o x) : x ≠ none := by
  cases o with
  | L ds => obtain ⟨xs, rfl, _⟩ := h; simp
  | DI ks => rw [ObR] at h; rw [h]; simp
  | DT ks => rw [ObR] at h; rw [h]; simp
theorem ObR.mono {G G' : Hp} {o : Mini.Ob} {x : Option HO} (e : Ext G G') (h : ObR K G o x) : ObR K G' o x := by
  cases o with
  | L ds => obtain ⟨xs, h1, h2⟩ := h; exact ⟨xs, h1, DrL.mono e (fun _ _ q => q) h2⟩
  | DI ks => exact h
  | DT ks => exact h
theorem StR.there (h : StR K P α s H) {a : Addr} (ha : a ∈ α) : H a ≠ none := by
  obtain ⟨k, hk, e⟩ := List.getElem_of_mem ha
  have hk' : k < s.length := by rw [h.len]; exact hk
  exact (h.ob k s[k] a (List.getElem?_eq_getElem hk') (by rw [List.getElem?_eq_getElem hk, e])).some_of
/-- a new object -/
theorem StR.new (h : StR K P α s H) {p : Addr} {o : HO} (hp : H p = none) : Gr P α H α (upd H p o) ∧ StR K P α s (upd H p o) ∧ imm (upd H p o) P α p = some o := by
  have n1 : p ∉ P := fun z => h.pt p z hp
  have n2 : p ∉ α := fun z => h.there z hp
  have e : Ext (imm H P α) (imm (upd H p o) P α) := fun b u q => by
    rw [imm_some] at q ⊢
    exact ⟨q.1, q.2.1, by rw [upd_ne (ne_of_none q.2.2 hp)]; exact q.2.2⟩
  refine ⟨⟨fun _ _ q => q, e, fun b hb u q => by rw [upd_ne (ne_of_none q hp)]; exact q⟩, ⟨h.nd, h.dis, fun b hb => ?_, h.len, fun k u a h1 h2 => ?_⟩, imm_some.mpr ⟨n1, n2, upd_same⟩⟩
  · rw [upd_ne (show b ≠ p from fun z => n1 (z ▸ hb))]
    exact h.pt b hb
  · have ha : a ∈ α := List.mem_of_getElem? h2
    rw [upd_ne (show a ≠ p from fun z => n2 (z ▸ ha))]
    exact (h.ob k u a h1 h2).mono e
theorem StR.chk (h : StR K P α s H) {ds : List Mini.D} {xs : List V} {G : Hp} (c : Mini.chk s ds = true) (r : DrL K G α ds xs) : DrL K G [] ds xs := by
  unfold Mini.chk at c
  rw [Bool.or_eq_true] at c
  rcases c with c | c
  · have e : s = [] := by simpa using c
    have : α = [] := by
      have := h.len
      rw [e] at this
      exact List.eq_nil_of_length_eq_zero this.symm
    rw [this] at r
    exact r
  · exact DrL.free c r
def EnvR (K : PySem.W.Frag) (G : Hp) (α : List Addr) (e : Mini.Env) (σ : L2.St) : Prop := e.length = σ.length ∧ ∀ (i : Nat) d, e[i]? = some (some d) → ∃ v, σ[i]? = some (some v) ∧ Dr K G α d v
structure SR (K : PySem.W.Frag) (P α : List Addr) (e : Mini.Env) (s : Mini.Sto) (σ : L2.St) (H : Hp) : Prop where
  st : StR K P α s H
  env : EnvR K (imm H P α) α e σ
theorem EnvR.gr {e : Mini.Env} {σ : L2.St} (h : EnvR K (imm H P α) α e σ) (g : Gr P α H α' H') : EnvR K (imm H' P α') α' e σ :=
  ⟨h.1, fun i d q => let ⟨v, h1, h2⟩ := h.2 i d q; ⟨v, h1, g.dr h2⟩⟩
theorem SR.gr {e : Mini.Env} {σ : L2.St} {s' : Mini.Sto} (h : SR K P α e s σ H) (g : Gr P α H α' H') (h' : StR K P α' s' H') : SR K P α' e s' σ H' := ⟨h', h.env.gr g⟩
theorem EnvR.set {G : Hp} {e : Mini.Env} {σ : L2.St} (h : EnvR K G α e σ) {i : Nat} {d : Mini.D} {v : V} (hd : Dr K G α d v) : EnvR K G α (e.set i (some d)) (σ.set i (some v)) := by
  refine ⟨by simp [h.1], fun j d' q => ?_⟩
  by_cases hj : i = j
  · subst hj
    rw [List.getElem?_set] at q
    simp only [if_true] at q
    split at q
    · rename_i hlt
      cases q
      exact ⟨v, by rw [List.getElem?_set]; simp [← h.1, hlt], hd⟩
    · cases q
  · rw [List.getElem?_set_ne hj] at q
    obtain ⟨w, h1, h2⟩ := h.2 j d' q
    exact ⟨w, by rw [List.getElem?_set_ne hj]; exact h1, h2⟩
theorem SR.set {e : Mini.Env} {σ : L2.St} (h : SR K P α e s σ H) {i : Nat} {d : Mini.D} {v : V} (hd : Dr K (imm H P α) α d v) : SR K P α (e.set i (some d)) s (σ.set i (some v)) H := ⟨h.st, h.env.set hd⟩
end

/-! ### what is wanted of a run -/
abbrev XC := Nat → Option Addr → Hp → Prop
def E00 : XC := fun _ _ _ => False
def Post (K : PySem.W.Frag) (E : XC) (P α : List Addr) (H : Hp) {β : Type} (r : Mini.R (β × Mini.Sto)) (k : β → Mini.Sto → List Addr → Hp → Prop) : Prop :=
  match r with
  | .ok p => ∀ α' H', Gr P α H α' H' → StR K P α' p.2 H' → k p.1 p.2 α' H'
  | .exc c => ∀ oe α' H', Gr P α H α' H' → E c oe H'
  | .bad => False
section
variable {K : PySem.W.Frag} {E : XC} {P α α' : List Addr} {s : Mini.Sto} {H H' : Hp} {β γ : Type}
theorem Post.later {r : Mini.R (β × Mini.Sto)} {k : β → Mini.Sto → List Addr → Hp → Prop} (h : Post K E P α H r k) (g : Gr P α H α' H') : Post K E P α' H' r k := by
  cases r with
  | ok p => exact fun α2 H2 g2 s2 => h α2 H2 (g.trans g2) s2
  | exc c => exact fun oe α2 H2 g2 => h oe α2 H2 (g.trans g2)
  | bad => exact h
theorem Post.unbind {r : Mini.R (β × Mini.Sto)} {f : β × Mini.Sto → Mini.R (γ × Mini.Sto)} {k : γ → Mini.Sto → List Addr → Hp → Prop} (h : Post K E P α H (r.bind f) k) :
    Post K E P α H r fun d s1 α1 H1 => Post K E P α1 H1 (f (d, s1)) k := by
  cases r with
  | ok p => exact fun α1 H1 g1 s1 => Post.later (r := f p) h g1
  | exc c => exact h
  | bad => exact h
theorem Post.imp {r : Mini.R (β × Mini.Sto)} {k k' : β → Mini.Sto → List Addr → Hp → Prop} (h : Post K E P α H r k) (f : ∀ d s1 α1 H1, Gr P α H α1 H1 → StR K P α1 s1 H1 → k d s1 α1 H1 → k' d s1 α1 H1) : Post K E P α H r k' := by
  cases r with
  | ok p => exact fun α1 H1 g1 s1 => f _ _ _ _ g1 s1 (h α1 H1 g1 s1)
  | exc c => exact h
  | bad => exact h
theorem Post.here {d : β} {k : β → Mini.Sto → List Addr → Hp → Prop} (h : Post K E P α H (.ok (d, s)) k) (hs : StR K P α s H) : k d s α H := h α H (Gr.refl _ _ _) hs
/-- a part that is not covered -/
theorem Post.unof {o : Option β} {f : β → Mini.R (γ × Mini.Sto)} {k : γ → Mini.Sto → List Addr → Hp → Prop} (h : Post K E P α H ((Mini.R.of o).bind f) k) : ∃ x, o = some x ∧ Post K E P α H (f x) k := by
  cases o with
  | none => exact h.elim
  | some x => exact ⟨x, rfl, h⟩
theorem Post.unite {c : Prop} [Decidable c] {r : Mini.R (γ × Mini.Sto)} {k : γ → Mini.Sto → List Addr → Hp → Prop} (h : Post K E P α H (if c then r else .bad) k) : c ∧ Post K E P α H r k := by
  split at h
  · rename_i hc; exact ⟨hc, h⟩
  · exact h.elim
end

/-! ### the readings -/
section
variable (K : PySem.W.Frag) (E : XC)
def tM (m : Mini.M) : TE := fun σ H Q => ∃ P α e s, SR K P α e s σ H ∧ Post K E P α H (m e s) fun d s' α' H' => ∀ v, Dr K (imm H' P α') α' d v → Q v H'
def tT (m : Mini.T) : TT := fun σ H Q => ∃ P α e s, SR K P α e s σ H ∧ Post K E P α H (m e s) fun b s' α' H' => Q b H'
def tA (m : Mini.A) : TA := fun σ H Q => ∃ P α e s, SR K P α e s σ H ∧ Post K E P α H (m e s) fun d s' α' H' => ∀ v, DrL K (imm H' P α') α' d v → Q v H'
def tO (m : Mini.PO) : TO := fun σ H Q => ∃ P α e s, SR K P α e s σ H ∧ Post K E P α H (m e s) fun b s' α' H' => Q b H'
def endK (P : List Addr) (D : Ends) : Mini.O → Mini.Sto → List Addr → Hp → Prop
  | .nx e, s, α, H => ∀ σ, SR K P α e s σ H → D.nx σ H
  | .bk e, s, α, H => ∀ σ, SR K P α e s σ H → D.bk σ H
  | .ct e, s, α, H => ∀ σ, SR K P α e s σ H → D.ct σ H
  | .rt d, s, α, H => ∀ v, Dr K (imm H P α) α d v → D.rt v H
def tS (m : Mini.S) : TS := fun D σ H => ∃ P α e s, SR K P α e s σ H ∧ Post K E P α H (m e s) (endK K P D)
end
theorem _root_.L2.PE.to {X : Cx} {e : Expr} {t t' : TE} (h : PE X e t) (c : ∀ σ H Q, t' σ H Q → t σ H Q) : PE X e t' := ⟨fun pins s σ H Q I q => h.run pins s σ H Q I (c _ _ _ q)⟩
theorem _root_.L2.PT.to {X : Cx} {e : Expr} {t t' : TT} (h : PT X e t) (c : ∀ σ H Q, t' σ H Q → t σ H Q) : PT X e t' := ⟨fun pins s σ H Q I q => h.run pins s σ H Q I (c _ _ _ q)⟩
theorem _root_.L2.PW.to {X : Cx} {e : Expr} {t t' : TT} (h : PW X e t) (c : ∀ σ H Q, t' σ H Q → t σ H Q) : PW X e t' := ⟨fun wh pins s σ H Q I q => h.run wh pins s σ H Q I (c _ _ _ q)⟩
theorem _root_.L2.PA.to {X : Cx} {e : List Expr} {t t' : TA} (h : PA X e t) (c : ∀ σ H Q, t' σ H Q → t σ H Q) : PA X e t' := ⟨fun pos pins s σ H Q I q => h.run pos pins s σ H Q I (c _ _ _ q)⟩
theorem _root_.L2.PO.to {X : Cx} {e : Option Expr} {t t' : TO} (h : L2.PO X e t) (c : ∀ σ H Q, t' σ H Q → t σ H Q) : L2.PO X e t' := by
  obtain ⟨r⟩ := h
  constructor
  intros
  apply r <;> first | assumption | (apply c; assumption)
theorem _root_.L2.PS.to {X : Cx} {e : Stmt} {t t' : TS} (h : PS X e t) (c : ∀ D σ H, t' D σ H → t D σ H) : PS X e t' := ⟨fun pins s σ H D I q => h.run pins s σ H D I (c _ _ _ q)⟩
theorem _root_.L2.PSs.to {X : Cx} {e : List Stmt} {t t' : TS} (h : PSs X e t) (c : ∀ D σ H, t' D σ H → t D σ H) : PSs X e t' := ⟨fun pins s σ H D I q => h.run pins s σ H D I (c _ _ _ q)⟩
theorem _root_.L2.PI.to {X : Cx} {tg e : Expr} {t t' : TI} (h : PI X tg e t) (c : ∀ σ H Q, t' σ H Q → t σ H Q) : PI X tg e t' := ⟨fun pins s σ H Q I q => h.run pins s σ H Q I (c _ _ _ q)⟩
theorem _root_.L2.PI.or {X : Cx} {tg e : Expr} {t t' : TI} (h : PI X tg e t) (h' : PI X tg e t') : PI X tg e (fun σ H R => t σ H R ∨ t' σ H R) :=
  ⟨fun pins s σ H Q I q => q.elim (h.run pins s σ H Q I) (h'.run pins s σ H Q I)⟩
end Snd
end
section
namespace Snd
open PySem L2

/-! ### seen in the whole heap -/
def DrH (K : PySem.W.Frag) (H G : Hp) (α : List Addr) : Mini.D → V → Prop
  | .tup ds, v => ∃ a xs, v = .ref a ∧ H a = some (.tup xs) ∧ DrL K G α ds xs
  | .lst ds, v => ∃ a xs, v = .ref a ∧ H a = some (.lst xs) ∧ DrL K G [] ds xs
  | .scr ns, v => ∃ a, v = .ref a ∧ SqL K H a (ns.map V.int)
  | .dic n, v => ∃ a kvs, v = .ref a ∧ H a = some (.dT kvs) ∧ kvs.length = n
  | d, v => Dr K G α d v
section
variable {K : PySem.W.Frag} {P α : List Addr} {s : Mini.Sto} {H : Hp}
theorem dr_drH {d : Mini.D} {v : V} (h : Dr K (imm H P α) α d v) : DrH K H (imm H P α) α d v := by
  cases d with
  | tup ds => rw [Dr] at h; obtain ⟨a, xs, h1, h2, h3⟩ := h; exact ⟨a, xs, h1, imm_sub _ _ _ _ _ h2, h3⟩
  | lst ds => rw [Dr] at h; obtain ⟨a, xs, h1, h2, h3⟩ := h; exact ⟨a, xs, h1, imm_sub _ _ _ _ _ h2, h3⟩
  | scr ns => rw [Dr] at h; obtain ⟨a, h1, h2⟩ := h; exact ⟨a, h1, (imm_sub _ _ _).sqL h2⟩
  | dic n => rw [Dr] at h; obtain ⟨a, kvs, h1, h2, h3⟩ := h; exact ⟨a, kvs, h1, imm_sub _ _ _ _ _ h2, h3⟩
  | _ => exact h
theorem own_ob (hs : StR K P α s H) {k : Nat} {v : V} {o : Mini.Ob} (h : Dr K (imm H P α) α (.own k) v) (e : s[k]? = some o) : ∃ a, α[k]? = some a ∧ v = .ref a ∧ ObR K (imm H P α) o (H a) := by
  rw [Dr] at h
  obtain ⟨a, h1, h2⟩ := h
  exact ⟨a, h1, h2, hs.ob k o a e h1⟩
theorem rz_dr (hs : StR K P α s H) {d : Mini.D} {v : V} (h : Dr K (imm H P α) α d v) : DrH K H (imm H P α) α (Mini.rz s d) v := by
  cases d with
  | own k =>
    cases e : s[k]? with
    | none => simp only [Mini.rz, e]; exact h
    | some o =>
      cases o with
      | L ds =>
        simp only [Mini.rz, e]
        obtain ⟨a, _, rfl, h4⟩ := own_ob hs h e
        obtain ⟨xs, h2, h3⟩ := h4
        exact ⟨a, xs, rfl, h2, h3⟩
      | DI ks => simp only [Mini.rz, e]; exact h
      | DT ks => simp only [Mini.rz, e]; exact h
  | _ => exact dr_drH h
end

section
variable {X : Cx} {E : XC} {a b : Expr} {pos : Pos}
theorem pm_v {i : Nat} {x : Str} (h : PE X (.Name x pos) (tVar i)) : PE X (.Name x pos) (tM X.K E (Mini.mV i)) := h.to fun σ H Q ⟨P, α, e, s, hS, q⟩ => by
  unfold Mini.mV at q
  split at q
  · rename_i d he
    obtain ⟨v, hv, hd⟩ := hS.env.2 i d he
    exact ⟨v, hv, q.here hS.st v hd⟩
  · exact q.elim
theorem pm_c {e : Expr} {d : Mini.D} {v : V} (h : PE X e (tC v)) (hd : ∀ G α, Dr X.K G α d v) : PE X e (tM X.K E (Mini.mC d)) := h.to fun σ H Q ⟨P, α, e, s, hS, q⟩ => q.here hS.st v (hd _ _)
theorem pm_int {i : Int} {j : Nat} : PE X (.Constant (.int i) j pos) (tM X.K E (Mini.mC (.int i))) := pm_c pe_int fun _ _ => by simp [Dr]
theorem pm_bl {i : Bool} {j : Nat} : PE X (.Constant (.bool i) j pos) (tM X.K E (Mini.mC (.bl i))) := pm_c pe_bl fun _ _ => by simp [Dr]
theorem pm_non {j : Nat} : PE X (.Constant .none j pos) (tM X.K E (Mini.mC .non)) := pm_c pe_non fun _ _ => by simp [Dr]
theorem pm_str {x : Str} {j : Nat} {z : List Nat} (hx : x = ⟨z.toArray⟩ := by decide +kernel) : PE X (.Constant (.str x) j pos) (tM X.K E (Mini.mC (.str z))) := pm_c pe_str fun _ _ => by simp [Dr, hx]
theorem pm_glob {x : Str} {z : List Nat} {t : Tok} (hg : Gl X x) (hm : X.mg x = some (.str ⟨z.toArray⟩ t)) (hd : (x == ("__debug__" : Str)) = false := by decide) : PE X (.Name x pos) (tM X.K E (Mini.mC (.str z))) :=
  pm_c (pe_glob (v := .str ⟨z.toArray⟩) hg hm ⟨_, rfl⟩ hd) fun _ _ => by simp [Dr]
theorem pm_globI {x : Str} {z : Int} {t : Tok} (hg : Gl X x) (hm : X.mg x = some (.int z t)) (hd : (x == ("__debug__" : Str)) = false := by decide) : PE X (.Name x pos) (tM X.K E (Mini.mC (.int z))) :=
  pm_c (pe_glob (v := .int z) hg hm ⟨_, rfl⟩ hd) fun _ _ => by simp [Dr]
/-- arguments -/
theorem am_nil : PA X [] (tA X.K E Mini.aNil) := pa_nil.to fun σ H Q ⟨P, α, e, s, hS, q⟩ => q.here hS.st [] (by simp [DrL])
theorem am_cons {e : Expr} {es : List Expr} {m : Mini.M} {ma : Mini.A} (h : PE X e (tM X.K E m)) (hr : PA X es (tA X.K E ma)) (hs : starEach (e :: es) X.env = (false, eval e X.env) :: starEach es X.env := by rfl) :
    PA X (e :: es) (tA X.K E (Mini.aCons m ma)) := (pa_cons h hr hs).to fun σ H Q ⟨P, α, e, s, hS, q⟩ =>
  ⟨P, α, e, s, hS, (Post.unbind q).imp fun d s1 α1 H1 g1 t1 q1 v hv => ⟨P, α1, e, s1, hS.gr g1 t1, (Post.unbind q1).imp fun ds s2 α2 H2 g2 t2 q2 vs hvs => q2.here t2 (v :: vs) (by rw [DrL]; exact ⟨g2.dr hv, hvs⟩)⟩⟩
theorem l100 {n : Nat} (h : n ≤ 100) : n ≤ sizeLine := Nat.le_trans h (by rw [sizeLine_eq]; decide)
theorem pm_tup {es : List Expr} {x1} {ma : Mini.A} (h : PA X es (tA X.K E ma)) : PE X (.Tuple es x1 pos) (tM X.K E (Mini.mTup ma)) := (pe_tup h).to fun σ H Q ⟨P, α, e, s, hS, q⟩ =>
  ⟨P, α, e, s, hS, (Post.unbind q).imp fun ds s1 α1 H1 g1 t1 q1 vs hvs => by
    obtain ⟨hc, q1⟩ := q1.unite
    refine ⟨l100 (by rw [← hvs.len]; exact hc), fun p hp => ?_⟩
    obtain ⟨g2, t2, hi⟩ := t1.new (o := .tup vs) hp
    refine q1 α1 _ g2 t2 _ ?_
    rw [Dr]
    exact ⟨p, vs, rfl, hi, g2.drL hvs⟩⟩
theorem pm_lst {es : List Expr} {ma : Mini.A} (h : PA X es (tA X.K E ma)) : PE X (.List es pos) (tM X.K E (Mini.mLst ma)) := (pe_lst h).to fun σ H Q ⟨P, α, e, s, hS, q⟩ =>
  ⟨P, α, e, s, hS, (Post.unbind q).imp fun ds s1 α1 H1 g1 t1 q1 vs hvs => by
    obtain ⟨⟨hc, hk⟩, q1⟩ := q1.unite
    refine ⟨l100 (by rw [← hvs.len]; exact hc), fun p hp => ?_⟩
    obtain ⟨g2, t2, hi⟩ := t1.new (o := .lst vs) hp
    refine q1 α1 _ g2 t2 _ ?_
    rw [Dr]
    exact ⟨p, vs, rfl, hi, DrL.mono g2.ext (fun _ _ q => q) (t1.chk hk hvs)⟩⟩

/-! ### two operands -/
/-- what follows a step that changes nothing owned -/
def Then (K : PySem.W.Frag) (P α : List Addr) (s : Mini.Sto) (H : Hp) (d : Mini.D) (Q : VK) : Prop := ∀ v H', Gr P α H α H' → StR K P α s H' → Dr K (imm H' P α) α d v → Q v H'
structure Sem2 (X : Cx) (f : Value → Value → Sem Value) (o : Mini.Op) (r : R2) : Prop where
  op : OpR X f r
  ok : ∀ {P α s H x y va vb d} {Q : VK}, StR X.K P α s H → Dr X.K (imm H P α) α x va → Dr X.K (imm H P α) α y vb → o s (Mini.rz s x) (Mini.rz s y) = some d → Then X.K P α s H d Q → r va vb H Q
theorem two {o : Mini.Op} {r : R2} {ma mb : Mini.M} {f : Value → Value → Sem Value} (S : Sem2 X f o r) : ∀ σ H Q, tM X.K E (Mini.mOp o ma mb) σ H Q → tOp r (tM X.K E ma) (tM X.K E mb) σ H Q :=
  fun σ H Q ⟨P, α, e, s, hS, q⟩ => ⟨P, α, e, s, hS, (Post.unbind q).imp fun d s1 α1 H1 g1 t1 q1 v hv => ⟨P, α1, e, s1, hS.gr g1 t1, (Post.unbind q1).imp fun d2 s2 α2 H2 g2 t2 q2 u hu => by
    obtain ⟨z, hz, q2⟩ := q2.unof
    exact S.ok t2 (g2.dr hv) hu hz fun w H3 g3 t3 hw => q2 α2 H3 g3 t3 w hw⟩⟩
theorem pm_op {op : Operator} {o : Mini.Op} {r : R2} {ma mb : Mini.M} (S : Sem2 X (binaryOp op) o r) (ha : PE X a (tM X.K E ma)) (hb : PE X b (tM X.K E mb)) : PE X (.BinOp a op b pos) (tM X.K E (Mini.mOp o ma mb)) := (pe_op S.op ha hb).to (two S)
theorem pm_cmp {op : CmpOp} {o : Mini.Op} {r : R2} {ma mb : Mini.M} (S : Sem2 X (compareOp op) o r) (ha : PE X a (tM X.K E ma)) (hb : PE X b (tM X.K E mb)) (hm : behindInMarks op b = false) : PE X (.Compare a [op] [b] pos) (tM X.K E (Mini.mOp o ma mb)) := (pe_cmpR S.op ha hb hm).to (two S)
theorem test_of {m : Mini.M} {t : TE} (h : ∀ σ H Q, tM X.K E m σ H Q → t σ H Q) : ∀ σ H Q, tT X.K E (Mini.tV m) σ H Q → tTest t σ H Q := fun σ H Q ⟨P, α, e, s, hS, q⟩ =>
  h σ H _ ⟨P, α, e, s, hS, (Post.unbind q).imp fun d s1 α1 H1 g1 t1 q1 v hv => by
    obtain ⟨z, hz, q1⟩ := q1.unof
    cases d <;> simp [Mini.isBl] at hz
    subst hz
    rw [Dr] at hv
    exact ⟨_, hv, q1.here t1⟩⟩
theorem tm_cmp {op : CmpOp} {o : Mini.Op} {r : R2} {ma mb : Mini.M} (S : Sem2 X (compareOp op) o r) (ha : PE X a (tM X.K E ma)) (hb : PE X b (tM X.K E mb)) (hm : behindInMarks op b = false) : PT X (.Compare a [op] [b] pos) (tT X.K E (Mini.tV (Mini.mOp o ma mb))) := (pt_cmpR S.op ha hb hm).to (test_of (two S))
theorem tm_val {e : Expr} {m : Mini.M} (h : PE X e (tM X.K E m)) (he : ∀ whole, isTrue e X.env whole = (do let v ← whole; standAt e.pos; holding [v] (truthy v)) := by intro _; rfl) : PT X e (tT X.K E (Mini.tV m)) :=
  (pt_val h he).to (test_of fun _ _ _ q => q)
theorem chain_of {o o' : Mini.Op} {r r' : R2} {ma mb mc : Mini.M} {f g : Value → Value → Sem Value} (S : Sem2 X f o r) (S' : Sem2 X g o' r') : ∀ σ H Q, tM X.K E (Mini.mChain o o' ma mb mc) σ H Q → tChain r r' (tM X.K E ma) (tM X.K E mb) (tM X.K E mc) σ H Q :=
  fun σ H Q ⟨P, α, e, s, hS, q⟩ => ⟨P, α, e, s, hS, (Post.unbind q).imp fun d s1 α1 H1 g1 t1 q1 v hv => ⟨P, α1, e, s1, hS.gr g1 t1, (Post.unbind q1).imp fun d2 s2 α2 H2 g2 t2 q2 u hu => by
    obtain ⟨z, hz, q2⟩ := q2.unof
    obtain ⟨y, hy, hz⟩ := Option.bind_eq_some_iff.mp hz
    cases y <;> simp [Mini.isBl] at hz
    subst hz
    refine S.ok t2 (g2.dr hv) hu hy fun w H3 g3 t3 hw => ?_
    rw [Dr] at hw
    refine ⟨_, hw, ?_⟩
    split
    · rename_i hk
      simp only [hk, if_true] at q2
      exact ⟨P, α2, e, s2, hS.gr (g1.trans (g2.trans g3)) t3, (Post.unbind (Post.later q2 g3)).imp fun d4 s4 α4 H4 g4 t4 q4 w4 hw4 => by
        obtain ⟨z4, hz4, q4⟩ := q4.unof
        exact S'.ok t4 (g4.dr (g3.dr hu)) hw4 hz4 fun w5 H5 g5 t5 hw5 => q4 α4 H5 g5 t5 w5 hw5⟩
    · rename_i hk
      rw [Bool.not_eq_true] at hk
      subst hk
      exact q2 α2 H3 g3 t3 (.bl false) (by simp [Dr])⟩⟩
theorem pm_chain {c : Expr} {op op' : CmpOp} {o o' : Mini.Op} {r r' : R2} {ma mb mc : Mini.M} (S : Sem2 X (compareOp op) o r) (S' : Sem2 X (compareOp op') o' r') (ha : PE X a (tM X.K E ma)) (hb : PE X b (tM X.K E mb)) (hc : PE X c (tM X.K E mc)) (hm : lastMarks [op, op'] [b, c] = false := by rfl) :
    PE X (.Compare a [op, op'] [b, c] pos) (tM X.K E (Mini.mChain o o' ma mb mc)) := (pe_chain S.op S'.op ha hb hc hm).to (chain_of S S')
theorem tm_chain {c : Expr} {op op' : CmpOp} {o o' : Mini.Op} {r r' : R2} {ma mb mc : Mini.M} (S : Sem2 X (compareOp op) o r) (S' : Sem2 X (compareOp op') o' r') (ha : PE X a (tM X.K E ma)) (hb : PE X b (tM X.K E mb)) (hc : PE X c (tM X.K E mc)) (hm : lastMarks [op, op'] [b, c] = false := by rfl) :
    PT X (.Compare a [op, op'] [b, c] pos) (tT X.K E (Mini.tV (Mini.mChain o o' ma mb mc))) := (pt_chain S.op S'.op ha hb hc hm).to (test_of (chain_of S S'))

/-! ### and, or, not, if -/
theorem pm_and {rest : List Expr} {ma mb : Mini.M} (ha : PE X a (tM X.K E ma)) (hb : PE X (.BoolOp .And (b :: rest) pos) (tM X.K E mb)) : PE X (.BoolOp .And (a :: b :: rest) pos) (tM X.K E (Mini.mAnd ma mb)) :=
  (pe_and ha hb).to fun σ H Q ⟨P, α, e, s, hS, q⟩ => ⟨P, α, e, s, hS, (Post.unbind q).imp fun d s1 α1 H1 g1 t1 q1 v hv => by
    obtain ⟨z, hz, q1⟩ := q1.unof
    cases d <;> simp [Mini.isBl] at hz
    subst hz
    rw [Dr] at hv
    refine ⟨_, hv, ?_⟩
    split
    · rename_i hk
      simp only [hk, if_true] at q1
      exact ⟨P, α1, e, s1, hS.gr g1 t1, q1⟩
    · rename_i hk
      simp only [hk, if_false] at q1
      exact q1.here t1 _ (by simp [Dr])⟩
theorem pm_or {rest : List Expr} {ma mb : Mini.M} (ha : PE X a (tM X.K E ma)) (hb : PE X (.BoolOp .Or (b :: rest) pos) (tM X.K E mb)) : PE X (.BoolOp .Or (a :: b :: rest) pos) (tM X.K E (Mini.mOr ma mb)) :=
  (pe_or ha hb).to fun σ H Q ⟨P, α, e, s, hS, q⟩ => ⟨P, α, e, s, hS, (Post.unbind q).imp fun d s1 α1 H1 g1 t1 q1 v hv => by
    obtain ⟨z, hz, q1⟩ := q1.unof
    cases d <;> simp [Mini.isBl] at hz
    subst hz
    rw [Dr] at hv
    refine ⟨_, hv, ?_⟩
    split
    · rename_i hk
      simp only [hk, if_true] at q1
      exact q1.here t1 _ (by simp [Dr])
    · rename_i hk
      simp only [hk, if_false] at q1
      exact ⟨P, α1, e, s1, hS.gr g1 t1, q1⟩⟩
theorem pm_one {op : BoolOp} {ma : Mini.M} (ha : PE X a (tM X.K E ma)) : PE X (.BoolOp op [a] pos) (tM X.K E ma) := pe_one ha
theorem pm_not {ma : Mini.M} (ha : PE X a (tM X.K E ma)) : PE X (.UnaryOp .Not a pos) (tM X.K E (Mini.mNot ma)) :=
  (pe_not ha).to fun σ H Q ⟨P, α, e, s, hS, q⟩ => ⟨P, α, e, s, hS, (Post.unbind q).imp fun d s1 α1 H1 g1 t1 q1 v hv => by
    obtain ⟨z, hz, q1⟩ := q1.unof
    cases d <;> simp [Mini.isBl] at hz
    subst hz
    rw [Dr] at hv
    exact ⟨_, hv, q1.here t1 _ (by simp [Dr])⟩⟩
theorem wm_and1 {t : Mini.T} (ha : PT X a (tT X.K E t)) : PW X (.BoolOp .And [a] pos) (tT X.K E t) := pw_and1 ha
theorem wm_or1 {t : Mini.T} (ha : PT X a (tT X.K E t)) : PW X (.BoolOp .Or [a] pos) (tT X.K E t) := pw_or1 ha
theorem wm_and {rest : List Expr} {t u : Mini.T} (ha : PT X a (tT X.K E t)) (hb : PW X (.BoolOp .And (b :: rest) pos) (tT X.K E u)) : PW X (.BoolOp .And (a :: b :: rest) pos) (tT X.K E (Mini.tAnd t u)) :=
  (pw_and ha hb).to fun σ H Q ⟨P, α, e, s, hS, q⟩ => ⟨P, α, e, s, hS, (Post.unbind q).imp fun d s1 α1 H1 g1 t1 q1 => by
    dsimp only at q1 ⊢
    split
    · rename_i hk
      simp only [hk, if_true] at q1
      exact ⟨P, α1, e, s1, hS.gr g1 t1, q1⟩
    · rename_i hk
      simp only [hk, if_false] at q1
      exact q1.here t1⟩
theorem wm_or {rest : List Expr} {t u : Mini.T} (ha : PT X a (tT X.K E t)) (hb : PW X (.BoolOp .Or (b :: rest) pos) (tT X.K E u)) : PW X (.BoolOp .Or (a :: b :: rest) pos) (tT X.K E (Mini.tOr t u)) :=
  (pw_or ha hb).to fun σ H Q ⟨P, α, e, s, hS, q⟩ => ⟨P, α, e, s, hS, (Post.unbind q).imp fun d s1 α1 H1 g1 t1 q1 => by
    dsimp only at q1 ⊢
    split
    · rename_i hk
      simp only [hk, if_true] at q1
      exact q1.here t1
    · rename_i hk
      simp only [hk, if_false] at q1
      exact ⟨P, α1, e, s1, hS.gr g1 t1, q1⟩⟩
theorem tm_not {t : Mini.T} (ha : PT X a (tT X.K E t)) : PT X (.UnaryOp .Not a pos) (tT X.K E (Mini.tNot t)) :=
  (pt_not ha).to fun σ H Q ⟨P, α, e, s, hS, q⟩ => ⟨P, α, e, s, hS, (Post.unbind q).imp fun d s1 α1 H1 g1 t1 q1 => q1.here t1⟩
theorem tm_truth {e : Expr} {m : Mini.M} (h : PE X e (tM X.K E m)) (he : ∀ whole, isTrue e X.env whole = (do let v ← whole; standAt e.pos; holding [v] (truthy v)) := by intro _; rfl) : PT X e (tT X.K E (Mini.tT m)) :=
  (pt_truth h he).to fun σ H Q ⟨P, α, e, s, hS, q⟩ => ⟨P, α, e, s, hS, (Post.unbind q).imp fun d s1 α1 H1 g1 t1 q1 v hv => by
    obtain ⟨z, hz, q1⟩ := q1.unof
    refine ⟨z, ?_, q1.here t1⟩
    have hd := rz_dr t1 hv
    generalize Mini.rz s1 d = d' at hz hd
    cases d' with
    | non => simp [Mini.tru] at hz; subst hz; simp [DrH, Dr] at hd; subst hd; rfl
    | bl b => simp [Mini.tru] at hz; subst hz; simp [DrH, Dr] at hd; subst hd; rfl
    | int b => simp [Mini.tru] at hz; subst hz; simp [DrH, Dr] at hd; subst hd; rfl
    | str w =>
      simp [DrH, Dr] at hd; subst hd
      simp only [Mini.tru] at hz
      split at hz
      · rename_i hl
        cases hz
        refine ⟨?_, ?_⟩
        · rw [sizeLine_eq]; exact hl
        · show (!w.isEmpty) = (((⟨w.toArray⟩ : Str).length : Int) != 0)
          cases w with
          | nil => rfl
          | cons c w =>
            show true = (((c :: w).toArray.size : Int) != 0)
            simp
            omega
      · cases hz
    | lst ds =>
      obtain ⟨p, xs, rfl, h1, h2⟩ := hd
      have hz' : some (!ds.isEmpty) = some z := hz
      cases hz'
      refine .inl ⟨xs, .of h1, ?_⟩
      have := h2.len
      cases ds <;> cases xs <;> simp_all
    | tup ds =>
      obtain ⟨p, xs, rfl, h1, h2⟩ := hd
      have hz' : some (!ds.isEmpty) = some z := hz
      cases hz'
      refine .inr (.inl ⟨xs, .of h1, ?_⟩)
      have := h2.len
      cases ds <;> cases xs <;> simp_all
    | scr => simp [Mini.tru] at hz
    | own => simp [Mini.tru] at hz
    | dic => simp [Mini.tru] at hz⟩
theorem pm_if {c : Expr} {t : Mini.T} {ma mb : Mini.M} (hc : PT X c (tT X.K E t)) (ha : PE X a (tM X.K E ma)) (hb : PE X b (tM X.K E mb)) : PE X (.IfExp c a b pos) (tM X.K E (Mini.mIf t ma mb)) :=
  (pe_ifExp hc ha hb).to fun σ H Q ⟨P, α, e, s, hS, q⟩ => ⟨P, α, e, s, hS, (Post.unbind q).imp fun d s1 α1 H1 g1 t1 q1 => by
    dsimp only at q1 ⊢
    split
    · rename_i hk
      simp only [hk, if_true] at q1
      exact ⟨P, α1, e, s1, hS.gr g1 t1, q1⟩
    · rename_i hk
      simp only [hk, if_false] at q1
      exact ⟨P, α1, e, s1, hS.gr g1 t1, q1⟩⟩
theorem pm_neg {ma : Mini.M} (ha : PE X a (tM X.K E ma)) : PE X (.UnaryOp .USub a pos) (tM X.K E (Mini.mNeg ma)) :=
  (pe_un un_neg ha).to fun σ H Q ⟨P, α, e, s, hS, q⟩ => ⟨P, α, e, s, hS, (Post.unbind q).imp fun d s1 α1 H1 g1 t1 q1 v hv => by
    cases d <;> simp only at q1 <;> first | exact q1.elim | skip
    rw [Dr] at hv
    exact ⟨_, hv, q1.here t1 _ (by simp [Dr])⟩⟩
end
end Snd
end
section
namespace Snd
open PySem L2

theorem sl {n : Nat} (h : n ≤ 16777216) : n ≤ sizeLine := by rw [sizeLine_eq]; exact h
theorem slt {n : Nat} (h : n < 16777216) : n < sizeLine := by rw [sizeLine_eq]; exact h
section
variable {K : PySem.W.Frag} {P α : List Addr} {s : Mini.Sto} {H : Hp}
theorem new_lst (hs : StR K P α s H) {p : Addr} {ds : List Mini.D} {xs : List V} {Q : VK} (hp : H p = none) (hd : DrL K (imm H P α) [] ds xs) (k : Then K P α s H (.lst ds) Q) : Q (.ref p) (upd H p (.lst xs)) := by
  obtain ⟨g2, t2, hi⟩ := hs.new (o := .lst xs) hp
  refine k _ _ g2 t2 ?_
  rw [Dr]
  exact ⟨p, xs, rfl, hi, DrL.mono g2.ext (fun _ _ q => q) hd⟩
theorem new_tup (hs : StR K P α s H) {p : Addr} {ds : List Mini.D} {xs : List V} {Q : VK} (hp : H p = none) (hd : DrL K (imm H P α) α ds xs) (k : Then K P α s H (.tup ds) Q) : Q (.ref p) (upd H p (.tup xs)) := by
  obtain ⟨g2, t2, hi⟩ := hs.new (o := .tup xs) hp
  refine k _ _ g2 t2 ?_
  rw [Dr]
  exact ⟨p, xs, rfl, hi, g2.drL hd⟩
theorem now {d : Mini.D} {v : V} {Q : VK} (k : Then K P α s H d Q) (hs : StR K P α s H) (h : Dr K (imm H P α) α d v) : Q v H := k v H (Gr.refl _ _ _) hs h
/-- a value seen in the whole heap: not a list of one's own, so seen where it stands -/
theorem DrH.dr {d : Mini.D} {v : V} (h : DrH K H (imm H P α) α d v) (f : Mini.flat d = true) : Dr K (imm H P α) α d v := by
  cases d <;> simp [Mini.flat] at f <;> exact h
end

def orR (r r' : R2) : R2 := fun x y H Q => r x y H Q ∨ r' x y H Q
section
variable {X : Cx}
def rStr : R2 := fun x y H Q => ∃ i j, x = .str i ∧ y = .str j ∧ i.length + j.length ≤ sizeLine ∧ Q (.str (i ++ j)) H
theorem sem_add : Sem2 X (binaryOp .Add) Mini.opAdd (orR (rI0 fun i j => .int (i + j)) (orR rStr rCat)) := by
  refine ⟨op_add.or (op_add_str.or op_cat), ?_⟩
  intro P α s H x y va vb d Q hs hx hy e k
  replace hx := rz_dr hs hx
  replace hy := rz_dr hs hy
  generalize Mini.rz s x = x' at *
  generalize Mini.rz s y = y' at *
  cases x' <;> cases y' <;> simp [Mini.opAdd] at e
  · subst e
    simp [DrH, Dr] at hx hy
    subst hx; subst hy
    exact .inl ⟨_, _, rfl, rfl, now k hs (by simp [Dr])⟩
  · obtain ⟨hl, e⟩ := e
    subst e
    simp [DrH, Dr] at hx hy
    subst hx; subst hy
    refine .inr (.inl ⟨_, _, rfl, rfl, sl hl, now k hs ?_⟩)
    rw [Dr]
    show V.str ⟨_ ++ _⟩ = _
    simp
  · obtain ⟨hl, e⟩ := e
    subst e
    obtain ⟨a, xs, rfl, h1, h2⟩ := hx
    obtain ⟨b, ys, rfl, h3, h4⟩ := hy
    exact .inr (.inr ⟨a, b, xs, ys, rfl, rfl, h1, h3, sl (by rw [← h2.len, ← h4.len]; exact hl), fun p hp => new_lst hs hp (h2.append h4) k⟩)
theorem sem_sub : Sem2 X (binaryOp .Sub) Mini.opSub (rI0 fun i j => .int (i - j)) := by
  refine ⟨op_sub, ?_⟩
  intro P α s H x y va vb d Q hs hx hy e k
  replace hx := rz_dr hs hx
  replace hy := rz_dr hs hy
  generalize Mini.rz s x = x' at *
  generalize Mini.rz s y = y' at *
  cases x' <;> cases y' <;> simp [Mini.opSub] at e
  subst e
  simp [DrH, Dr] at hx hy
  subst hx; subst hy
  exact ⟨_, _, rfl, rfl, now k hs (by simp [Dr])⟩
theorem sem_div : Sem2 X (binaryOp .FloorDiv) Mini.opDiv (rI CDiv fun i j => .int (i / j)) := by
  refine ⟨op_fdiv, ?_⟩
  intro P α s H x y va vb d Q hs hx hy e k
  replace hx := rz_dr hs hx
  replace hy := rz_dr hs hy
  generalize Mini.rz s x = x' at *
  generalize Mini.rz s y = y' at *
  cases x' <;> cases y' <;> simp [Mini.opDiv] at e
  obtain ⟨hc, e⟩ := e
  subst e
  simp [DrH, Dr] at hx hy
  subst hx; subst hy
  exact ⟨_, _, rfl, rfl, hc, now k hs (by simp [Dr])⟩
theorem sem_mod : Sem2 X (binaryOp .Mod) Mini.opMod (rI (fun _ j => 0 < j) fun i j => .int (i % j)) := by
  refine ⟨op_mod, ?_⟩
  intro P α s H x y va vb d Q hs hx hy e k
  replace hx := rz_dr hs hx
  replace hy := rz_dr hs hy
  generalize Mini.rz s x = x' at *
  generalize Mini.rz s y = y' at *
  cases x' <;> cases y' <;> simp [Mini.opMod] at e
  obtain ⟨hc, e⟩ := e
  subst e
  simp [DrH, Dr] at hx hy
  subst hx; subst hy
  exact ⟨_, _, rfl, rfl, hc, now k hs (by simp [Dr])⟩
def rMulS : R2 := fun x y H Q => ∃ z k, x = .str z ∧ y = .int k ∧ 0 ≤ k ∧ k ≤ 1000 ∧ z.length ≤ 1000 ∧ Q (.str ⟨((List.replicate k.toNat z.cps.toList).flatten).toArray⟩) H
theorem foldl_app (xs : List (Array Nat)) (acc : Array Nat) : (xs.foldl (· ++ ·) acc).toList = acc.toList ++ (xs.map (·.toList)).flatten := by
  induction xs generalizing acc with
  | nil => simp
  | cons x xs ih => simp [ih]
theorem op_mul_str : OpR X (binaryOp .Mult) rMulS := by
  intro pins s σ H x y v u Q I rx ry h
  obtain ⟨z, k, rfl, rfl, h0, h1, h2, q⟩ := h
  obtain ⟨t, rfl⟩ := rx
  obtain ⟨t', rfl⟩ := ry
  refine PySem.P.mul_str ?_ ?_ ?_ ?_
  · simp
    omega
  · intro hk _
    have hz : (z.length : Int) ≤ 1000 := by omega
    have : (1000 : Int) ≤ (2 ^ 63 - 1) / k := by
      rw [Int.le_ediv_iff_mul_le (by omega)]
      omega
    omega
  · intro hk _
    have : z.length * k.toNat ≤ 1000 * 1000 := Nat.mul_le_mul h2 (by omega)
    show decide (z.length * k.toNat > sizeLine) = false
    rw [sizeLine_eq]
    simp
    omega
  · split
    · rename_i hk
      have : k = 0 := by omega
      subst this
      exact ⟨by decide, ⟨.str Str.empty, H, I.tok _, ⟨_, rfl⟩, by simpa [Str.empty] using q⟩⟩
    · rename_i hk
      have e : (⟨((List.replicate k.toNat z.cps.toList).flatten).toArray⟩ : Str) = ⟨(List.replicate k.toNat z.cps).foldl (· ++ ·) #[]⟩ := by
        congr 1
        apply Array.toList_inj.mp
        rw [foldl_app]
        simp
      split
      · rename_i hc
        have e2 : (⟨((List.replicate k.toNat z.cps.toList).flatten).toArray⟩ : Str) = z := by
          rw [Bool.or_eq_true] at hc
          rcases hc with hc | hc
          · have : k = 1 := by simpa using hc
            subst this
            cases z; simp
          · have hz : z.cps = #[] := by
              have : z.length = 0 := by simpa using hc
              exact Array.eq_empty_of_size_eq_zero this
            cases z; simp at hz; subst hz; simp
        rw [e2] at q
        exact ⟨.str z, H, I, ⟨t, rfl⟩, q⟩
      · rw [e] at q
        refine ⟨?_, ⟨.str _, H, I.tok _, ⟨_, rfl⟩, q⟩⟩
        have hl : ((⟨(List.replicate k.toNat z.cps).foldl (· ++ ·) #[]⟩ : Str)).length ≤ 1000 * 1000 := by
          rw [← e]
          show (((List.replicate k.toNat z.cps.toList).flatten).toArray).size ≤ _
          simp
          exact Nat.mul_le_mul (show k.toNat ≤ 1000 by omega) h2
        exact Nat.le_trans hl (by rw [sizeLine_eq]; decide)
theorem sem_mul : Sem2 X (binaryOp .Mult) Mini.opMul (orR (rI CMul fun i j => .int (i * j)) (orR rMulS rRep)) := by
  refine ⟨op_mul.or (op_mul_str.or op_rep), ?_⟩
  intro P α s H x y va vb d Q hs hx hy e k
  replace hx := rz_dr hs hx
  replace hy := rz_dr hs hy
  generalize Mini.rz s x = x' at *
  generalize Mini.rz s y = y' at *
  cases x' <;> cases y' <;> simp [Mini.opMul] at e
  · obtain ⟨hc, e⟩ := e
    subst e
    simp [DrH, Dr] at hx hy
    subst hx; subst hy
    exact .inl ⟨_, _, rfl, rfl, hc, now k hs (by simp [Dr])⟩
  · obtain ⟨⟨hc1, hc2, hc3⟩, e⟩ := e
    subst e
    simp [DrH, Dr] at hx hy
    subst hx; subst hy
    exact .inr (.inl ⟨_, _, rfl, rfl, hc1, hc2, hc3, now k hs (by simp [Dr])⟩)
  · obtain ⟨⟨hc1, hc2, hc3⟩, e⟩ := e
    subst e
    obtain ⟨a, xs, rfl, h1, h2⟩ := hx
    simp [DrH, Dr] at hy
    subst hy
    exact .inr (.inr ⟨a, _, xs, rfl, rfl, h1, by omega, hc2, sl (by rw [← h2.len]; exact hc3), fun p hp => new_lst hs hp (h2.rep _) k⟩)
theorem sem_cmI {f : Value → Value → Sem Value} {p : Int → Int → Bool} (h : OpR X f (rI0 fun i j => .bl (p i j))) : Sem2 X f (Mini.cmI p) (rI0 fun i j => .bl (p i j)) := by
  refine ⟨h, ?_⟩
  intro P α s H x y va vb d Q hs hx hy e k
  replace hx := rz_dr hs hx
  replace hy := rz_dr hs hy
  generalize Mini.rz s x = x' at *
  generalize Mini.rz s y = y' at *
  cases x' <;> cases y' <;> simp [Mini.cmI] at e
  subst e
  simp [DrH, Dr] at hx hy
  subst hx; subst hy
  exact ⟨_, _, rfl, rfl, now k hs (by simp [Dr])⟩
theorem sem_lt : Sem2 X (compareOp .Lt) Mini.opLt (rI0 fun i j => .bl (decide (i < j))) := sem_cmI op_lt
theorem sem_le : Sem2 X (compareOp .LtE) Mini.opLe (rI0 fun i j => .bl (decide (i ≤ j))) := sem_cmI op_le
theorem sem_gt : Sem2 X (compareOp .Gt) Mini.opGt (rI0 fun i j => .bl (decide (j < i))) := sem_cmI op_gt
theorem sem_ge : Sem2 X (compareOp .GtE) Mini.opGe (rI0 fun i j => .bl (decide (j ≤ i))) := sem_cmI op_ge

/-! ### == -/
mutual
def toPy : Mini.D → PyData
  | .non => .none
  | .bl b => .bool b
  | .int i => .int i
  | .str s => .str ⟨s.toArray⟩
  | .tup ds => .tuple (toPyL ds)
  | .lst ds => .list (toPyL ds)
  | _ => .none
def toPyL : List Mini.D → List PyData
  | [] => []
  | d :: ds => toPy d :: toPyL ds
end
mutual
theorem toPy_lay : ∀ (d : Mini.D), Mini.plain d = true → (toPy d).canLay0 = true
  | .non, _ => by simp [toPy, PyData.canLay0]
  | .bl _, _ => by simp [toPy, PyData.canLay0]
  | .int _, _ => by simp [toPy, PyData.canLay0]
  | .str z, h => by
    simp only [toPy, PyData.canLay0, PyData.strOk]
    simp [Mini.plain] at h
    simpa using h
  | .tup ds, h => by
    simp only [toPy, PyData.canLay0]
    exact toPy_layL ds (by simpa [Mini.plain] using h)
  | .lst ds, h => by
    simp only [toPy, PyData.canLay0]
    exact toPy_layL ds (by simpa [Mini.plain] using h)
  | .scr _, h => by simp [Mini.plain] at h
  | .own _, h => by simp [Mini.plain] at h
  | .dic _, h => by simp [Mini.plain] at h
theorem toPy_layL : ∀ (d : List Mini.D), Mini.plainL d = true → PyData.canLayAll0 (toPyL d) = true
  | [], _ => by simp [toPyL, PyData.canLayAll0]
  | d :: ds, h => by
    simp only [toPyL, PyData.canLayAll0]
    have h' : Mini.plain d = true ∧ Mini.plainL ds = true := by simpa [Mini.plainL] using h
    rw [toPy_lay d h'.1, toPy_layL ds h'.2]
    rfl
end
mutual
theorem toPy_dep : ∀ (d : Mini.D), (toPy d).depth ≤ Mini.dep d
  | .non => by simp [toPy, PyData.depth]
  | .bl _ => by simp [toPy, PyData.depth]
  | .int _ => by simp [toPy, PyData.depth]
  | .str z => by simp [toPy, PyData.depth]
  | .tup ds => by
    simp only [toPy, PyData.depth, Mini.dep]
    exact Nat.succ_le_succ (toPy_depL ds)
  | .lst ds => by
    simp only [toPy, PyData.depth, Mini.dep]
    exact Nat.succ_le_succ (toPy_depL ds)
  | .scr _ => by simp [toPy, PyData.depth]
  | .own _ => by simp [toPy, PyData.depth]
  | .dic _ => by simp [toPy, PyData.depth]
theorem toPy_depL : ∀ (d : List Mini.D), PyData.depthAll (toPyL d) ≤ Mini.depL d
  | [] => by simp [toPyL, PyData.depthAll]
  | d :: ds => by
    simp only [toPyL, PyData.depthAll, Mini.depL]
    have h1 := toPy_dep d
    have h2 := toPy_depL ds
    omega
end
theorem str_beq (a b : List Nat) : ((⟨a.toArray⟩ : Str) == ⟨b.toArray⟩) = (a == b) := by
  rw [Bool.eq_iff_iff]
  simp
mutual
theorem toPy_eqv : ∀ (d e : Mini.D), Mini.plain d = true → Mini.plain e = true → PyData.eqv (toPy d) (toPy e) = Mini.deq d e
  | d, e, hd, he => by
    cases d <;> simp [Mini.plain] at hd <;> cases e <;> simp [Mini.plain] at he <;> simp only [toPy, PyData.eqv, Mini.deq]
    · exact str_beq _ _
    · exact toPy_eqvL _ _ (by simpa using hd) (by simpa using he)
    · exact toPy_eqvL _ _ (by simpa using hd) (by simpa using he)
theorem toPy_eqvL : ∀ (d e : List Mini.D), Mini.plainL d = true → Mini.plainL e = true → PyData.eqvAll (toPyL d) (toPyL e) = Mini.deqL d e
  | [], [], _, _ => by simp [toPyL, PyData.eqvAll, Mini.deqL]
  | [], _ :: _, _, _ => by simp [toPyL, PyData.eqvAll, Mini.deqL]
  | _ :: _, [], _, _ => by simp [toPyL, PyData.eqvAll, Mini.deqL]
  | d :: ds, e :: es, hd, he => by
    have h1 : Mini.plain d = true ∧ Mini.plainL ds = true := by simpa [Mini.plainL] using hd
    have h2 : Mini.plain e = true ∧ Mini.plainL es = true := by simpa [Mini.plainL] using he
    simp only [toPyL, PyData.eqvAll, Mini.deqL]
    rw [toPy_eqv d e h1.1 h2.1, toPy_eqvL ds es h1.2 h2.2]
end
mutual
theorem dr_dp {K : PySem.W.Frag} {G H : Hp} {α : List Addr} (x : Ext G H) : ∀ (d : Mini.D) (v : V), Mini.plain d = true → Dr K G α d v → Dp K H v (toPy d)
  | .non, v, _, h => by simp [Dr] at h; subst h; exact .non
  | .bl _, v, _, h => by simp [Dr] at h; subst h; exact .bl _
  | .int _, v, _, h => by simp [Dr] at h; subst h; exact .int _
  | .str _, v, _, h => by simp [Dr] at h; subst h; exact .str _
  | .tup ds, v, p, h => by
    rw [Dr] at h
    obtain ⟨a, xs, rfl, h1, h2⟩ := h
    exact .tup (.of (x _ _ h1)) (dr_dpL x ds xs (by simpa [Mini.plain] using p) h2)
  | .lst ds, v, p, h => by
    rw [Dr] at h
    obtain ⟨a, xs, rfl, h1, h2⟩ := h
    exact .lst (.of (x _ _ h1)) (dr_dpL x ds xs (by simpa [Mini.plain] using p) h2)
  | .scr _, _, h, _ => by simp [Mini.plain] at h
  | .own _, _, h, _ => by simp [Mini.plain] at h
  | .dic _, _, h, _ => by simp [Mini.plain] at h
theorem dr_dpL {K : PySem.W.Frag} {G H : Hp} {α : List Addr} (x : Ext G H) : ∀ (d : List Mini.D) (v : List V), Mini.plainL d = true → DrL K G α d v → DpAll K H v (toPyL d)
  | [], [], _, _ => .nil
  | [], _ :: _, _, h => by simp [DrL] at h
  | _ :: _, [], _, h => by simp [DrL] at h
  | d :: ds, v :: vs, p, h => by
    have h1 : Mini.plain d = true ∧ Mini.plainL ds = true := by simpa [Mini.plainL] using p
    rw [DrL] at h
    exact .cons (dr_dp x d v h1.1 h.1) (dr_dpL x ds vs h1.2 h.2)
end
theorem drH_dp {K : PySem.W.Frag} {H G : Hp} {α : List Addr} (x : Ext G H) {d : Mini.D} {v : V} (p : Mini.plain d = true) (h : DrH K H G α d v) : Dp K H v (toPy d) := by
  cases d with
  | tup ds =>
    obtain ⟨a, xs, rfl, h1, h2⟩ := h
    exact .tup (.of h1) (dr_dpL x ds xs (by simpa [Mini.plain] using p) h2)
  | lst ds =>
    obtain ⟨a, xs, rfl, h1, h2⟩ := h
    exact .lst (.of h1) (dr_dpL x ds xs (by simpa [Mini.plain] using p) h2)
  | scr _ => simp [Mini.plain] at p
  | dic _ => simp [Mini.plain] at p
  | _ => exact dr_dp (α := α) x _ _ p h
theorem eq_ok {K : PySem.W.Frag} {P α : List Addr} {s : Mini.Sto} {H : Hp} {x y : Mini.D} {va vb : V} {b : Bool} (hs : StR K P α s H) (hx : Dr K (imm H P α) α x va) (hy : Dr K (imm H P α) α y vb) (e : Mini.eqB (Mini.rz s x) (Mini.rz s y) = some b) :
    (scal va vb = true ∧ decide (va = vb) = b) ∨ ∃ d d', Dp K H va d ∧ Dp K H vb d' ∧ SeqAt.shaped d = true ∧ SeqAt.shaped d' = true ∧ PyData.eqv d d' = b := by
  replace hx := rz_dr hs hx
  replace hy := rz_dr hs hy
  generalize Mini.rz s x = x' at *
  generalize Mini.rz s y = y' at *
  unfold Mini.eqB at e
  split at e
  · simp [DrH, Dr] at hx hy
    subst hx; subst hy
    exact .inl ⟨rfl, by simpa using e⟩
  · simp [DrH, Dr] at hx hy
    subst hx; subst hy
    exact .inl ⟨rfl, by simpa using e⟩
  · simp [DrH, Dr] at hx hy
    subst hx; subst hy
    exact .inl ⟨rfl, by simpa using e⟩
  · split at e
    · rename_i hc
      obtain ⟨p1, p2, p3, p4⟩ := hc
      have sh : ∀ d : Mini.D, Mini.plain d = true → Mini.dep d ≤ 60 → SeqAt.shaped (toPy d) = true := fun d hp hd => by
        unfold SeqAt.shaped
        have := toPy_dep d
        rw [toPy_lay d hp, Bool.true_and]
        exact decide_eq_true (by omega)
      exact .inr ⟨_, _, drH_dp (imm_sub _ _ _) p1 hx, drH_dp (imm_sub _ _ _) p2 hy, sh _ p1 p3, sh _ p2 p4, by rw [toPy_eqv _ _ p1 p2]; simpa using e⟩
    · cases e
theorem sem_eq (hu : X.A.units + 64 < cLine) : Sem2 X (compareOp .Eq) Mini.opEq (orR rEq (rEqD X.K)) := by
  refine ⟨op_eq.or (op_eqD hu), ?_⟩
  intro P α s H x y va vb d Q hs hx hy e k
  unfold Mini.opEq at e
  obtain ⟨b, hb, rfl⟩ := Option.map_eq_some_iff.mp e
  rcases eq_ok hs hx hy hb with ⟨h1, h2⟩ | ⟨d, d', h1, h2, h3, h4, h5⟩
  · exact .inl ⟨h1, now k hs (by rw [h2]; simp [Dr])⟩
  · exact .inr ⟨d, d', h1, h2, h3, h4, now k hs (by rw [h5]; simp [Dr])⟩
theorem sem_ne (hu : X.A.units + 64 < cLine) : Sem2 X (compareOp .NotEq) Mini.opNe (orR rNe (rNeD X.K)) := by
  refine ⟨op_ne.or (op_neD hu), ?_⟩
  intro P α s H x y va vb d Q hs hx hy e k
  unfold Mini.opNe at e
  obtain ⟨b, hb, rfl⟩ := Option.map_eq_some_iff.mp e
  rcases eq_ok hs hx hy hb with ⟨h1, h2⟩ | ⟨d, d', h1, h2, h3, h4, h5⟩
  · exact .inl ⟨h1, now k hs (by rw [h2]; simp [Dr])⟩
  · exact .inr ⟨d, d', h1, h2, h3, h4, now k hs (by rw [h5]; simp [Dr])⟩
end
end Snd
end
section
namespace Snd
open PySem L2
section
variable {X : Cx}
/-! ### in -/
def rInS : R2 := fun x y H Q => ∃ (c : Nat) (z : Str), x = .str ⟨#[c]⟩ ∧ y = .str z ∧ Q (.bl (decide (c ∈ z.cps.toList))) H
def rNinS : R2 := fun x y H Q => ∃ (c : Nat) (z : Str), x = .str ⟨#[c]⟩ ∧ y = .str z ∧ Q (.bl (!decide (c ∈ z.cps.toList))) H
def rInD : R2 := fun y x H Q => ∃ a o, x = .ref a ∧ DGet H a y o ∧ Q (.bl o.isSome) H
def rNinD : R2 := fun y x H Q => ∃ a o, x = .ref a ∧ DGet H a y o ∧ Q (.bl (!o.isSome)) H
theorem op_inD (hu : X.A.units + 64 < cLine) : OpR X (compareOp .In) rInD := by
  intro pins s σ H y x v u Q I ry rx h
  obtain ⟨a, o, rfl, g, q⟩ := h
  obtain rfl : u = Value.ref a := rx
  exact d_in (by omega) I g ry fun s3 I3 => ⟨.bl o.isSome, H, I3, rfl, q⟩
theorem op_ninD (hu : X.A.units + 64 < cLine) : OpR X (compareOp .NotIn) rNinD := by
  intro pins s σ H y x v u Q I ry rx h
  obtain ⟨a, o, rfl, g, q⟩ := h
  obtain rfl : u = Value.ref a := rx
  exact d_notIn (by omega) I g ry fun s3 I3 => ⟨.bl (!o.isSome), H, I3, rfl, q⟩
theorem flat_v {K : PySem.W.Frag} {G : Hp} {α : List Addr} {d : Mini.D} {v : V} (h : Dr K G α d v) (f : Mini.flat d = true) : flatV v = true := by
  cases d <;> simp [Mini.flat] at f <;> simp [Dr] at h <;> subst h <;> rfl
theorem flat_eq {K : PySem.W.Frag} {G : Hp} {α β : List Addr} {d e : Mini.D} {v u : V} (h : Dr K G α d v) (h' : Dr K G β e u) (f : Mini.flat d = true) (f' : Mini.flat e = true) : eqV v u = Mini.deq d e := by
  cases d <;> simp [Mini.flat] at f <;> simp [Dr] at h <;> subst h <;> cases e <;> simp [Mini.flat] at f' <;> simp [Dr] at h' <;> subst h' <;> simp only [eqV, Mini.deq]
  exact str_beq _ _
theorem flat_all {K : PySem.W.Frag} {G : Hp} {α β : List Addr} : ∀ {ds : List Mini.D} {vs : List V} {e : Mini.D} {u : V}, DrL K G α ds vs → Dr K G β e u → ds.all Mini.flat = true → Mini.flat e = true → vs.all flatV = true ∧ inV u vs = Mini.inD e ds
  | [], [], _, _, _, _, _, _ => by simp [inV, Mini.inD]
  | [], _ :: _, _, _, h, _, _, _ => by simp [DrL] at h
  | _ :: _, [], _, _, h, _, _, _ => by simp [DrL] at h
  | d :: ds, v :: vs, e, u, h, h', f, f' => by
    rw [DrL] at h
    have f2 : Mini.flat d = true ∧ ds.all Mini.flat = true := by simpa using f
    obtain ⟨i1, i2⟩ := flat_all h.2 h' f2.2 f'
    refine ⟨by rw [List.all_cons, flat_v h.1 f2.1, i1]; rfl, ?_⟩
    unfold inV Mini.inD at i2 ⊢
    rw [List.any_cons, List.any_cons, i2, flat_eq h.1 h' f2.1 f']
theorem valDI (ks : List Int) (i : Int) : (valV (ks.map fun k => ((Sum.inl k : Key), V.bl true)) (Sum.inl i)).isSome = decide (i ∈ ks) := by
  rw [← valV_any]
  rw [Bool.eq_iff_iff]
  simp [List.any_eq_true]
theorem valDT (ks : List (List Int)) (i : List Int) : (valV (ks.map fun k => ((k.map Sum.inl : List Key), V.bl true)) (i.map Sum.inl)).isSome = decide (i ∈ ks) := by
  rw [← valV_any]
  rw [Bool.eq_iff_iff]
  have inj : ∀ a b : List Int, (a.map Sum.inl : List Key) = b.map Sum.inl ↔ a = b := fun a b => by
    constructor
    · intro h
      exact (List.map_inj_right fun _ _ e => Sum.inl.inj e).mp h
    · rintro rfl; rfl
  simp [List.any_eq_true, inj]
theorem kV_ints (js : List Int) : (js.map (Sum.inl : Int → Key)).map kV = js.map V.int := by
  induction js with
  | nil => rfl
  | cons j js ih => simp only [List.map_cons, ih]; rfl
theorem rz_flat {K : PySem.W.Frag} {H G : Hp} {α : List Addr} {d : Mini.D} {v : V} (h : DrH K H G α d v) (f : Mini.flat d = true) : Dr K G α d v := by
  cases d <;> simp [Mini.flat] at f <;> exact h
inductive InOk (K : PySem.W.Frag) (H : Hp) (va vb : V) (b : Bool) : Prop where
  | sg (c : Nat) (z : Str) (h1 : va = .str ⟨#[c]⟩) (h2 : vb = .str z) (h3 : decide (c ∈ z.cps.toList) = b)
  | sq (p : Addr) (xs : List V) (h1 : vb = .ref p) (h2 : SqL K H p xs ∨ SqT K H p xs) (h3 : flatV va = true) (h4 : xs.all flatV = true) (h5 : inV va xs = b)
  | di (a : Addr) (o : Option V) (h1 : vb = .ref a) (h2 : DGet H a va o) (h3 : o.isSome = b)
theorem in_ok {K : PySem.W.Frag} {P α : List Addr} {s : Mini.Sto} {H : Hp} {x y : Mini.D} {va vb : V} {b : Bool} (hs : StR K P α s H) (hx : Dr K (imm H P α) α x va) (hy : Dr K (imm H P α) α y vb) (e : Mini.opInB s (Mini.rz s x) (Mini.rz s y) = some b) :
    InOk K H va vb b := by
  have hy0 := hy
  have ey : ∀ k, Mini.rz s y = .own k → y = .own k := fun k q => by
    cases y with
    | own j =>
      simp only [Mini.rz] at q
      split at q
      · cases q
      · exact q
    | _ => simp [Mini.rz] at q
  replace hx := rz_dr hs hx
  replace hy := rz_dr hs hy
  generalize hrx : Mini.rz s x = x' at *
  generalize hry : Mini.rz s y = y' at *
  unfold Mini.opInB at e
  split at e
  · rename_i c z
    simp [DrH, Dr] at hx hy
    subst hx; subst hy
    exact .sg c _ rfl rfl (by simpa using e)
  · split at e
    · rename_i hc
      rw [Bool.and_eq_true] at hc
      obtain ⟨p, xs, rfl, h1, h2⟩ := hy
      obtain ⟨i1, i2⟩ := flat_all h2 (rz_flat hx hc.1) hc.2 hc.1
      exact .sq p xs rfl (.inl (.of h1)) (flat_v (rz_flat hx hc.1) hc.1) i1 (by rw [i2]; simpa using e)
    · cases e
  · split at e
    · rename_i hc
      rw [Bool.and_eq_true] at hc
      obtain ⟨p, xs, rfl, h1, h2⟩ := hy
      obtain ⟨i1, i2⟩ := flat_all h2 (rz_flat hx hc.1) hc.2 hc.1
      exact .sq p xs rfl (.inr (.of h1)) (flat_v (rz_flat hx hc.1) hc.1) i1 (by rw [i2]; simpa using e)
    · cases e
  · rename_i i k
    split at e
    · rename_i ks hk
      obtain ⟨a, h1, rfl, h2⟩ := own_ob hs (by rw [← ey k rfl]; exact hy0) hk
      simp [DrH, Dr] at hx
      subst hx
      rw [ObR] at h2
      exact .di a _ rfl (DGet.k (k := Sum.inl i) h2) (by rw [valDI]; simpa using e)
    · cases e
  · rename_i ds k
    split at e
    · rename_i ks js hk hj
      obtain ⟨a, h1, rfl, h2⟩ := own_ob hs (by rw [← ey k rfl]; exact hy0) hk
      obtain ⟨p, xs, rfl, h3, h4⟩ := hx
      have := h4.zints hj
      subst this
      rw [ObR] at h2
      exact .di a _ rfl (DGet.t (k := js.map Sum.inl) h2 (by rw [kV_ints]; exact h3)) (by rw [valDT]; simpa using e)
    · cases e
  · cases e
theorem sem_in (hu : X.A.units + 64 < cLine) : Sem2 X (compareOp .In) Mini.opIn (orR rInS (orR (rIn X.K false) rInD)) := by
  refine ⟨op_in_sign.or (op_in_seq.or (op_inD hu)), ?_⟩
  intro P α s H x y va vb d Q hs hx hy e k
  unfold Mini.opIn at e
  obtain ⟨b, hb, rfl⟩ := Option.map_eq_some_iff.mp e
  cases in_ok hs hx hy hb with
  | sg c z h1 h2 h3 => exact .inl ⟨c, z, h1, h2, now k hs (by rw [h3]; simp [Dr])⟩
  | sq p xs h1 h2 h3 h4 h5 => exact .inr (.inl ⟨p, xs, h1, h2, h3, h4, now k hs (by rw [h5]; simp [Dr])⟩)
  | di a o h1 h2 h3 => exact .inr (.inr ⟨a, o, h1, h2, now k hs (by rw [h3]; simp [Dr])⟩)
theorem sem_nin (hu : X.A.units + 64 < cLine) : Sem2 X (compareOp .NotIn) Mini.opNotIn (orR rNinS (orR (rIn X.K true) rNinD)) := by
  refine ⟨op_notIn_sign.or (op_notIn_seq.or (op_ninD hu)), ?_⟩
  intro P α s H x y va vb d Q hs hx hy e k
  unfold Mini.opNotIn at e
  obtain ⟨b, hb, rfl⟩ := Option.map_eq_some_iff.mp e
  cases in_ok hs hx hy hb with
  | sg c z h1 h2 h3 => exact .inl ⟨c, z, h1, h2, now k hs (by rw [h3]; simp [Dr])⟩
  | sq p xs h1 h2 h3 h4 h5 => exact .inr (.inl ⟨p, xs, h1, h2, h3, h4, now k hs (by simp [h5, Dr])⟩)
  | di a o h1 h2 h3 => exact .inr (.inr ⟨a, o, h1, h2, now k hs (by rw [h3]; simp [Dr])⟩)
/-! ### is -/
def rIsN : R2 := fun x y H Q => y = .non ∧ Q (.bl (decide (x = .non))) H
def rNotN : R2 := fun x y H Q => y = .non ∧ Q (.bl (!decide (x = .non))) H
theorem dr_non {K : PySem.W.Frag} {H G : Hp} {α : List Addr} {d : Mini.D} {v : V} (h : DrH K H G α d v) (n : d ≠ .non) : v ≠ .non := by
  cases d with
  | non => exact absurd rfl n
  | bl => simp [DrH, Dr] at h; subst h; simp
  | int => simp [DrH, Dr] at h; subst h; simp
  | str => simp [DrH, Dr] at h; subst h; simp
  | tup => obtain ⟨a, xs, rfl, _⟩ := h; simp
  | lst => obtain ⟨a, xs, rfl, _⟩ := h; simp
  | scr => obtain ⟨a, rfl, _⟩ := h; simp
  | dic => obtain ⟨a, xs, rfl, _⟩ := h; simp
  | own => simp [DrH, Dr] at h; obtain ⟨a, _, rfl⟩ := h; simp
theorem is_ok {K : PySem.W.Frag} {H G : Hp} {α : List Addr} {x y : Mini.D} {va vb : V} {b : Bool} (hx : DrH K H G α x va) (hy : DrH K H G α y vb) (e : Mini.opIsB x y = some b) :
    (vb = .non ∧ decide (va = .non) = b) ∨ ∃ c c', va = .bl c ∧ vb = .bl c' ∧ decide (c = c') = b := by
  unfold Mini.opIsB at e
  split at e
  · simp [DrH, Dr] at hx hy
    exact .inl ⟨hy, by rw [hx]; simpa using e⟩
  · rename_i n
    simp [DrH, Dr] at hy
    have := dr_non hx (fun z => n z)
    exact .inl ⟨hy, by rw [decide_eq_false this]; simpa using e⟩
  · simp [DrH, Dr] at hx hy
    exact .inr ⟨_, _, hx, hy, by rw [← Option.some.inj e]; exact (Bool.beq_eq_decide_eq _ _).symm⟩
  · cases e
theorem sem_is : Sem2 X (compareOp .Is) Mini.opIs (orR rIsN rIsB) := by
  refine ⟨op_isN.or op_isBl, ?_⟩
  intro P α s H x y va vb d Q hs hx hy e k
  unfold Mini.opIs at e
  obtain ⟨b, hb, rfl⟩ := Option.map_eq_some_iff.mp e
  rcases is_ok (rz_dr hs hx) (rz_dr hs hy) hb with ⟨h1, h2⟩ | ⟨c, c', h1, h2, h3⟩
  · exact .inl ⟨h1, now k hs (by rw [h2]; simp [Dr])⟩
  · exact .inr ⟨c, c', h1, h2, now k hs (by rw [h3]; simp [Dr])⟩
theorem sem_isnt : Sem2 X (compareOp .IsNot) Mini.opIsNot (orR rNotN rNotB) := by
  refine ⟨op_notN.or op_notBl, ?_⟩
  intro P α s H x y va vb d Q hs hx hy e k
  unfold Mini.opIsNot at e
  obtain ⟨b, hb, rfl⟩ := Option.map_eq_some_iff.mp e
  rcases is_ok (rz_dr hs hx) (rz_dr hs hy) hb with ⟨h1, h2⟩ | ⟨c, c', h1, h2, h3⟩
  · exact .inl ⟨h1, now k hs (by rw [h2]; simp [Dr])⟩
  · exact .inr ⟨c, c', h1, h2, now k hs (by rw [h3]; simp [Dr])⟩
/-! ### an item, a slice -/
theorem pos_ix (n : Nat) (i : Int) : Mini.pos n i = ixN n i := rfl
theorem six_ix (n d : Nat) (o : Option Int) : Mini.six n d o = HT.sIx n d o := by cases o <;> rfl
theorem ix_ok {P α : List Addr} {s : Mini.Sto} {H : Hp} {x y d : Mini.D} {va vb : V} {Q : VK} (hs : StR X.K P α s H) (hx : Dr X.K (imm H P α) α x va) (hy : Dr X.K (imm H P α) α y vb) (e : Mini.opIx s (Mini.rz s x) (Mini.rz s y) = some d) (k : Then X.K P α s H d Q) :
    rIx X.K va vb H Q := by
  replace hx := rz_dr hs hx
  replace hy := rz_dr hs hy
  generalize Mini.rz s x = x' at *
  generalize Mini.rz s y = y' at *
  unfold Mini.opIx at e
  split at e
  · rename_i ds i
    obtain ⟨p, xs, rfl, h1, h2⟩ := hx
    simp [DrH, Dr] at hy
    subst hy
    obtain ⟨j, hj, hd⟩ := Option.bind_eq_some_iff.mp e
    obtain ⟨v, hv, hdv⟩ := h2.at hd
    refine .inl ⟨p, xs, i, v, rfl, rfl, .of h1, ?_, now k hs (Dr.nil_any hdv)⟩
    unfold atI
    rw [← h2.len, ← pos_ix, hj]
    exact hv
  · rename_i ds i
    obtain ⟨p, xs, rfl, h1, h2⟩ := hx
    simp [DrH, Dr] at hy
    subst hy
    obtain ⟨j, hj, hd⟩ := Option.bind_eq_some_iff.mp e
    obtain ⟨v, hv, hdv⟩ := h2.at hd
    refine .inr (.inl ⟨p, xs, i, v, rfl, rfl, .of h1, ?_, now k hs hdv⟩)
    unfold atI
    rw [← h2.len, ← pos_ix, hj]
    exact hv
  · rename_i z i
    split at e
    · rename_i hl
      simp [DrH, Dr] at hx hy
      subst hx; subst hy
      obtain ⟨c, hc, rfl⟩ := Option.map_eq_some_iff.mp e
      obtain ⟨j, hj, hd⟩ := Option.bind_eq_some_iff.mp hc
      refine .inr (.inr ⟨_, i, c, rfl, rfl, sl hl, ?_, now k hs (by simp [Dr])⟩)
      unfold atI
      simp only [List.toList_toArray]
      rw [← pos_ix, hj]
      exact hd
    · cases e
  · rename_i ns i
    obtain ⟨p, rfl, h1⟩ := hx
    simp [DrH, Dr] at hy
    subst hy
    obtain ⟨c, hc, rfl⟩ := Option.map_eq_some_iff.mp e
    obtain ⟨j, hj, hd⟩ := Option.bind_eq_some_iff.mp hc
    refine .inl ⟨p, _, i, .int c, rfl, rfl, h1, ?_, now k hs (by simp [Dr])⟩
    unfold atI
    rw [List.length_map, ← pos_ix, hj]
    show (ns.map V.int)[j]? = _
    rw [List.getElem?_map, hd]
    rfl
  · cases e
variable {E : XC} {a b : Expr} {pos : Pos}
theorem pm_ix {ma mb : Mini.M} (ha : PE X a (tM X.K E ma)) (hb : PE X b (tM X.K E mb)) (hs : PlainIx b := by exact fun _ _ => rfl) : PE X (.Subscript a b pos) (tM X.K E (Mini.mOp Mini.opIx ma mb)) := (pe_ix ix_seq ha hb hs).to
  fun σ H Q ⟨P, α, e, s, hS, q⟩ => ⟨P, α, e, s, hS, (Post.unbind q).imp fun d s1 α1 H1 g1 t1 q1 v hv => ⟨P, α1, e, s1, hS.gr g1 t1, (Post.unbind q1).imp fun d2 s2 α2 H2 g2 t2 q2 u hu => by
    obtain ⟨z, hz, q2⟩ := q2.unof
    exact ix_ok t2 (g2.dr hv) hu hz fun w H3 g3 t3 hw => q2 α2 H3 g3 t3 w hw⟩⟩
theorem om_n : L2.PO X none (tO X.K E Mini.poN) := po_none.to fun σ H Q ⟨P, α, e, s, hS, q⟩ => q.here hS.st
theorem om_s {e : Expr} {m : Mini.M} (h : PE X e (tM X.K E m)) : L2.PO X (some e) (tO X.K E (Mini.poS m)) := (po_some h).to fun σ H Q ⟨P, α, e, s, hS, q⟩ => ⟨P, α, e, s, hS, (Post.unbind q).imp fun d s1 α1 H1 g1 t1 q1 v hv => by
  cases d <;> simp only at q1 <;> first | exact q1.elim | skip
  rw [Dr] at hv
  exact ⟨_, hv, q1.here t1⟩⟩
theorem rz_tup {s : Mini.Sto} {d : Mini.D} {ds : List Mini.D} (h : Mini.rz s d = .tup ds) : d = .tup ds := by
  cases d with
  | own j =>
    simp only [Mini.rz] at h
    split at h <;> cases h
  | tup => exact h
  | _ => cases h
def rSl (K : PySem.W.Frag) : V → Option Int → Option Int → Hp → VK → Prop := fun x lo hi H Q => rSlL K x lo hi H Q ∨ (rSlA K x lo hi H Q ∨ rSlS x lo hi H Q)
theorem sl_any : SlR X (rSl X.K) := sl_list.or (sl_tupA.or sl_str)
theorem cut_drL {K : PySem.W.Frag} {G : Hp} {α : List Addr} {ds : List Mini.D} {xs : List V} (h : DrL K G α ds xs) (lo hi : Option Int) : DrL K G α (Mini.cut ds lo hi) (cutV xs lo hi) := by
  unfold Mini.cut cutV
  rw [six_ix, six_ix, h.len]
  exact (h.drop _).take _
theorem pm_sl {p2 : Pos} {ma : Mini.M} {lo hi : Option Expr} {ml mh : Mini.PO} (ha : PE X a (tM X.K E ma)) (hl : L2.PO X lo (tO X.K E ml)) (hh : L2.PO X hi (tO X.K E mh)) : PE X (.Subscript a (.Slice lo hi none p2) pos) (tM X.K E (Mini.mSl ma ml mh)) := (pe_slice sl_any ha hl hh).to
  fun σ H Q ⟨P, α, e, s, hS, q⟩ => ⟨P, α, e, s, hS, (Post.unbind q).imp fun d s1 α1 H1 g1 t1 q1 v hv => ⟨P, α1, e, s1, hS.gr g1 t1, (Post.unbind q1).imp fun o1 s2 α2 H2 g2 t2 q2 => ⟨P, α2, e, s2, hS.gr (g1.trans g2) t2, (Post.unbind q2).imp fun o2 s3 α3 H3 g3 t3 q3 => by
    obtain ⟨z, hz, q3⟩ := q3.unof
    have hv3 := rz_dr t3 (g3.dr (g2.dr hv))
    dsimp only at hz
    generalize hd' : Mini.rz s3 d = d' at hz hv3
    have k : Then X.K P α3 s3 H3 z Q := fun w H4 g4 t4 hw => q3 α3 H4 g4 t4 w hw
    unfold Mini.slD at hz
    split at hz
    · cases hz
      obtain ⟨p, xs, rfl, h1, h2⟩ := hv3
      exact .inl ⟨p, xs, rfl, .of h1, fun p hp => new_lst t3 hp (cut_drL h2 _ _) k⟩
    · cases hz
      obtain ⟨p, xs, rfl, h1, h2⟩ := hv3
      have hc := cut_drL h2 o1 o2
      refine .inr (.inl ⟨p, xs, rfl, .of h1, fun hw => ?_, fun hw p' hp => new_tup t3 hp hc k⟩)
      have e1 : cutV xs o1 o2 = xs := by unfold cutV; rw [hw.1, hw.2]; simp
      have e2 := rz_tup hd'
      subst e2
      have hv4 := g3.dr (g2.dr hv)
      rw [Dr] at hv4
      obtain ⟨a', xs', e', h', h''⟩ := hv4
      cases e'
      have : xs' = xs := by
        have := imm_sub _ _ _ _ _ h'
        rw [h1] at this
        cases this
        rfl
      subst this
      refine now k t3 ?_
      rw [Dr]
      exact ⟨p, xs', rfl, h', by rw [← e1]; exact hc⟩
    · split at hz
      · rename_i hl
        cases hz
        simp [DrH, Dr] at hv3
        subst hv3
        refine .inr (.inr ⟨_, rfl, sl hl, now k t3 ?_⟩)
        rw [Dr]
        congr 1
      · cases hz
    · cases hz
      obtain ⟨p, rfl, h1⟩ := hv3
      refine .inl ⟨p, _, rfl, h1, fun p hp => new_lst t3 hp ?_ k⟩
      have : cutV (List.map V.int ‹List Int›) o1 o2 = (Mini.cut ‹List Int› o1 o2).map V.int := by
        unfold cutV Mini.cut
        rw [six_ix, six_ix, List.length_map, List.map_take, List.map_drop]
      rw [this]
      exact DrL.ofInts _
    · cases hz⟩⟩⟩
end
end Snd
end
section
namespace Snd
open PySem L2
/-! ### built-ins of one argument -/
section
variable {X : Cx} {E : XC} {a : Expr} {pos p : Pos}
abbrev RC := List V → Hp → VK → Prop
structure Sem1 (X : Cx) (f : Value) (o : Mini.D → Option Mini.D) (r : RC) : Prop where
  op : CallR X f r
  ok : ∀ {P α s H x va d} {Q : VK}, StR X.K P α s H → Dr X.K (imm H P α) α x va → o (Mini.rz s x) = some d → Then X.K P α s H d Q → r [va] H Q
theorem one {f : Value} {o : Mini.D → Option Mini.D} {r : RC} {m : Mini.M} (S : Sem1 X f o r) : ∀ σ H Q, tM X.K E (Mini.mB o m) σ H Q → tCB r (tA X.K E (Mini.aCons m Mini.aNil)) σ H Q := fun σ H Q ⟨P, α, e, s, hS, q⟩ =>
  ⟨P, α, e, s, hS, by
    unfold Mini.mB at q
    unfold Mini.aCons
    replace q := Post.unbind q
    cases hm : m e s with
    | bad => rw [hm] at q; exact q.elim
    | exc c => rw [hm] at q; exact q
    | ok pr =>
      rw [hm] at q
      intro α1 H1 g1 t1 v hv
      have q1 := q α1 H1 g1 t1
      obtain ⟨z, hz, q1⟩ := q1.unof
      cases v with
      | nil => simp [DrL, Mini.aNil] at hv
      | cons v vs =>
        rw [DrL] at hv
        have : vs = [] := by
          have := hv.2
          cases vs with
          | nil => rfl
          | cons => simp [DrL, Mini.aNil] at this
        subst this
        exact S.ok t1 hv.1 hz fun w H2 g2 t2 hw => q1 α1 H2 g2 t2 w hw⟩
theorem pm_b1 {x : Str} {id : String} {o : Mini.D → Option Mini.D} {r : RC} {m : Mini.M} (S : Sem1 X (.builtin id) o r) (hg : Gl X x) (hm : X.mg x = none) (hv : bootBuiltins x = some (.builtin id)) (ha : PE X a (tM X.K E m))
    (hs : starEach [a] X.env = (false, eval a X.env) :: starEach [] X.env := by rfl) (hn : x ≠ "__name__" := by decide) (hd : (x == ("__debug__" : Str)) = false := by decide) : PE X (.Call (.Name x p) [a] [] pos) (tM X.K E (Mini.mB o m)) :=
  (pe_callB S.op hg hm hv (am_cons ha am_nil hs) hn hd hs).to (one S)
theorem pm_t1 {x : Str} {id : String} {o : Mini.D → Option Mini.D} {r : RC} {m : Mini.M} (S : Sem1 X (.type id) o r) (hg : Gl X x) (hm : X.mg x = none) (hv : bootBuiltins x = some (.type id)) (ha : PE X a (tM X.K E m))
    (hs : starEach [a] X.env = (false, eval a X.env) :: starEach [] X.env := by rfl) (hn : x ≠ "__name__" := by decide) (hd : (x == ("__debug__" : Str)) = false := by decide) : PE X (.Call (.Name x p) [a] [] pos) (tM X.K E (Mini.mB o m)) :=
  (pe_callTy S.op hg hm hv (am_cons ha am_nil hs) hn hd hs).to (one S)
def orC (r r' : RC) : RC := fun xs H Q => r xs H Q ∨ r' xs H Q
def rLen (K : PySem.W.Frag) : RC := fun xs H Q => ∃ x n, xs = [x] ∧ LenV K x H n ∧ Q (.int n) H
theorem sem_len : Sem1 X (.builtin "len") Mini.bLen (orC (rLen X.K) rLenT) := by
  refine ⟨call_len.or call_len_dT, ?_⟩
  intro P α s H x va d Q hs hx e k
  replace hx := rz_dr hs hx
  generalize Mini.rz s x = x' at *
  unfold Mini.bLen at e
  split at e
  · cases e
    obtain ⟨p, xs, rfl, h1, h2⟩ := hx
    exact .inl ⟨_, _, rfl, .inl ⟨xs, .of h1, rfl⟩, now k hs (by simp [Dr, h2.len])⟩
  · cases e
    obtain ⟨p, xs, rfl, h1, h2⟩ := hx
    exact .inl ⟨_, _, rfl, .inr ⟨xs, .of h1, rfl⟩, now k hs (by simp [Dr, h2.len])⟩
  · split at e
    · rename_i hl
      cases e
      simp [DrH, Dr] at hx
      subst hx
      exact .inl ⟨_, _, rfl, ⟨sl hl, rfl⟩, now k hs (by simp [Dr, Str.length])⟩
    · cases e
  · cases e
    obtain ⟨p, rfl, h1⟩ := hx
    exact .inl ⟨_, _, rfl, .inl ⟨_, h1, rfl⟩, now k hs (by simp [Dr])⟩
  · cases e
    obtain ⟨p, kvs, rfl, h1, h2⟩ := hx
    exact .inr ⟨p, kvs, rfl, h1, now k hs (by simp [Dr, h2])⟩
  · cases e
theorem sem_all (hc : X.calm = true) : Sem1 X (.builtin "all") Mini.bAll (rAll X.K) := by
  refine ⟨cr_all hc, ?_⟩
  intro P α s H x va d Q hs hx e k
  replace hx := rz_dr hs hx
  generalize Mini.rz s x = x' at *
  cases x' <;> simp [Mini.bAll] at e
  obtain ⟨bs, hb, rfl⟩ := e
  obtain ⟨p, xs, rfl, h1, h2⟩ := hx
  exact ⟨p, bs, rfl, .of (by rw [h1, h2.bls hb]), now k hs (by simp [Dr])⟩
theorem sem_any (hc : X.calm = true) : Sem1 X (.builtin "any") Mini.bAny (rAny X.K) := by
  refine ⟨cr_any hc, ?_⟩
  intro P α s H x va d Q hs hx e k
  replace hx := rz_dr hs hx
  generalize Mini.rz s x = x' at *
  cases x' <;> simp [Mini.bAny] at e
  obtain ⟨bs, hb, rfl⟩ := e
  obtain ⟨p, xs, rfl, h1, h2⟩ := hx
  exact ⟨p, bs, rfl, .of (by rw [h1, h2.bls hb]), now k hs (by simp [Dr])⟩
theorem sem_sum (hc : X.calm = true) : Sem1 X (.builtin "sum") Mini.bSum (rSum X.K) := by
  refine ⟨cr_sum hc, ?_⟩
  intro P α s H x va d Q hs hx e k
  replace hx := rz_dr hs hx
  generalize Mini.rz s x = x' at *
  cases x' <;> simp [Mini.bSum] at e
  obtain ⟨bs, hb, rfl⟩ := e
  obtain ⟨p, xs, rfl, h1, h2⟩ := hx
  exact ⟨p, bs, rfl, .of (by rw [h1, h2.zints hb]), now k hs (by simp [Dr])⟩
theorem maxI_uniq : ∀ (ns : List Int) (m : Int), m ∈ ns → (∀ y, y ∈ ns → y ≤ m) → Mini.maxI ns = m
  | [], m, h, _ => by simp at h
  | [x], m, h, _ => by simp at h; simp [Mini.maxI, h]
  | x :: y :: r, m, h, hm => by
    unfold Mini.maxI
    by_cases hx : m ∈ (y :: r)
    · rw [maxI_uniq (y :: r) m hx fun z hz => hm z (List.mem_cons_of_mem _ hz)]
      have := hm x List.mem_cons_self
      omega
    · have e : m = x := by
        rcases List.mem_cons.mp h with h | h
        · exact h
        · exact absurd h hx
      subst e
      have : Mini.maxI (y :: r) ∈ (y :: r) := by
        clear hx h hm
        induction r generalizing y with
        | nil => simp [Mini.maxI]
        | cons z r ih =>
          unfold Mini.maxI
          have := ih z
          rcases Int.le_total y (Mini.maxI (z :: r)) with q | q
          · rw [Int.max_eq_right q]; exact List.mem_cons_of_mem _ this
          · rw [Int.max_eq_left q]; exact List.mem_cons_self
      have := hm _ (List.mem_cons_of_mem _ this)
      omega
theorem sem_max (hc : X.calm = true) : Sem1 X (.builtin "max") Mini.bMax (rMax X.K) := by
  refine ⟨cr_max hc, ?_⟩
  intro P α s H x va d Q hs hx e k
  replace hx := rz_dr hs hx
  generalize Mini.rz s x = x' at *
  cases x' <;> simp only [Mini.bMax] at e <;> first | cases e | skip
  split at e
  · rename_i n ns hb
    cases e
    obtain ⟨p, xs, rfl, h1, h2⟩ := hx
    exact ⟨p, n :: ns, rfl, .of (by rw [h1, h2.zints hb]), by simp, fun m h3 h4 => now k hs (by rw [maxI_uniq _ m h3 h4]; simp [Dr])⟩
  · cases e
theorem sem_int : Sem1 X (.type "int") Mini.bInt (fun xs H Q => (∃ i, xs = [.int i] ∧ Q (.int i) H) ∨ ∃ k, xs = [.bl k] ∧ Q (.int (if k then 1 else 0)) H) := by
  refine ⟨call_int1, ?_⟩
  intro P α s H x va d Q hs hx e k
  replace hx := rz_dr hs hx
  generalize Mini.rz s x = x' at *
  cases x' <;> simp [Mini.bInt] at e
  · subst e; simp [DrH, Dr] at hx; subst hx
    exact .inr ⟨_, rfl, now k hs (by simp [Dr])⟩
  · subst e; simp [DrH, Dr] at hx; subst hx
    exact .inl ⟨_, rfl, now k hs (by simp [Dr])⟩
theorem sem_list : Sem1 X (.type "list") Mini.bList (fun xs H Q => ∃ p ys, xs = [.ref p] ∧ (SqL X.K H p ys ∨ SqT X.K H p ys) ∧ ∀ l, H l = none → Q (.ref l) (upd H l (.lst ys))) := by
  refine ⟨call_list_of, ?_⟩
  intro P α s H x va d Q hs hx e k
  replace hx := rz_dr hs hx
  generalize Mini.rz s x = x' at *
  cases x' <;> simp [Mini.bList] at e
  subst e
  obtain ⟨p, xs, rfl, h1, h2⟩ := hx
  exact ⟨p, xs, rfl, .inl (.of h1), fun l hl => new_lst hs hl h2 k⟩
theorem sem_tup : Sem1 X (.type "tuple") Mini.bTup (fun xs H Q => ∃ p ys, xs = [.ref p] ∧ ((SqL X.K H p ys ∧ ∀ l, H l = none → Q (.ref l) (upd H l (.tup ys))) ∨ (SqT X.K H p ys ∧ Q (.ref p) H))) := by
  refine ⟨call_tuple_of, ?_⟩
  intro P α s H x va d Q hs hx e k
  have hx0 := hx
  replace hx := rz_dr hs hx
  generalize hrz : Mini.rz s x = x' at *
  cases x' <;> simp [Mini.bTup] at e
  · subst e
    have := rz_tup hrz
    subst this
    obtain ⟨p, xs, rfl, h1, h2⟩ := hx
    exact ⟨p, xs, rfl, .inr ⟨.of h1, now k hs hx0⟩⟩
  · subst e
    obtain ⟨p, xs, rfl, h1, h2⟩ := hx
    exact ⟨p, xs, rfl, .inl ⟨.of h1, fun l hl => new_tup hs hl h2.nil_any k⟩⟩
/-! ### of two: min, max, isinstance -/
theorem pm_b2 {x : Str} {b : Expr} {id : String} {o : Mini.Op} {f : Int → Int → Int} {ma mb : Mini.M} (ho : ∀ s x y, o s x y = match x, y with | .int i, .int j => some (.int (f i j)) | _, _ => none) (op : CallR X (.builtin id) (fun xs H Q => ∃ i j, xs = [.int i, .int j] ∧ Q (.int (f i j)) H)) (hg : Gl X x) (hm : X.mg x = none) (hv : bootBuiltins x = some (.builtin id))
    (ha : PE X a (tM X.K E ma)) (hb : PE X b (tM X.K E mb)) (hs : starEach [a, b] X.env = (false, eval a X.env) :: starEach [b] X.env := by rfl) (hs2 : starEach [b] X.env = (false, eval b X.env) :: starEach [] X.env := by rfl) (hn : x ≠ "__name__" := by decide) (hd : (x == ("__debug__" : Str)) = false := by decide) (hpl : (backTo pos (starEach [b] X.env)).any (·.1) = false := by rfl) :
    PE X (.Call (.Name x p) [a, b] [] pos) (tM X.K E (Mini.mOp o ma mb)) := (pe_callB op hg hm hv (pa_cons ha (pa_cons hb pa_nil hs2) hs) hn hd hs hpl).to
  fun σ H Q ⟨P, α, e, s, hS, q⟩ => ⟨P, α, e, s, hS, (Post.unbind q).imp fun d s1 α1 H1 g1 t1 q1 v hv => ⟨P, α1, e, s1, hS.gr g1 t1, (Post.unbind q1).imp fun d2 s2 α2 H2 g2 t2 q2 u hu => by
    obtain ⟨z, hz, q2⟩ := q2.unof
    have h1 := rz_dr t2 (g2.dr hv)
    have h2 := rz_dr t2 hu
    dsimp only at hz
    generalize Mini.rz s2 d = x' at *
    generalize Mini.rz s2 d2 = y' at *
    rw [ho] at hz
    split at hz
    · cases hz
      simp [DrH, Dr] at h1 h2
      subst h1; subst h2
      exact ⟨_, _, rfl, q2 α2 H2 (Gr.refl _ _ _) t2 _ (by simp [Dr])⟩
    · cases hz⟩⟩
theorem min_of (s : Mini.Sto) (x y : Mini.D) : Mini.opMin s x y = match x, y with | .int i, .int j => some (.int (if j < i then j else i)) | _, _ => none := by
  cases x <;> cases y <;> rfl
theorem max_of (s : Mini.Sto) (x y : Mini.D) : Mini.opMax s x y = match x, y with | .int i, .int j => some (.int (if j > i then j else i)) | _, _ => none := by
  cases x <;> cases y <;> rfl
def tyS : Mini.Ty → String
  | .bool => "bool" | .int => "int" | .str => "str" | .tuple => "tuple" | .list => "list"
theorem ty_ok {K : PySem.W.Frag} {H G : Hp} {α : List Addr} {t : Mini.Ty} {d z : Mini.D} {v : V} (h : DrH K H G α d v) (e : Mini.isTy t d = some z) : ∃ u b, TyX K H v (.type u) ∧ kitB u (tyS t) = some b ∧ z = .bl b := by
  cases d with
  | non => simp [DrH, Dr] at h; subst h; cases e; exact ⟨_, _, .base .non, by cases t <;> decide +kernel, rfl⟩
  | bl => simp [DrH, Dr] at h; subst h; cases e; exact ⟨_, _, .base (.bl _), by cases t <;> decide +kernel, rfl⟩
  | int => simp [DrH, Dr] at h; subst h; cases e; exact ⟨_, _, .base (.int _), by cases t <;> decide +kernel, rfl⟩
  | str => simp [DrH, Dr] at h; subst h; cases e; exact ⟨_, _, .base (.str _), by cases t <;> decide +kernel, rfl⟩
  | tup => obtain ⟨a, xs, rfl, h1, _⟩ := h; cases e; exact ⟨_, _, .base (.tup h1), by cases t <;> decide +kernel, rfl⟩
  | lst => obtain ⟨a, xs, rfl, h1, _⟩ := h; cases e; exact ⟨_, _, .base (.lst h1), by cases t <;> decide +kernel, rfl⟩
  | scr => cases e
  | dic => cases e
  | own => cases e
theorem pm_isi {t : Mini.Ty} {x : Str} {p2 : Pos} {ma : Mini.M} (hg : Gl X "isinstance") (hm : X.mg "isinstance" = none) (hg2 : Gl X x) (hm2 : X.mg x = none) (ha : PE X a (tM X.K E ma)) (hv2 : bootBuiltins x = some (.type (tyS t)) := by decide +kernel)
    (hn2 : x ≠ "__name__" := by decide) (hd2 : (x == ("__debug__" : Str)) = false := by decide)
    (hs : starEach [a, .Name x p2] X.env = (false, eval a X.env) :: starEach [.Name x p2] X.env := by rfl) (hs2 : starEach [.Name x p2] X.env = (false, eval (.Name x p2) X.env) :: starEach [] X.env := by rfl) (hpl : (backTo pos (starEach [.Name x p2] X.env)).any (·.1) = false := by rfl) :
    PE X (.Call (.Name "isinstance" p) [a, .Name x p2] [] pos) (tM X.K E (Mini.mB (Mini.isTy t) ma)) :=
  (pe_callB call_isi hg hm (by decide +kernel) (pa_cons ha (pa_cons (pe_bltn (v := .ty (tyS t)) hg2 hm2 hv2 rfl hn2 hd2) pa_nil hs2) hs) (by decide) (by decide) hs hpl).to
  fun σ H Q ⟨P, α, e, s, hS, q⟩ => ⟨P, α, e, s, hS, (Post.unbind q).imp fun d s1 α1 H1 g1 t1 q1 v hv => by
    obtain ⟨z, hz, q1⟩ := q1.unof
    obtain ⟨u, b, h1, h2, rfl⟩ := ty_ok (rz_dr t1 hv) hz
    exact ⟨_, _, _, _, b, rfl, .ty _, h1, kit_ty h2, q1.here t1 _ (by simp [Dr])⟩⟩
/-! ### join -/
theorem glue_join (z : List Nat) : ∀ xs : List (List Nat), Str.join ⟨z.toArray⟩ (xs.map fun x => (⟨x.toArray⟩ : Str)) = ⟨(Mini.glue z xs).toArray⟩
  | [] => rfl
  | [x] => rfl
  | x :: y :: r => by
    have ih := glue_join z (y :: r)
    simp only [List.map_cons] at ih ⊢
    show (⟨x.toArray⟩ : Str) ++ ⟨z.toArray⟩ ++ Str.join ⟨z.toArray⟩ _ = _
    rw [ih]
    show (⟨(x.toArray ++ z.toArray) ++ (Mini.glue z (y :: r)).toArray⟩ : Str) = ⟨(x ++ z ++ Mini.glue z (y :: r)).toArray⟩
    congr 1
    simp
theorem pm_join {sep : Str} {z : List Nat} {j : Nat} {p2 apos : Pos} {m : Mini.M} (ha : PE X a (tM X.K E m)) (hz : sep = ⟨z.toArray⟩ := by decide +kernel) (hs : starEach [a] X.env = [(false, eval a X.env)] := by rfl)
    (hbase : attributeBase (.Constant (.str sep) j p2) "join" X.env (eval (.Constant (.str sep) j p2) X.env) = eval (.Constant (.str sep) j p2) X.env := by rfl) (hline : (apos.endLine == pos.line) = true := by rfl) :
    PE X (.Call (.Attribute (.Constant (.str sep) j p2) "join" apos) [a] [] pos) (tM X.K E (Mini.mB (Mini.joinD z) m)) :=
  (pe_join (pe_str) ha hs hbase hline).to fun σ H Q ⟨P, α, e, s, hS, q⟩ => ⟨⟨_, rfl⟩, P, α, e, s, hS, (Post.unbind q).imp fun d s1 α1 H1 g1 t1 q1 v hv => by
    obtain ⟨w, hw, q1⟩ := q1.unof
    have h1 := rz_dr t1 hv
    dsimp only at hw
    generalize Mini.rz s1 d = x' at *
    cases x' <;> simp only [Mini.joinD] at hw <;> first | cases hw | skip
    obtain ⟨xs, hx, hw⟩ := Option.bind_eq_some_iff.mp hw
    split at hw
    · rename_i hl
      cases hw
      obtain ⟨p, ys, rfl, h2, h3⟩ := h1
      have e1 := h3.zstrs hx
      subst hz
      refine ⟨_, p, xs.map fun x => (⟨x.toArray⟩ : Str), rfl, rfl, .inl (.of ?_), ?_, q1.here t1 _ ?_⟩
      · rw [h2, e1, List.map_map]
        rfl
      · rw [List.map_map, List.length_map]
        exact hl
      · rw [Dr, TL.join_eq, glue_join]
    · cases hw⟩
end
end Snd
end
section
namespace Snd
open PySem L2
section
variable {K : PySem.W.Frag} {P α : List Addr} {s : Mini.Sto} {H H' : Hp}
theorem imm_app (H : Hp) (P α : List Addr) : imm H (P ++ α) [] = imm H P α := by
  funext b
  unfold imm
  simp [List.mem_append]
/-- everything that is known stays -/
theorem StR.ext (h : StR K P α s H) (e : Ext H H') : Gr P α H α H' ∧ StR K P α s H' := by
  have x : Ext (imm H P α) (imm H' P α) := fun b o q => by
    rw [imm_some] at q ⊢
    exact ⟨q.1, q.2.1, e b o q.2.2⟩
  refine ⟨⟨fun _ _ q => q, x, fun b _ o q => e b o q⟩, h.nd, h.dis, fun b hb => ?_, h.len, fun k o a h1 h2 => ?_⟩
  · intro z
    cases q : H b with
    | none => exact h.pt b hb q
    | some o => rw [e b o q] at z; cases z
  · have q := h.ob k o a h1 h2
    cases z : H a with
    | none => exact absurd z q.some_of
    | some u =>
      rw [e a u z, ← z]
      exact q.mono x
/-- an owned object is changed -/
theorem StR.chg (h : StR K P α s H) {k : Nat} {a : Addr} {o : Mini.Ob} {ho : HO} (ha : α[k]? = some a) (hk : k < s.length) (r : ObR K (imm H P α) o (some ho)) : Gr P α H α (upd H a ho) ∧ StR K P α (s.set k o) (upd H a ho) := by
  have hm : a ∈ α := List.mem_of_getElem? ha
  have ei : imm (upd H a ho) P α = imm H P α := by
    funext b
    unfold imm
    split
    · rfl
    · rename_i q
      rw [upd_ne (show b ≠ a from fun z => q (.inr (z ▸ hm)))]
  refine ⟨⟨fun _ _ q => q, by rw [ei]; exact Ext.refl _, fun b hb u q => ?_⟩, h.nd, h.dis, fun b hb => ?_, by simp [h.len], fun j u c h1 h2 => ?_⟩
  · rw [upd_ne (show b ≠ a from fun z => h.dis a hm (z ▸ hb))]; exact q
  · rw [upd_ne (show b ≠ a from fun z => h.dis a hm (z ▸ hb))]; exact h.pt b hb
  · rw [ei]
    by_cases hj : k = j
    · subst hj
      rw [ha] at h2
      cases h2
      rw [upd_same]
      rw [List.getElem?_set_self hk] at h1
      cases h1
      exact r
    · rw [List.getElem?_set_ne hj] at h1
      have : c ≠ a := fun z => by
        subst z
        have hj1 : j < α.length := (List.getElem?_eq_some_iff.mp h2).1
        have hk1 : k < α.length := (List.getElem?_eq_some_iff.mp ha).1
        have e1 := (List.getElem?_eq_some_iff.mp h2).2
        have e2 := (List.getElem?_eq_some_iff.mp ha).2
        exact hj ((List.getElem_inj h.nd).mp (e2.trans e1.symm))
      rw [upd_ne this]
      exact h.ob j u c h1 h2
/-- a new object that is ours alone -/
theorem StR.newOwn (h : StR K P α s H) {p : Addr} {o : Mini.Ob} {ho : HO} (hp : H p = none) (r : ObR K (imm H P α) o (some ho)) :
    Gr P α H (α ++ [p]) (upd H p ho) ∧ StR K P (α ++ [p]) (s ++ [o]) (upd H p ho) ∧ (α ++ [p])[s.length]? = some p := by
  have n1 : p ∉ P := fun z => h.pt p z hp
  have n2 : p ∉ α := fun z => h.there z hp
  have e : Ext (imm H P α) (imm (upd H p ho) P (α ++ [p])) := fun b u q => by
    rw [imm_some] at q ⊢
    have : b ≠ p := ne_of_none q.2.2 hp
    exact ⟨q.1, by simp [q.2.1, this], by rw [upd_ne this]; exact q.2.2⟩
  have el : (α ++ [p])[s.length]? = some p := by rw [h.len]; simp
  refine ⟨⟨fun k a q => ?_, e, fun b hb u q => by rw [upd_ne (ne_of_none q hp)]; exact q⟩, ⟨?_, ?_, fun b hb => ?_, by simp [h.len], fun j u c h1 h2 => ?_⟩, el⟩
  · rw [List.getElem?_append_left (List.getElem?_eq_some_iff.mp q).1]; exact q
  · rw [List.nodup_append]
    exact ⟨h.nd, by simp, fun a ha b hb z => by simp at hb; subst hb; subst z; exact n2 ha⟩
  · intro a ha
    rcases List.mem_append.mp ha with ha | ha
    · exact h.dis a ha
    · simp at ha; subst ha; exact n1
  · rw [upd_ne (show b ≠ p from fun z => n1 (z ▸ hb))]; exact h.pt b hb
  · by_cases hj : j < s.length
    · rw [List.getElem?_append_left hj] at h1
      rw [List.getElem?_append_left (by rw [← h.len]; exact hj)] at h2
      have hc : c ∈ α := List.mem_of_getElem? h2
      rw [upd_ne (show c ≠ p from fun z => n2 (z ▸ hc))]
      exact (h.ob j u c h1 h2).mono e
    · have hj2 : j < (s ++ [o]).length := (List.getElem?_eq_some_iff.mp h1).1
      have : j = s.length := by simp at hj2; omega
      subst this
      rw [el] at h2
      cases h2
      simp at h1
      subst h1
      rw [upd_same]
      exact r.mono e
end
section
variable {X : Cx} {E : XC} {a : Expr} {pos apos p : Pos}
/-! ### methods of an owned list -/
theorem own_at {K : PySem.W.Frag} {P α : List Addr} {s : Mini.Sto} {H : Hp} (hs : StR K P α s H) {k : Nat} {v : V} (h : Dr K (imm H P α) α (.own k) v) : ∃ b, α[k]? = some b ∧ v = .ref b := by
  rw [Dr] at h; exact h
theorem pm_app {o : Expr} {mo ma : Mini.M} (ho : PE X o (tM X.K E mo)) (ha : PE X a (tM X.K E ma)) (hs : starEach [a] X.env = (false, eval a X.env) :: starEach [] X.env := by rfl)
    (h1 : attributeBase o "append" X.env (eval o X.env) = eval o X.env := by rfl) (h2 : (apos.endLine == pos.line) = true := by rfl) (hfew : ((backTo pos (starEach (a :: []) X.env)).all (fun x => !x.1) && (backToKw pos (keywordEach [] X.env)).all (fun x => x.1.isSome)
      && decide ((a :: []).length + ([] : List Keyword).length + (if ([] : List Keyword).isEmpty then 0 else 1) < 30)) = true := by rfl) :
    PE X (.Call (.Attribute o "append" apos) [a] [] pos) (tM X.K E (Mini.mApp mo ma)) :=
  (pe_bm PySem.F.plainAttrs_list PySem.F.slot_list_append PySem.F.type_list_append mt_append ho (pa_cons ha pa_nil hs) h1 hfew h2 hs).to fun σ H Q ⟨P, α, e, s, hS, q⟩ =>
  ⟨P, α, e, s, hS, (Post.unbind q).imp fun d s1 α1 H1 g1 t1 q1 v hv => by
    cases d <;> simp only at q1 <;> first | exact q1.elim | skip
    rename_i k
    cases hk : s1[k]? with
    | none => rw [hk] at q1; exact q1.elim
    | some ob =>
      cases ob with
      | DI _ => rw [hk] at q1; exact q1.elim
      | DT _ => rw [hk] at q1; exact q1.elim
      | L ds =>
        rw [hk] at q1
        obtain ⟨b, hb, rfl, xs, hx, hd⟩ := own_ob t1 hv hk
        refine ⟨.inl ⟨rfl, xs, .of hx⟩, P, α1, e, s1, hS.gr g1 t1, (Post.unbind q1).imp fun d2 s2 α2 H2 g2 t2 q2 u hu => ?_⟩
        dsimp only at q2
        have hb2 := g2.pre k b hb
        cases hk2 : s2[k]? with
        | none => rw [hk2] at q2; exact q2.elim
        | some ob =>
          cases ob with
          | DI _ => rw [hk2] at q2; exact q2.elim
          | DT _ => rw [hk2] at q2; exact q2.elim
          | L ds2 =>
            rw [hk2] at q2
            obtain ⟨⟨c1, c2⟩, q2⟩ := q2.unite
            obtain ⟨xs2, hx2, hd2⟩ := t2.ob k _ b hk2 hb2
            have r : ObR X.K (imm H2 P α2) (.L (ds2 ++ [d2])) (some (.lst (xs2 ++ [u]))) := ⟨_, rfl, hd2.append (by simp only [DrL]; exact ⟨Dr.free c2 hu, trivial⟩)⟩
            obtain ⟨g3, t3⟩ := t2.chg hb2 (List.getElem?_eq_some_iff.mp hk2).1 r
            exact ⟨b, xs2, u, rfl, rfl, hx2, slt (by rw [← hd2.len]; exact c1), q2 α2 _ g3 t3 .non (by simp [Dr])⟩⟩
theorem pm_pop {o : Expr} {mo : Mini.M} (ho : PE X o (tM X.K E mo)) (h1 : attributeBase o "pop" X.env (eval o X.env) = eval o X.env := by rfl) (h2 : (apos.endLine == pos.line) = true := by rfl) :
    PE X (.Call (.Attribute o "pop" apos) [] [] pos) (tM X.K E (Mini.mPop mo)) :=
  (pe_bm0 PySem.F.plainAttrs_list PySem.F.slot_list_pop PySem.F.type_list_pop mt_pop ho h1 h2).to fun σ H Q ⟨P, α, e, s, hS, q⟩ =>
  ⟨P, α, e, s, hS, (Post.unbind q).imp fun d s1 α1 H1 g1 t1 q1 v hv => by
    cases d <;> simp only at q1 <;> first | exact q1.elim | skip
    rename_i k
    cases hk : s1[k]? with
    | none => rw [hk] at q1; exact q1.elim
    | some ob =>
      cases ob with
      | DI _ => rw [hk] at q1; exact q1.elim
      | DT _ => rw [hk] at q1; exact q1.elim
      | L ds =>
        rw [hk] at q1
        dsimp only at q1
        obtain ⟨b, hb, rfl, xs, hx, hd⟩ := own_ob t1 hv hk
        cases hl : ds[ds.length - 1]? with
        | none => rw [hl] at q1; exact q1.elim
        | some z =>
          rw [hl] at q1
          obtain ⟨y, hy, hz⟩ := hd.at hl
          have r : ObR X.K (imm H1 P α1) (.L ds.dropLast) (some (.lst xs.dropLast)) := ⟨_, rfl, hd.dropLast⟩
          obtain ⟨g3, t3⟩ := t1.chg hb (List.getElem?_eq_some_iff.mp hk).1 r
          exact ⟨.inl ⟨rfl, xs, .of hx⟩, b, xs, y, rfl, rfl, hx, by rw [← hd.len]; exact hy, q1 α1 _ g3 t3 y (g3.dr hz.nil_any)⟩⟩
theorem upd_of {f : List Mini.D → List Mini.D} {g : List V → List V} {r : V → List V → Hp → VK → Prop} {mo : Mini.M} (hf : ∀ {K G ds xs}, DrL K G [] ds xs → DrL K G [] (f ds) (g xs))
    (hr : ∀ (b : Addr) (xs : List V) (H : Hp) (Q : VK), H b = some (.lst xs) → Q .non (upd H b (.lst (g xs))) → r (.ref b) [] H Q) : ∀ σ H Q, tM X.K E (Mini.mUpd f mo) σ H Q → tBM0 X.K "list" r (tM X.K E mo) σ H Q := fun σ H Q ⟨P, α, e, s, hS, q⟩ =>
  ⟨P, α, e, s, hS, (Post.unbind q).imp fun d s1 α1 H1 g1 t1 q1 v hv => by
    cases d <;> simp only at q1 <;> first | exact q1.elim | skip
    rename_i k
    cases hk : s1[k]? with
    | none => rw [hk] at q1; exact q1.elim
    | some ob =>
      cases ob with
      | DI _ => rw [hk] at q1; exact q1.elim
      | DT _ => rw [hk] at q1; exact q1.elim
      | L ds =>
        rw [hk] at q1
        dsimp only at q1
        obtain ⟨b, hb, rfl, xs, hx, hd⟩ := own_ob t1 hv hk
        have r : ObR X.K (imm H1 P α1) (.L (f ds)) (some (.lst (g xs))) := ⟨_, rfl, hf hd⟩
        obtain ⟨g3, t3⟩ := t1.chg hb (List.getElem?_eq_some_iff.mp hk).1 r
        exact ⟨.inl ⟨rfl, xs, .of hx⟩, hr b xs H1 Q hx (q1 α1 _ g3 t3 .non (by simp [Dr]))⟩⟩
theorem pm_rev {o : Expr} {mo : Mini.M} (ho : PE X o (tM X.K E mo)) (h1 : attributeBase o "reverse" X.env (eval o X.env) = eval o X.env := by rfl) (h2 : (apos.endLine == pos.line) = true := by rfl) :
    PE X (.Call (.Attribute o "reverse" apos) [] [] pos) (tM X.K E (Mini.mRev mo)) :=
  (pe_bm0 PySem.F.plainAttrs_list PySem.F.slot_list_reverse PySem.F.type_list_reverse mt_reverse ho h1 h2).to (upd_of (g := List.reverse) (fun h => h.reverse) fun b xs H Q h q => ⟨b, xs, rfl, rfl, h, q⟩)
theorem pm_clear {o : Expr} {mo : Mini.M} (ho : PE X o (tM X.K E mo)) (h1 : attributeBase o "clear" X.env (eval o X.env) = eval o X.env := by rfl) (h2 : (apos.endLine == pos.line) = true := by rfl) :
    PE X (.Call (.Attribute o "clear" apos) [] [] pos) (tM X.K E (Mini.mClear mo)) :=
  (pe_bm0 PySem.F.plainAttrs_list PySem.F.slot_list_clear PySem.F.type_list_clear mt_clear ho h1 h2).to (upd_of (g := fun _ => []) (fun h => by simp [DrL]) fun b xs H Q h q => ⟨b, xs, rfl, rfl, h, q⟩)
/-- len of an owned dict -/
theorem pm_lenD {m : Mini.M} (hg : Gl X "len") (hm : X.mg "len" = none) (ha : PE X a (tM X.K E m)) (hs : starEach [a] X.env = (false, eval a X.env) :: starEach [] X.env := by rfl) :
    PE X (.Call (.Name "len" p) [a] [] pos) (tM X.K E (Mini.mLenD m)) := (pe_callB call_len_dT hg hm (by decide +kernel) (pa_cons ha pa_nil hs) (by decide) (by decide) hs).to fun σ H Q ⟨P, α, e, s, hS, q⟩ =>
  ⟨P, α, e, s, hS, (Post.unbind q).imp fun d s1 α1 H1 g1 t1 q1 v hv => by
    cases d <;> simp only at q1 <;> first | exact q1.elim | skip
    rename_i k
    cases hk : s1[k]? with
    | none => rw [hk] at q1; exact q1.elim
    | some ob =>
      cases ob with
      | DI _ => rw [hk] at q1; exact q1.elim
      | L _ => rw [hk] at q1; exact q1.elim
      | DT ks =>
        rw [hk] at q1
        obtain ⟨b, hb, rfl, hx⟩ := own_ob t1 hv hk
        rw [ObR] at hx
        exact ⟨b, _, rfl, hx, q1.here t1 _ (by simp [Dr])⟩⟩
theorem pm_dnewT : PE X (.Dict [] [] pos) (tM X.K E Mini.mOwnDT) := pe_dnewT.to fun σ H Q ⟨P, α, e, s, hS, q⟩ p hp => by
  obtain ⟨g2, t2, el⟩ := hS.st.newOwn (o := .DT []) (ho := .dT []) hp (by rw [ObR]; rfl)
  exact q _ _ g2 t2 _ (by rw [Dr]; exact ⟨p, el, rfl⟩)
theorem pm_dnewI : PE X (.Dict [] [] pos) (tM X.K E Mini.mOwnDI) := pe_dnewK.to fun σ H Q ⟨P, α, e, s, hS, q⟩ p hp => by
  obtain ⟨g2, t2, el⟩ := hS.st.newOwn (o := .DI []) (ho := .dK []) hp (by rw [ObR]; rfl)
  exact q _ _ g2 t2 _ (by rw [Dr]; exact ⟨p, el, rfl⟩)

/-! ### calls -/
def spP (K : PySem.W.Frag) (C : Nat → Addr) (n : Nat) (φ : List Mini.D → Mini.R Mini.D) : Sp := fun vs H Q E => vs.length = n ∧ ∃ (P : List Addr) (ds : List Mini.D), (∀ b ∈ P, H b ≠ none) ∧ DrL K (imm H P []) [] ds vs ∧
  match φ ds with
  | .ok d => ∀ v H', Ext H H' → Dr K (imm H' P []) [] d v → Q v H'
  | .exc c => ∀ oe H', Ext H H' → E (.ref (C c)) oe H'
  | .bad => False
def spG (K : PySem.W.Frag) (C : Nat → Addr) (n : Nat) (φ : Mini.F) : Sp := fun vs H Q E => vs.length = n ∧ ∃ (P α : List Addr) (s : Mini.Sto) (ds : List Mini.D), StR K P α s H ∧ DrL K (imm H P α) α ds vs ∧
  Post K (fun c oe H' => E (.ref (C c)) oe H') P α H (φ ds s) fun d s' α' H' => ∀ v, Dr K (imm H' P α') α' d v → Q v H'
variable {CX : CXT} {C : Nat → Addr} {n k : Nat} {f : Addr} {fd : FuncData} {ps : List Str} {x : Str} {EK : XK} {e : Expr} {es : List Expr}
theorem pm_call {φ : List Mini.D → Mini.R Mini.D} {ma : Mini.A} (F : FnOk X.prog X.w X.K X.mg X.base CX k f fd ps (spP X.K C (e :: es).length φ)) (hr : Room k X.A) (hg : Gl X x) (hm : X.mg x = some (.ref f)) (hk : PySem.W.keepIn X.K (.ref f) = true) (hb : Binds X.K fd ps [])
    (hx : Passes CX X EK) (hE : ∀ c oe H, E c oe H → EK (.ref (C c)) oe H) (ha : PA X (e :: es) (tA X.K E ma)) (hn : ∀ e' s ds s', ma e' s = .ok (ds, s') → ds.length = (e :: es).length) (hdb : (x == ("__debug__" : Str)) = false := by decide)
    (he : starEach (e :: es) X.env = (false, eval e X.env) :: starEach es X.env := by rfl) (hpl : (backTo pos (starEach es X.env)).any (·.1) = false := by rfl) :
    PE X (.Call (.Name x p) (e :: es) [] pos) (tM X.K E (Mini.mCall φ ma)) := (pe_call F hr hg hm hk hb .nil hx ha hdb he hpl).to fun σ H Q ⟨P, α, e, s, hS, q⟩ => by
  refine ⟨P, α, e, s, hS, ?_⟩
  replace q := Post.unbind q
  cases hma : ma e s with
  | bad => rw [hma] at q; exact q.elim
  | exc c => rw [hma] at q; exact q
  | ok pr =>
    rw [hma] at q
    intro α1 H1 g1 t1 vs hvs
    have q1 := q α1 H1 g1 t1
    obtain ⟨hc, q1⟩ := q1.unite
    rw [List.append_nil]
    refine ⟨by rw [← hvs.len]; exact hn e s pr.1 pr.2 hma, P ++ α1, pr.1, fun b hb => ?_, by rw [imm_app]; exact t1.chk hc hvs, ?_⟩
    · rcases List.mem_append.mp hb with hb | hb
      · exact t1.pt b hb
      · exact t1.there hb
    · cases hφ : φ pr.1 with
      | bad => rw [hφ] at q1; exact q1
      | exc c =>
        rw [hφ] at q1
        exact fun oe H' hx => hE c oe H' (q1 oe α1 H' (t1.ext hx).1)
      | ok d =>
        rw [hφ] at q1
        intro v H' hx hd
        rw [imm_app] at hd
        exact q1 α1 H' (t1.ext hx).1 (t1.ext hx).2 v hd.nil_any
theorem pm_callG {φ : Mini.F} {ma : Mini.A} (F : FnOk X.prog X.w X.K X.mg X.base CX k f fd ps (spG X.K C (e :: es).length φ)) (hr : Room k X.A) (hg : Gl X x) (hm : X.mg x = some (.ref f)) (hk : PySem.W.keepIn X.K (.ref f) = true) (hb : Binds X.K fd ps [])
    (hx : Passes CX X EK) (hE : ∀ c oe H, E c oe H → EK (.ref (C c)) oe H) (ha : PA X (e :: es) (tA X.K E ma)) (hn : ∀ e' s ds s', ma e' s = .ok (ds, s') → ds.length = (e :: es).length) (hdb : (x == ("__debug__" : Str)) = false := by decide)
    (he : starEach (e :: es) X.env = (false, eval e X.env) :: starEach es X.env := by rfl) (hpl : (backTo pos (starEach es X.env)).any (·.1) = false := by rfl) :
    PE X (.Call (.Name x p) (e :: es) [] pos) (tM X.K E (Mini.mCallG φ ma)) := (pe_call F hr hg hm hk hb .nil hx ha hdb he hpl).to fun σ H Q ⟨P, α, e, s, hS, q⟩ => by
  refine ⟨P, α, e, s, hS, ?_⟩
  replace q := Post.unbind q
  cases hma : ma e s with
  | bad => rw [hma] at q; exact q.elim
  | exc c => rw [hma] at q; exact q
  | ok pr =>
    rw [hma] at q
    intro α1 H1 g1 t1 vs hvs
    have q1 := q α1 H1 g1 t1
    rw [List.append_nil]
    refine ⟨by rw [← hvs.len]; exact hn e s pr.1 pr.2 hma, P, α1, pr.2, pr.1, t1, hvs, ?_⟩
    dsimp only at q1
    cases hφ : φ pr.1 pr.2 with
    | bad => rw [hφ] at q1; exact q1
    | exc c =>
      rw [hφ] at q1
      exact fun oe α' H' g => hE c oe H' (q1 oe α' H' g)
    | ok d =>
      rw [hφ] at q1
      exact q1
/-! ### a part, while what is owned stands still -/
theorem fz_dr {K : PySem.W.Frag} {P α : List Addr} {s : Mini.Sto} {H : Hp} (hs : StR K P α s H) {d d' : Mini.D} {v : V} (h : Dr K (imm H P α) α d v) (e : Mini.fzD s d = some d') : Dr K (imm H P []) [] d' v := by
  have x : Ext (imm H P α) (imm H P []) := fun b o q => by
    rw [imm_some] at q ⊢
    exact ⟨q.1, by simp, q.2.2⟩
  cases d with
  | own k =>
    simp only [Mini.fzD] at e
    cases hk : s[k]? with
    | none => rw [hk] at e; cases e
    | some o =>
      cases o with
      | DI _ => rw [hk] at e; cases e
      | DT _ => rw [hk] at e; cases e
      | L ds =>
        rw [hk] at e
        cases e
        obtain ⟨b, hb, rfl, xs, hx, hd⟩ := own_ob hs h hk
        rw [Dr]
        exact ⟨b, xs, rfl, imm_some.mpr ⟨hs.dis b (List.mem_of_getElem? hb), by simp, hx⟩, DrL.mono x (fun _ _ q => q) hd⟩
  | tup ds =>
    simp only [Mini.fzD] at e
    split at e
    · rename_i hf
      cases e
      have f : Mini.free (.tup ds) = true := by rw [Mini.free]; exact hf
      exact Dr.mono x (fun _ _ q => by simp at q) (Dr.free (α' := []) f h)
    · cases e
  | lst ds =>
    cases e
    rw [Dr] at h ⊢
    obtain ⟨a, xs, h1, h2, h3⟩ := h
    exact ⟨a, xs, h1, x _ _ h2, DrL.mono x (fun _ _ q => q) h3⟩
  | scr ns =>
    cases e
    rw [Dr] at h ⊢
    obtain ⟨a, h1, h2⟩ := h
    exact ⟨a, h1, x.sqL h2⟩
  | dic n =>
    cases e
    rw [Dr] at h ⊢
    obtain ⟨a, kvs, h1, h2, h3⟩ := h
    exact ⟨a, kvs, h1, x _ _ h2, h3⟩
  | non => cases e; rw [Dr] at h ⊢; exact h
  | bl _ => cases e; rw [Dr] at h ⊢; exact h
  | int _ => cases e; rw [Dr] at h ⊢; exact h
  | str _ => cases e; rw [Dr] at h ⊢; exact h
theorem Gr.all {P α : List Addr} {H H' : Hp} (g : Gr P [] H α H') : Ext H H' := fun b o q => by
  by_cases hb : b ∈ P
  · exact g.keep b hb o q
  · exact imm_sub _ _ _ _ _ (g.ext b o (imm_some.mpr ⟨hb, by simp, q⟩))
theorem flat_dr {K : PySem.W.Frag} {G G' : Hp} {α α' : List Addr} {d : Mini.D} {v : V} (f : Mini.flat d = true) (h : Dr K G α d v) : Dr K G' α' d v := by
  cases d <;> simp [Mini.flat] at f <;> rw [Dr] at h ⊢ <;> exact h
mutual
theorem noL_dr {K : PySem.W.Frag} {G G' : Hp} {α α' : List Addr} (e : ∀ a xs, G a = some (.tup xs) → G' a = some (.tup xs)) : ∀ {d : Mini.D} {v : V}, Mini.noL d = true → Dr K G α d v → Dr K G' α' d v
  | .non, v, _, h => by simpa [Dr] using h
  | .bl b, v, _, h => by simpa [Dr] using h
  | .int i, v, _, h => by simpa [Dr] using h
  | .str s, v, _, h => by simpa [Dr] using h
  | .tup ds, v, f, h => by
    rw [Dr] at h ⊢
    obtain ⟨a, xs, h1, h2, h3⟩ := h
    exact ⟨a, xs, h1, e _ _ h2, noLL_dr e (by simpa [Mini.noL] using f) h3⟩
  | .lst ds, v, f, h => by simp [Mini.noL] at f
  | .scr ns, v, f, h => by simp [Mini.noL] at f
  | .own k, v, f, h => by simp [Mini.noL] at f
  | .dic n, v, f, h => by simp [Mini.noL] at f
theorem noLL_dr {K : PySem.W.Frag} {G G' : Hp} {α α' : List Addr} (e : ∀ a xs, G a = some (.tup xs) → G' a = some (.tup xs)) : ∀ {ds : List Mini.D} {vs : List V}, Mini.noLL ds = true → DrL K G α ds vs → DrL K G' α' ds vs
  | [], [], _, h => by simp [DrL]
  | [], _ :: _, _, h => by simp [DrL] at h
  | _ :: _, [], _, h => by simp [DrL] at h
  | d :: ds, v :: vs, f, h => by
    rw [DrL] at h ⊢
    have f' : Mini.noL d = true ∧ Mini.noLL ds = true := by simpa [Mini.noLL] using f
    exact ⟨noL_dr e f'.1 h.1, noLL_dr e f'.2 h.2⟩
end
theorem StR.no_tup {K : PySem.W.Frag} {P α : List Addr} {s : Mini.Sto} {H : Hp} (hs : StR K P α s H) {a : Addr} {xs : List V} (h : H a = some (.tup xs)) : a ∉ α := fun ha => by
  obtain ⟨k, hk, rfl⟩ := List.getElem_of_mem ha
  have hk2 : k < s.length := by rw [hs.len]; exact hk
  have := hs.ob k s[k] α[k] (List.getElem?_eq_getElem hk2) (List.getElem?_eq_getElem hk)
  rw [h] at this
  cases ho : s[k] with
  | L ds => rw [ho, ObR] at this; obtain ⟨ys, h1, _⟩ := this; cases h1
  | DI ks => rw [ho, ObR] at this; cases this
  | DT ks => rw [ho, ObR] at this; cases this
theorem pm_fz {m : Mini.M} (h : PE X e (tM X.K E m)) : PE X e (tM X.K E (Mini.mFz m)) := h.to fun σ H Q ⟨P, α, e, s, hS, q⟩ => by
  refine ⟨P, [], e.map fun o => o.bind (Mini.fzD s), [], ⟨⟨by simp, by simp, hS.st.pt, rfl, by simp⟩, by simp [hS.env.1], fun i d he => ?_⟩, ?_⟩
  · rw [List.getElem?_map] at he
    obtain ⟨o, ho, he⟩ := Option.map_eq_some_iff.mp he
    obtain ⟨d0, hd0, he⟩ := Option.bind_eq_some_iff.mp he
    subst hd0
    obtain ⟨v, hv, hd⟩ := hS.env.2 i d0 ho
    exact ⟨v, hv, fz_dr hS.st hd he⟩
  · unfold Mini.mFz at q
    cases hm : m (e.map fun o => o.bind (Mini.fzD s)) [] with
    | bad => rw [hm] at q; exact q.elim
    | exc c =>
      rw [hm] at q
      exact fun oe α' H' g => q oe α H' (hS.st.ext g.all).1
    | ok pr =>
      rw [hm] at q
      intro α' H' g t v hv
      obtain ⟨g2, t2⟩ := hS.st.ext g.all
      obtain ⟨hf, q⟩ := Post.unite (c := Mini.noL pr.1 = true) q
      exact q α H' g2 t2 v (noL_dr (fun a xs h => by
        rw [imm_some] at h ⊢
        exact ⟨h.1, t2.no_tup h.2.2, h.2.2⟩) hf hv)
end
end Snd
end
section
namespace Snd
open PySem L2
/-! ### what is walked -/
def WalkD (K : PySem.W.Frag) (J : It) (ds : List Mini.D) (G : Hp) (α : List Addr) : Prop := Walk J ds.length (fun H2 => Ext G H2) (fun i H2 x H3 => H3 = H2 ∧ ∃ d, ds[i]? = some d ∧ Dr K G α d x)
def tI (K : PySem.W.Frag) (E : XC) (m : Mini.A) : TI := fun σ H R => ∃ P α e s, SR K P α e s σ H ∧ Post K E P α H (m e s) fun ds s' α' H' => ∀ J, WalkD K J ds (imm H' P α') α' → R J H'
section
variable {K : PySem.W.Frag} {G : Hp} {α : List Addr}
theorem wd_list {a : Addr} {ds : List Mini.D} {xs : List V} (h : G a = some (.lst xs)) (r : DrL K G α ds xs) : WalkD K (Itl K a) ds G α := by
  unfold WalkD
  rw [r.len]
  refine (walk_list (K := K) (a := a) (xs := xs)).mono (fun H q => .of (q _ _ h)) fun i H x H' hi _ y => ⟨y.1, ?_⟩
  have hl : i < ds.length := by rw [r.len]; exact hi
  exact ⟨ds[i], List.getElem?_eq_getElem hl, (drL_iff.mp r).2 i _ x (List.getElem?_eq_getElem hl) y.2⟩
theorem wd_tup {a : Addr} {ds : List Mini.D} {xs : List V} (h : G a = some (.tup xs)) (r : DrL K G α ds xs) : WalkD K (Itt K a) ds G α := by
  unfold WalkD
  rw [r.len]
  refine (walk_tup (K := K) (a := a) (xs := xs)).mono (fun H q => .of (q _ _ h)) fun i H x H' hi _ y => ⟨y.1, ?_⟩
  have hl : i < ds.length := by rw [r.len]; exact hi
  exact ⟨ds[i], List.getElem?_eq_getElem hl, (drL_iff.mp r).2 i _ x (List.getElem?_eq_getElem hl) y.2⟩
theorem wd_rev {a : Addr} {ds : List Mini.D} {xs : List V} (h : G a = some (.lst xs)) (r : DrL K G α ds xs) : WalkD K (Itv K a xs.length) ds.reverse G α := by
  unfold WalkD
  rw [List.length_reverse, r.len]
  refine (walk_rev (K := K) (a := a) (xs := xs)).mono (fun H q => .of (q _ _ h)) fun i H x H' hi _ y => ⟨y.1, ?_⟩
  have hl : ds.length - 1 - i < ds.length := by rw [r.len]; omega
  refine ⟨ds[ds.length - 1 - i], by rw [List.getElem?_reverse (by rw [r.len]; exact hi), List.getElem?_eq_getElem hl], (drL_iff.mp r).2 (ds.length - 1 - i) _ x (List.getElem?_eq_getElem hl) (by rw [r.len]; exact y.2)⟩
theorem walk_revT {a : Addr} {xs : List V} : Walk (RT.ItvT K a xs.length) xs.length (fun H => SqT K H a xs) (fun i H x H' => H' = H ∧ xs[xs.length - 1 - i]? = some x) :=
  ⟨fun i _ hi q => ⟨hi, xs, xs[xs.length - 1 - i]'(by omega), q, by simp [show xs.length - 1 - i < xs.length by omega]⟩, fun _ _ => Nat.le_refl _, fun _ _ _ _ _ q y => ⟨y.1, y.2 xs q⟩⟩
theorem wd_revT {a : Addr} {ds : List Mini.D} {xs : List V} (h : G a = some (.tup xs)) (r : DrL K G α ds xs) : WalkD K (RT.ItvT K a xs.length) ds.reverse G α := by
  unfold WalkD
  rw [List.length_reverse, r.len]
  refine (walk_revT (K := K) (a := a) (xs := xs)).mono (fun H q => .of (q _ _ h)) fun i H x H' hi _ y => ⟨y.1, ?_⟩
  have hl : ds.length - 1 - i < ds.length := by rw [r.len]; omega
  refine ⟨ds[ds.length - 1 - i], by rw [List.getElem?_reverse (by rw [r.len]; exact hi), List.getElem?_eq_getElem hl], (drL_iff.mp r).2 (ds.length - 1 - i) _ x (List.getElem?_eq_getElem hl) (by rw [r.len]; exact y.2)⟩
theorem wd_str {z : List Nat} : WalkD K (Its ⟨z.toArray⟩) (Mini.sgn z) G α := by
  unfold WalkD Mini.sgn
  rw [List.length_map]
  refine (walk_str (z := ⟨z.toArray⟩)).mono (fun H q => trivial) fun i H x H' hi _ y => ⟨y.1, ?_⟩
  obtain ⟨c, hc, rfl⟩ := y.2
  refine ⟨.str [c], ?_, by simp [Dr]⟩
  rw [List.getElem?_map]
  have : z[i]? = some c := by simpa using hc
  rw [this]; rfl
theorem wd_rng {lo : Int} {n : Nat} : WalkD K (Itr lo n) (Mini.rng lo n) G α := by
  unfold WalkD Mini.rng
  rw [List.length_map, List.length_range]
  refine (walk_range (lo := lo) (n := n)).mono (fun H q => trivial) fun i H x H' hi _ y => ⟨y.1, ?_⟩
  refine ⟨.int (lo + (i : Nat)), ?_, by rw [Dr]; exact y.2⟩
  rw [List.getElem?_map, List.getElem?_range hi]
  rfl
end
section
variable {X : Cx} {E : XC} {tg : Expr} {p pos : Pos}
theorem im_seq {e : Expr} {m : Mini.M} (h : PE X e (tM X.K E m)) : PI X tg e (tI X.K E (Mini.iSeq m)) := ((pi_list h).or ((pi_tup h).or (pi_str h))).to fun σ H R ⟨P, α, e, s, hS, q⟩ => by
  unfold Mini.iSeq at q
  cases hm : m e s with
  | bad => rw [hm] at q; exact q.elim
  | exc c => rw [hm] at q; exact .inl ⟨P, α, e, s, hS, by rw [hm]; exact q⟩
  | ok pr =>
    rw [hm] at q
    obtain ⟨d, s1⟩ := pr
    obtain ⟨ds, hw, q⟩ := Post.unof (f := fun ds => Mini.R.ok (ds, s1)) q
    cases d with
    | lst es =>
      cases hw
      refine .inl ⟨P, α, e, s, hS, by
        rw [hm]
        intro α1 H1 g t v hv
        rw [Dr] at hv
        obtain ⟨a, xs, rfl, h1, h2⟩ := hv
        exact ⟨a, rfl, ⟨xs, .of (imm_sub _ _ _ _ _ h1)⟩, q α1 H1 g t _ (wd_list h1 h2.nil_any)⟩⟩
    | tup es =>
      cases hw
      refine .inr (.inl ⟨P, α, e, s, hS, by
        rw [hm]
        intro α1 H1 g t v hv
        rw [Dr] at hv
        obtain ⟨a, xs, rfl, h1, h2⟩ := hv
        exact ⟨a, rfl, ⟨xs, .of (imm_sub _ _ _ _ _ h1)⟩, q α1 H1 g t _ (wd_tup h1 h2)⟩⟩)
    | str z =>
      cases hw
      refine .inr (.inr ⟨P, α, e, s, hS, by
        rw [hm]
        intro α1 H1 g t v hv
        rw [Dr] at hv
        subst hv
        exact ⟨_, rfl, q α1 H1 g t _ wd_str⟩⟩)
    | _ => cases hw
theorem im_rev {e : Expr} {m : Mini.M} (hg : Gl X "reversed") (hmg : X.mg "reversed" = none) (h : PE X e (tM X.K E m)) (hs : starEach [e] X.env = (false, eval e X.env) :: starEach [] X.env := by rfl) : PI X tg (.Call (.Name "reversed" p) [e] [] pos) (tI X.K E (Mini.iRev m)) := (RT.pi_revA hg hmg h hs).to fun σ H R ⟨P, α, e, s, hS, q⟩ => by
  unfold Mini.iRev at q
  refine ⟨P, α, e, s, hS, ?_⟩
  cases hm : m e s with
  | bad => rw [hm] at q; exact q.elim
  | exc c => rw [hm] at q; exact q
  | ok pr =>
    rw [hm] at q
    obtain ⟨d, s1⟩ := pr
    obtain ⟨ds, hw, q⟩ := Post.unof (f := fun ds => Mini.R.ok (ds, s1)) q
    intro α1 H1 g t v hv
    cases d with
    | lst es =>
      cases hw
      rw [Dr] at hv
      obtain ⟨a, xs, rfl, h1, h2⟩ := hv
      exact ⟨a, xs, rfl, .inl ⟨.of (imm_sub _ _ _ _ _ h1), q α1 H1 g t _ (wd_rev h1 h2.nil_any)⟩⟩
    | tup es =>
      cases hw
      rw [Dr] at hv
      obtain ⟨a, xs, rfl, h1, h2⟩ := hv
      exact ⟨a, xs, rfl, .inr ⟨.of (imm_sub _ _ _ _ _ h1), q α1 H1 g t _ (wd_revT h1 h2)⟩⟩
    | _ => cases hw
theorem im_r1 {e : Expr} {m : Mini.M} (hg : Gl X "range") (hmg : X.mg "range" = none) (h : PE X e (tM X.K E m)) (hs : starEach [e] X.env = [(false, eval e X.env)] := by rfl) : PI X tg (.Call (.Name "range" p) [e] [] pos) (tI X.K E (Mini.iR1 m)) := (pi_range1 hg hmg (pa_cons h pa_nil hs) hs).to fun σ H R ⟨P, α, e, s, hS, q⟩ =>
  ⟨P, α, e, s, hS, (Post.unbind q).imp fun d s1 α1 H1 g1 t1 q1 v hv => by
    cases d <;> simp only at q1 <;> first | exact q1.elim | skip
    rw [Dr] at hv
    subst hv
    obtain ⟨⟨c1, c2⟩, q1⟩ := q1.unite
    exact ⟨_, rfl, c1, c2, q1.here t1 _ wd_rng⟩⟩
theorem im_r2 {e e' : Expr} {m m' : Mini.M} (hg : Gl X "range") (hmg : X.mg "range" = none) (h : PE X e (tM X.K E m)) (h' : PE X e' (tM X.K E m')) (hs : starEach [e, e'] X.env = [(false, eval e X.env), (false, eval e' X.env)] := by rfl) (hs2 : starEach [e'] X.env = [(false, eval e' X.env)] := by rfl) :
    PI X tg (.Call (.Name "range" p) [e, e'] [] pos) (tI X.K E (Mini.iR2 m m')) := (pi_range2 hg hmg (pa_cons h (pa_cons h' pa_nil hs2) (by rw [hs, hs2])) hs hs2).to fun σ H R ⟨P, α, e, s, hS, q⟩ =>
  ⟨P, α, e, s, hS, (Post.unbind q).imp fun d s1 α1 H1 g1 t1 q1 v hv => ⟨P, α1, e, s1, hS.gr g1 t1, (Post.unbind q1).imp fun d2 s2 α2 H2 g2 t2 q2 u hu => by
    dsimp only at q2
    cases d <;> cases d2 <;> simp only at q2 <;> first | exact q2.elim | skip
    rw [Dr] at hv hu
    subst hv; subst hu
    obtain ⟨⟨c1, c2, c3, c4⟩, q2⟩ := q2.unite
    exact ⟨_, _, rfl, ⟨c1, c2, c3, c4⟩, q2.here t2 _ wd_rng⟩⟩⟩
end

/-! ### a comprehension -/
theorem nox_bad {β γ : Type} {r : Mini.R β} {f : β → Mini.R γ} {x : γ} (h : r.nox.bind f = .ok x) : ∃ p, r = .ok p ∧ f p = .ok x := by
  cases r with
  | ok p => exact ⟨p, rfl, h⟩
  | exc c => cases h
  | bad => cases h
theorem bind_ok {β γ : Type} {r : Mini.R β} {f : β → Mini.R γ} {x : γ} (h : r.bind f = .ok x) : ∃ p, r = .ok p ∧ f p = .ok x := by
  cases r with
  | ok p => exact ⟨p, rfl, h⟩
  | exc c => cases h
  | bad => cases h
theorem lcF_exc {i : Nat} {t : Mini.T} {m : Mini.M} {e : Mini.Env} : ∀ {ds : List Mini.D} {s : Mini.Sto} {c : Nat}, Mini.lcF i t m e ds s ≠ .exc c
  | [], s, c => by simp [Mini.lcF]
  | d :: ds, s, c => by
    unfold Mini.lcF
    cases t (e.set i (some d)) s with
    | bad => simp [Mini.R.nox]
    | exc c => simp [Mini.R.nox]
    | ok p =>
      simp only [Mini.R.nox_ok, Mini.R.bind_ok]
      split
      · cases m (e.set i (some d)) p.2 with
        | bad => simp [Mini.R.nox]
        | exc c => simp [Mini.R.nox]
        | ok q =>
          simp only [Mini.R.nox_ok, Mini.R.bind_ok]
          split
          · cases h : Mini.lcF i t m e ds q.2 with
            | bad => simp
            | exc c => exact absurd h lcF_exc
            | ok r => simp
          · simp
      · exact lcF_exc
section
variable {K : PySem.W.Frag} {P α α' : List Addr} {s : Mini.Sto} {H H' : Hp}
theorem Post.ok_of {E : XC} {β : Type} {r : Mini.R (β × Mini.Sto)} {x : β × Mini.Sto} {k : β → Mini.Sto → List Addr → Hp → Prop} (h : r = .ok x) (f : ∀ α1 H1, Gr P α H α1 H1 → StR K P α1 x.2 H1 → k x.1 x.2 α1 H1) : Post K E P α H r k := by
  subst h; exact f
end
section
variable {X : Cx} {E : XC} {pos : Pos}
/-- one more protected address -/
theorem StR.prot {K : PySem.W.Frag} {P α : List Addr} {s : Mini.Sto} {H : Hp} (h : StR K P α s H) {D : Addr} {o : HO} (hD : H D = none) : StR K (D :: P) α s (upd H D o) := by
  have n1 : D ∉ P := fun z => h.pt D z hD
  have n2 : D ∉ α := fun z => h.there z hD
  have x : Ext (imm H P α) (imm (upd H D o) (D :: P) α) := fun b u q => by
    rw [imm_some] at q ⊢
    have : b ≠ D := ne_of_none q.2.2 hD
    exact ⟨by simp [this, q.1], q.2.1, by rw [upd_ne this]; exact q.2.2⟩
  refine ⟨h.nd, fun a ha => ?_, fun b hb => ?_, h.len, fun k u a h1 h2 => ?_⟩
  · have : a ≠ D := fun z => n2 (z ▸ ha)
    simp [this, h.dis a ha]
  · by_cases hb2 : b = D
    · subst hb2; rw [upd_same]; simp
    · rw [upd_ne hb2]
      rcases List.mem_cons.mp hb with z | z
      · exact absurd z hb2
      · exact h.pt b z
  · have ha : a ∈ α := List.mem_of_getElem? h2
    rw [upd_ne (show a ≠ D from fun z => n2 (z ▸ ha))]
    exact (h.ob k u a h1 h2).mono x
/-- the protected list grows by the machine's own hand -/
theorem StR.grow {K : PySem.W.Frag} {P α : List Addr} {s : Mini.Sto} {H : Hp} {D : Addr} (h : StR K (D :: P) α s H) (o : HO) : imm (upd H D o) (D :: P) α = imm H (D :: P) α ∧ StR K (D :: P) α s (upd H D o) := by
  have ei : imm (upd H D o) (D :: P) α = imm H (D :: P) α := by
    funext b
    unfold imm
    split
    · rfl
    · rename_i q
      rw [upd_ne (show b ≠ D from fun z => q (.inl (by simp [z])))]
  refine ⟨ei, h.nd, h.dis, fun b hb => ?_, h.len, fun k u a h1 h2 => ?_⟩
  · by_cases hb2 : b = D
    · subst hb2; rw [upd_same]; simp
    · rw [upd_ne hb2]; exact h.pt b hb
  · have ha : a ∈ α := List.mem_of_getElem? h2
    have : a ≠ D := fun z => h.dis a ha (by simp [z])
    rw [upd_ne this, ei]
    exact h.ob k u a h1 h2
/-- the comprehension's state ahead of turn j -/
structure Lc (K : PySem.W.Frag) (P α1 : List Addr) (H1 : Hp) (D : Addr) (i : Nat) (t : Mini.T) (m : Mini.M) (e : Mini.Env) (ds : List Mini.D) (tot : Mini.R (List Mini.D × Mini.Sto)) (j : Nat) (α : List Addr) (s : Mini.Sto) (xs : List V) (ys : List Mini.D) (H : Hp) : Prop where
  st : StR K (D :: P) α s H
  pre : ∀ (k : Nat) a, α1[k]? = some a → α[k]? = some a
  ext : Ext (imm H1 P α1) (imm H (D :: P) α)
  keep : ∀ b ∈ P, ∀ o, H1 b = some o → H b = some o
  at' : H D = some (.lst xs)
  len : xs.length ≤ j
  dr : DrL K (imm H (D :: P) α) [] ys xs
  tot : tot = (Mini.lcF i t m e (ds.drop j) s).bind fun r => .ok (ys ++ r.1, r.2)
theorem EnvR.mono {K : PySem.W.Frag} {G G' : Hp} {α α' : List Addr} {e : Mini.Env} {σ : L2.St} (h : EnvR K G α e σ) (x : Ext G G') (p : ∀ (k : Nat) a, α[k]? = some a → α'[k]? = some a) : EnvR K G' α' e σ :=
  ⟨h.1, fun i d q => let ⟨v, h1, h2⟩ := h.2 i d q; ⟨v, h1, h2.mono x p⟩⟩
theorem StR.unprot {K : PySem.W.Frag} {P α : List Addr} {s : Mini.Sto} {H : Hp} {D : Addr} (h : StR K (D :: P) α s H) : Ext (imm H (D :: P) α) (imm H P α) ∧ StR K P α s H := by
  have x : Ext (imm H (D :: P) α) (imm H P α) := fun b o q => by
    rw [imm_some] at q ⊢
    exact ⟨fun z => q.1 (List.mem_cons_of_mem _ z), q.2⟩
  exact ⟨x, h.nd, fun a ha z => h.dis a ha (List.mem_cons_of_mem _ z), fun b hb => h.pt b (List.mem_cons_of_mem _ hb), h.len, fun k u a h1 h2 => (h.ob k u a h1 h2).mono x⟩
theorem bind_id {β γ : Type} (r : Mini.R (List β × γ)) : (r.bind fun r => .ok ([] ++ r.1, r.2)) = r := by cases r <;> rfl
theorem bind_app {β γ : Type} (r : Mini.R (List β × γ)) (ys : List β) (y : β) : ((r.bind fun r => .ok (y :: r.1, r.2)).bind fun r => .ok (ys ++ r.1, r.2)) = r.bind fun r => .ok ((ys ++ [y]) ++ r.1, r.2) := by cases r <;> simp
theorem lc_to {i : Nat} {mi : Mini.A} {t : Mini.T} {m : Mini.M} : ∀ σ H Q, tM X.K E (Mini.mLc i mi t m) σ H Q → tLc (tI X.K E mi) (gName i) (tT X.K E00 t) (tM X.K E00 m) [i] σ H Q := by
  rintro σ H Q ⟨P, α, e, s, hS, q⟩
  refine ⟨P, α, e, s, hS, (Post.unbind q).imp fun ds s1 α1 H1 g1 t1 q1 J hJ D hD => ?_⟩
  obtain ⟨hl, q1⟩ := q1.unite
  dsimp only at hl q1
  have nP : D ∉ P := fun z => t1.pt D z hD
  refine lc_it hJ (fun j Hj => ∃ αj sj xs ys, Lc X.K P α1 H1 D i t m e ds (Mini.lcF i t m e ds s1) j αj sj xs ys Hj) ?_ ?_ ?_ ?_
  · refine ⟨α1, s1, [], [], t1.prot hD, fun _ _ q => q, fun b o q => ?_, fun b hb o q => by rw [upd_ne (ne_of_none q hD)]; exact q, upd_same, Nat.le_refl _, by simp [DrL], by rw [List.drop_zero, bind_id]⟩
    rw [imm_some] at q ⊢
    have : b ≠ D := ne_of_none q.2.2 hD
    exact ⟨by simp [this, q.1], q.2.1, by rw [upd_ne this]; exact q.2.2⟩
  · rintro j Hj _ ⟨αj, sj, xs, ys, L⟩
    exact L.ext.trans (imm_sub _ _ _)
  · rintro j v Hj Hj' hj ⟨αj, sj, xs, ys, L⟩ ⟨rfl, d, hd, hdv⟩
    have hw : (wipe σ [i]).set i (some v) = σ.set i (some v) := by simp [wipe, List.set_set]
    show wipe ((wipe σ [i]).set i (some v)) [i] = wipe σ [i] ∧ _
    refine ⟨by simp [wipe, List.set_set], ?_⟩
    rw [hw]
    have hdrop : ds.drop j = d :: ds.drop (j + 1) := by
      obtain ⟨h1, h2⟩ := List.getElem?_eq_some_iff.mp hd
      rw [← h2]
      exact List.drop_eq_getElem_cons h1
    have ht := L.tot
    rw [hdrop, Mini.lcF] at ht
    cases htot : Mini.lcF i t m e ds s1 with
    | bad => rw [htot] at q1; exact q1.elim
    | exc c => exact absurd htot lcF_exc
    | ok r =>
      rw [htot] at ht
      obtain ⟨r0, hr0, hr1⟩ := bind_ok ht.symm
      obtain ⟨p, hp, hr0⟩ := nox_bad hr0
      have env1 : EnvR X.K (imm Hj' (D :: P) αj) αj (e.set i (some d)) (σ.set i (some v)) := ((hS.env.gr g1).mono L.ext L.pre).set (hdv.mono L.ext L.pre)
      refine ⟨D :: P, αj, e.set i (some d), sj, ⟨L.st, env1⟩, Post.ok_of hp fun α2 H2 g2 t2 => ?_⟩
      have D2 : H2 D = some (.lst xs) := g2.keep D List.mem_cons_self _ L.at'
      split at hr0
      · rename_i hb
        dsimp only
        rw [if_pos hb]
        obtain ⟨y, hy, hr0⟩ := nox_bad hr0
        split at hr0
        · rename_i hck
          refine ⟨D :: P, α2, e.set i (some d), p.2, ⟨t2, env1.gr g2⟩, Post.ok_of hy fun α3 H3 g3 t3 u hu => ?_⟩
          have D3 : H3 D = some (.lst xs) := g3.keep D List.mem_cons_self _ D2
          obtain ⟨e1, t4⟩ := t3.grow (.lst (xs ++ [u]))
          have hl' : ds.length ≤ 16777216 := hl
          refine ⟨xs, D3, slt (by have := L.len; omega), α3, y.2, xs ++ [u], ys ++ [y.1], t4, fun k a z => g3.pre k a (g2.pre k a (L.pre k a z)), ?_, fun b hb' o z => ?_, upd_same, by simp; exact L.len, ?_, ?_⟩
          · rw [e1]; exact L.ext.trans (g2.ext.trans g3.ext)
          · rw [upd_ne (show b ≠ D from fun w => nP (w ▸ hb'))]
            exact g3.keep b (List.mem_cons_of_mem _ hb') o (g2.keep b (List.mem_cons_of_mem _ hb') o (L.keep b hb' o z))
          · rw [e1]
            refine (DrL.mono (g2.ext.trans g3.ext) (fun _ _ q => q) L.dr).append ?_
            have := t3.chk (ds := [y.1]) (xs := [u]) hck (by simp only [DrL]; exact ⟨hu, trivial⟩)
            exact this
          · rw [ht, hp]
            simp only [Mini.R.nox_ok, Mini.R.bind_ok, hb, if_true, hy, hck]
            exact bind_app _ _ _
        · cases hr0
      · rename_i hb
        dsimp only
        rw [if_neg hb]
        refine ⟨α2, p.2, xs, ys, t2, fun k a z => g2.pre k a (L.pre k a z), L.ext.trans g2.ext, fun b hb' o z => g2.keep b (List.mem_cons_of_mem _ hb') o (L.keep b hb' o z), D2, by have := L.len; omega, DrL.mono g2.ext (fun _ _ q => q) L.dr, ?_⟩
        rw [ht, hp]
        simp only [Mini.R.nox_ok, Mini.R.bind_ok, hb, if_false]
        rfl
  · rintro Hn ⟨αn, sn, xs, ys, L⟩
    have ht := L.tot
    rw [List.drop_length, Mini.lcF] at ht
    simp only [Mini.R.bind_ok, List.append_nil] at ht
    rw [ht] at q1
    obtain ⟨x1, t5⟩ := L.st.unprot
    refine q1 αn Hn ⟨L.pre, L.ext.trans x1, L.keep⟩ t5 _ ?_
    rw [Dr]
    exact ⟨D, xs, rfl, imm_some.mpr ⟨nP, fun z => L.st.dis D z List.mem_cons_self, L.at'⟩, DrL.mono x1 (fun _ _ q => q) L.dr⟩
theorem pm_lc {elt tg iter : Expr} {ifs : List Expr} {scope : Scope} {x : Str} {i : Nat} {mi : Mini.A} {t : Mini.T} {m : Mini.M} (hc : X.calm = true) (hN : X.N.Nodup) (hi : PI X tg iter (tI X.K E mi)) (ok : BlkOk X.N X.env.scope scope [(x, i)])
    (hg : ∀ (s : Shared) (H : Hp) (C : Addr) (cl : List (Str × Addr)) (fp : List Addr), PG (X.blk s H scope (compEnvC scope cl C X.env) fp) tg (gName i)) (ht : ∀ (s : Shared) (H : Hp) (C : Addr) (cl : List (Str × Addr)) (fp : List Addr), PTs (X.blk s H scope (compEnvC scope cl C X.env) fp) ifs (tT X.K E00 t))
    (he : ∀ (s : Shared) (H : Hp) (C : Addr) (cl : List (Str × Addr)) (fp : List Addr), PE (X.blk s H scope (compEnvC scope cl C X.env) fp) elt (tM X.K E00 m)) (hs : ∀ x, foldedSetIterable iter X.env x = pure x := by intro _; rfl) :
    PE X (.ListComp elt [⟨tg, iter, ifs, 0⟩] scope pos) (tM X.K E (Mini.mLc i mi t m)) := (pe_lc hc hN hi ok hg ht he hs).to lc_to
theorem sm_setLc {elt tg iter : Expr} {ifs : List Expr} {scope : Scope} {x y : Str} {i j : Nat} {mi : Mini.A} {t : Mini.T} {m : Mini.M} {py spos : Pos} (hy : X.N[j]? = some y) (hyl : X.env.scope.names.lookup y = some .local)
    (hsw : swapsWith (.ListComp elt [⟨tg, iter, ifs, 0⟩] scope pos) (some (.Name y py)) spos.line X.env = pure true)
    (hc : X.calm = true) (hN : X.N.Nodup) (hi : PI X tg iter (tI X.K E mi)) (ok : BlkOk X.N X.env.scope scope [(x, i)])
    (hg : ∀ (s : Shared) (H : Hp) (C : Addr) (cl : List (Str × Addr)) (fp : List Addr), PG (X.blk s H scope (compEnvC scope cl C X.env) fp) tg (gName i)) (ht : ∀ (s : Shared) (H : Hp) (C : Addr) (cl : List (Str × Addr)) (fp : List Addr), PTs (X.blk s H scope (compEnvC scope cl C X.env) fp) ifs (tT X.K E00 t))
    (he : ∀ (s : Shared) (H : Hp) (C : Addr) (cl : List (Str × Addr)) (fp : List Addr), PE (X.blk s H scope (compEnvC scope cl C X.env) fp) elt (tM X.K E00 m)) (hs : ∀ x, foldedSetIterable iter X.env x = pure x := by intro _; rfl) :
    PS X (.Assign [.Name y py] (.ListComp elt [⟨tg, iter, ifs, 0⟩] scope pos) spos) (tS X.K E (Mini.sSet j (Mini.mLc i mi t m))) :=
  (ps_setLc hc hN hy hyl hsw hi ok hg ht he hs).to fun D σ H ⟨P, α, e, s, hS, q⟩ => lc_to (X := X) (E := E) σ H _ ⟨P, α, e, s, hS, (Post.unbind q).imp fun d s1 α1 H1 g1 t1 q1 v hv => by
    show D.nx (σ.set j (some v)) H1
    exact q1.here t1 _ ((hS.gr g1 t1).set hv)⟩
theorem sts_nil : PTs X [] (tT X.K E Mini.tYes) := ⟨fun pins s σ H Q I ⟨P, α, e, s', hS, q⟩ => pts_nil.run pins s σ H Q I (q.here hS.st)⟩
theorem sts_one {c : Expr} {t : Mini.T} (h : PT X c (tT X.K E t)) : PTs X [c] (tT X.K E t) := pts_one h

/-! ### statements -/
variable {st : Stmt} {rest : List Stmt} {e : Expr}
theorem ss_nil : PSs X [] (tS X.K E Mini.sNil) := pss_nil.to fun D σ H ⟨P, α, e, s, hS, q⟩ => q.here hS.st σ hS
theorem ss_cons {m1 m2 : Mini.S} (h1 : PS X st (tS X.K E m1)) (h2 : PSs X rest (tS X.K E m2)) : PSs X (st :: rest) (tS X.K E (Mini.sCons m1 m2)) := (pss_cons h1 h2).to fun D σ H ⟨P, α, e, s, hS, q⟩ =>
  ⟨P, α, e, s, hS, (Post.unbind q).imp fun o s1 α1 H1 g1 t1 q1 => by
    cases o with
    | nx e' => exact fun σ' hS' => ⟨P, α1, e', s1, hS', q1⟩
    | rt d => exact q1.here t1
    | bk e' => exact q1.here t1
    | ct e' => exact q1.here t1⟩
theorem ss_one {m1 : Mini.S} (h1 : PS X st (tS X.K E m1)) : PSs X [st] (tS X.K E m1) := pss_one h1
theorem sm_pass : PS X (.Pass pos) (tS X.K E Mini.sPs) := ps_pass.to fun D σ H ⟨P, α, e, s, hS, q⟩ => q.here hS.st σ hS
theorem sm_ct : PS X (.Continue pos) (tS X.K E Mini.sCt) := ps_continue.to fun D σ H ⟨P, α, e, s, hS, q⟩ => q.here hS.st σ hS
theorem sm_bk : PS X (.Break pos) (tS X.K E Mini.sBk) := ps_break.to fun D σ H ⟨P, α, e, s, hS, q⟩ => q.here hS.st σ hS
theorem sm_bad : PS X st (tS X.K E Mini.sBad) := ps_never.to fun D σ H ⟨P, α, e, s, hS, q⟩ => q
theorem sm_doc {z : Str} {j : Nat} {p2 : Pos} : PS X (.Expr (.Constant (.str z) j pos) p2) (tS X.K E Mini.sPs) := ps_doc.to fun D σ H ⟨P, α, e, s, hS, q⟩ => q.here hS.st σ hS
theorem sm_ex {m : Mini.M} (h : PE X e (tM X.K E m)) (hs : swapsWith e none pos.line X.env = pure false := by rfl) : PS X (.Expr e pos) (tS X.K E (Mini.sEx m)) := (ps_expr h hs).to fun D σ H ⟨P, α, e, s, hS, q⟩ =>
  ⟨P, α, e, s, hS, (Post.unbind q).imp fun d s1 α1 H1 g1 t1 q1 v hv => q1.here t1 σ (hS.gr g1 t1)⟩
theorem sm_ret {m : Mini.M} (h : PE X e (tM X.K E m)) : PS X (.Return (some e) pos) (tS X.K E (Mini.sRet m)) := (ps_ret h).to fun D σ H ⟨P, α, e, s, hS, q⟩ =>
  ⟨P, α, e, s, hS, (Post.unbind q).imp fun d s1 α1 H1 g1 t1 q1 v hv => q1.here t1 v hv⟩
theorem sm_if {c : Expr} {a b : List Stmt} {t : Mini.T} {m1 m2 : Mini.S} (hc : PT X c (tT X.K E t)) (ha : PSs X a (tS X.K E m1)) (hb : PSs X b (tS X.K E m2)) : PS X (.If c a b pos) (tS X.K E (Mini.sIf t m1 m2)) := (ps_if hc ha hb).to fun D σ H ⟨P, α, e, s, hS, q⟩ =>
  ⟨P, α, e, s, hS, (Post.unbind q).imp fun d s1 α1 H1 g1 t1 q1 => by
    dsimp only at q1 ⊢
    split
    · rename_i hk
      simp only [hk, if_true] at q1
      exact ⟨P, α1, e, s1, hS.gr g1 t1, q1⟩
    · rename_i hk
      simp only [hk, if_false] at q1
      exact ⟨P, α1, e, s1, hS.gr g1 t1, q1⟩⟩
theorem sm_set {x : Str} {i : Nat} {p : Pos} {m : Mini.M} (hN : X.N.Nodup) (hi : X.N[i]? = some x) (hx : Loc X.env.scope x) (h : PE X e (tM X.K E m)) (hf : X.fn x = true ∨ X.env.scope.names.lookup x = some .local := by first | exact .inl rfl | exact .inr rfl | assumption)
    (hs : swapsWithSole [.Name x p] e pos.line X.env = pure false := by rfl) (hw : swappedStores [.Name x p] e X.env = pure none := by rfl) (h1 : (assignEach [.Name x p] X.env).map (·.2) = [assign (.Name x p) X.env] := by rfl) :
    PS X (.Assign [.Name x p] e pos) (tS X.K E (Mini.sSet i m)) := (ps_asg h (pg_name hN hi hx hf) hs hw h1).to fun D σ H ⟨P, α, e, s, hS, q⟩ =>
  ⟨P, α, e, s, hS, (Post.unbind q).imp fun d s1 α1 H1 g1 t1 q1 v hv => by
    show D.nx (σ.set i (some v)) H1
    exact q1.here t1 _ ((hS.gr g1 t1).set hv)⟩
/-- x = [a, b, ..], ours alone from here on -/
theorem sm_ownL {x : Str} {i : Nat} {p p2 : Pos} {es : List Expr} {ma : Mini.A} (hN : X.N.Nodup) (hi : X.N[i]? = some x) (hx : Loc X.env.scope x) (h : PA X es (tA X.K E ma)) (hf : X.fn x = true ∨ X.env.scope.names.lookup x = some .local := by first | exact .inl rfl | exact .inr rfl | assumption)
    (hs : swapsWithSole [.Name x p] (.List es p2) pos.line X.env = pure false := by rfl) (hw : swappedStores [.Name x p] (.List es p2) X.env = pure none := by rfl) (h1 : (assignEach [.Name x p] X.env).map (·.2) = [assign (.Name x p) X.env] := by rfl) :
    PS X (.Assign [.Name x p] (.List es p2) pos) (tS X.K E (Mini.sOwnL i ma)) := (ps_asg (pe_lst h) (pg_name hN hi hx hf) hs hw h1).to fun D σ H ⟨P, α, e, s, hS, q⟩ =>
  ⟨P, α, e, s, hS, (Post.unbind q).imp fun ds s1 α1 H1 g1 t1 q1 vs hvs => by
    obtain ⟨⟨hl, hfr⟩, q1⟩ := q1.unite
    refine ⟨l100 (by rw [← hvs.len]; exact hl), fun p hp => ?_⟩
    obtain ⟨g2, t2, el⟩ := t1.newOwn (o := .L ds) (ho := .lst vs) hp ⟨vs, rfl, DrL.free hfr hvs⟩
    show D.nx (σ.set i (some (.ref p))) _
    exact q1 _ _ g2 t2 _ (((hS.gr g1 t1).gr g2 t2).set (by rw [Dr]; exact ⟨p, el, rfl⟩))⟩
/-! ### o[i] = v -/
def rSetD : V → V → V → Hp → (Hp → Prop) → Prop := fun o i v H Q => ∃ a H4, o = .ref a ∧ DPut H a i v H4 ∧ Q H4
theorem set_dict (hu : X.A.units + 64 < cLine) : PSet X rSetD := by
  intro pins s σ H o i v ov iv u Q I ro ri rv h
  obtain ⟨a, H4, rfl, g, q⟩ := h
  obtain rfl : ov = Value.ref a := ro
  exact d_setItem (by omega) I g ri rv fun s4 I4 => ⟨H4, I4, q⟩
theorem set_any (hu : X.A.units + 64 < cLine) : PSet X (fun o i v H Q => rSetL o i v H Q ∨ rSetD o i v H Q) := by
  intro pins s σ H o i v ov iv u Q I ro ri rv h
  rcases h with h | h
  · exact set_list pins s σ H o i v ov iv u Q I ro ri rv h
  · exact set_dict hu pins s σ H o i v ov iv u Q I ro ri rv h
theorem putDI (ks : List Int) (j : Int) : putK (ks.map fun k => ((Sum.inl k : Key), V.bl true)) (Sum.inl j) (.bl true) = (if j ∈ ks then ks else ks ++ [j]).map fun k => ((Sum.inl k : Key), V.bl true) := by
  by_cases h : j ∈ ks
  · rw [if_pos h]
    unfold putK
    have : ((ks.map fun k => ((Sum.inl k : Key), V.bl true)).any fun kv => decide (kv.1 = Sum.inl j)) = true := by simp [List.any_eq_true, h]
    rw [if_pos this, List.map_map]
    apply List.map_congr_left
    intro k hk
    simp
  · have hn : valV (ks.map fun k => ((Sum.inl k : Key), V.bl true)) (Sum.inl j) = none := by
      have := valDI ks j
      rw [decide_eq_false h] at this
      simpa using this
    rw [if_neg h, putK_new _ hn, List.map_append]
    rfl
theorem putDT (ks : List (List Int)) (j : List Int) : putK (ks.map fun k => ((k.map Sum.inl : List Key), V.bl true)) (j.map Sum.inl) (.bl true) = (if j ∈ ks then ks else ks ++ [j]).map fun k => ((k.map Sum.inl : List Key), V.bl true) := by
  by_cases h : j ∈ ks
  · rw [if_pos h]
    unfold putK
    have : ((ks.map fun k => ((k.map Sum.inl : List Key), V.bl true)).any fun kv => decide (kv.1 = j.map Sum.inl)) = true := by
      rw [List.any_eq_true]
      exact ⟨(j.map Sum.inl, .bl true), List.mem_map.mpr ⟨j, h, rfl⟩, by simp⟩
    rw [if_pos this, List.map_map]
    apply List.map_congr_left
    intro k hk
    simp
  · have hn : valV (ks.map fun k => ((k.map Sum.inl : List Key), V.bl true)) (j.map Sum.inl) = none := by
      have := valDT ks j
      rw [decide_eq_false h] at this
      simpa using this
    rw [if_neg h, putK_new _ hn, List.map_append]
    rfl
theorem sm_put {o i : Expr} {p : Pos} {mo mi mv : Mini.M} (hu : X.A.units + 64 < cLine) (ho : PE X o (tM X.K E mo)) (hi : PE X i (tM X.K E mi)) (hv : PE X e (tM X.K E mv))
    (ha : ∀ v, assign (.Subscript o i p) X.env v = (do
      let ov ← holding [v] (eval o X.env)
      let iv ← holding [v, ov] (eval i X.env)
      standAt p
      holding [v, ov, iv] (setItem ov iv v)
      release [v, ov, iv] []) := by intro _; rfl)
    (hs : swapsWithSole [.Subscript o i p] e pos.line X.env = pure false := by rfl) (hw : swappedStores [.Subscript o i p] e X.env = pure none := by rfl) (h1 : (assignEach [.Subscript o i p] X.env).map (·.2) = [assign (.Subscript o i p) X.env] := by rfl) :
    PS X (.Assign [.Subscript o i p] e pos) (tS X.K E (Mini.sPut mo mi mv)) := (ps_asg hv (pg_sub ho hi (set_any hu) ha) hs hw h1).to fun D σ H ⟨P, α, e, s, hS, q⟩ =>
  ⟨P, α, e, s, hS, (Post.unbind q).imp fun d s1 α1 H1 g1 t1 q1 v hv => ⟨P, α1, e, s1, hS.gr g1 t1, (Post.unbind q1).imp fun d2 s2 α2 H2 g2 t2 q2 v2 hv2 => ⟨P, α2, e, s2, hS.gr (g1.trans g2) t2, (Post.unbind q2).imp fun d3 s3 α3 H3 g3 t3 q3 v3 hv3 => by
    dsimp only at q3
    cases d2 <;> simp only at q3 <;> first | exact q3.elim | skip
    rename_i k
    obtain ⟨s', hp, q3⟩ := q3.unof
    have hv' := (g2.trans g3).dr hv
    have ho' := g3.dr hv2
    have fin : ∀ H', Gr P α3 H3 α3 H' → StR X.K P α3 s' H' → D.nx σ H' := fun H' g4 t4 => q3 α3 H' g4 t4 σ ((hS.gr (g1.trans (g2.trans g3)) t3).gr g4 t4)
    cases hk : s3[k]? with
    | none => simp [Mini.putS, hk] at hp
    | some ob =>
      cases ob with
      | L ds =>
        cases d3 with
        | int j =>
          simp only [Mini.putS, hk] at hp
          obtain ⟨n, hn, hp⟩ := Option.bind_eq_some_iff.mp hp
          split at hp
          · rename_i hfr
            cases hp
            obtain ⟨b, hb, rfl, xs, hx, hd⟩ := own_ob t3 ho' hk
            rw [Dr] at hv3
            subst hv3
            have r : ObR X.K (imm H3 P α3) (.L (ds.set n d)) (some (.lst (xs.set n v))) := ⟨_, rfl, hd.set n (Dr.free hfr hv')⟩
            obtain ⟨g4, t4⟩ := t3.chg hb (List.getElem?_eq_some_iff.mp hk).1 r
            exact .inl ⟨b, xs, j, n, rfl, rfl, hx, by rw [← hd.len]; exact hn, fin _ g4 t4⟩
          · cases hp
        | _ => simp [Mini.putS, hk] at hp
      | DI ks =>
        cases d3 with
        | int j =>
          cases d with
          | bl b0 =>
            cases b0 with
            | false => simp [Mini.putS, hk] at hp
            | true =>
              simp only [Mini.putS, hk] at hp
              split at hp
              · rename_i hl
                cases hp
                obtain ⟨b, hb, rfl, hx⟩ := own_ob t3 ho' hk
                simp only [Dr] at hv3 hv'
                subst hv3; subst hv'
                rw [ObR] at hx
                obtain ⟨g4, t4⟩ := t3.chg (o := .DI (if j ∈ ks then ks else ks ++ [j])) hb (List.getElem?_eq_some_iff.mp hk).1 (by rw [ObR])
                refine .inr ⟨b, _, rfl, DPut.k (k := Sum.inl j) hx (by simp; exact slt hl), ?_⟩
                rw [putDI]
                exact fin _ g4 t4
              · cases hp
          | _ => simp [Mini.putS, hk] at hp
        | _ => simp [Mini.putS, hk] at hp
      | DT ks =>
        cases d3 with
        | tup ds =>
          cases d with
          | bl b0 =>
            cases b0 with
            | false => simp [Mini.putS, hk] at hp
            | true =>
              simp only [Mini.putS, hk] at hp
              obtain ⟨js, hj, hp⟩ := Option.bind_eq_some_iff.mp hp
              split at hp
              · rename_i hl
                cases hp
                obtain ⟨b, hb, rfl, hx⟩ := own_ob t3 ho' hk
                simp only [Dr] at hv3 hv'
                obtain ⟨a, xs, rfl, h3, h4⟩ := hv3
                subst hv'
                rw [ObR] at hx
                have hxs := h4.zints hj
                subst hxs
                obtain ⟨g4, t4⟩ := t3.chg (o := .DT (if js ∈ ks then ks else ks ++ [js])) hb (List.getElem?_eq_some_iff.mp hk).1 (by rw [ObR])
                refine .inr ⟨b, _, rfl, DPut.t (k := js.map Sum.inl) hx (by rw [kV_ints]; exact imm_sub _ _ _ _ _ h3) (by simp; exact slt hl), ?_⟩
                rw [putDT]
                exact fin _ g4 t4
              · cases hp
          | _ => simp [Mini.putS, hk] at hp
        | _ => simp [Mini.putS, hk] at hp⟩⟩⟩
/-! ### loops -/
theorem sm_for {tg iter : Expr} {body : List Stmt} {i : Nat} {mi : Mini.A} {m : Mini.S} (hp : PassesOwn (model X.prog X.w) X.A X.env X.xe) (hc : X.calm = true) (hi : PI X tg iter (tI X.K E mi)) (hg : PG X tg (gName i)) (hb : PSs X body (tS X.K E m))
    (hs : ∀ x, foldedSetIterable iter X.env x = pure x := by intro _; rfl) : PS X (.For tg iter body [] pos) (tS X.K E (Mini.sFor i mi m)) := (ps_for hp hc hi hg hb hs).to fun D σ H ⟨P, α, e, s, hS, q⟩ =>
  ⟨P, α, e, s, hS, (Post.unbind q).imp fun ds s1 α1 H1 g1 t1 q1 J hJ => by
    dsimp only at q1
    refine for_it hJ (fun j σ H => ∃ α' e' s', SR X.K P α' e' s' σ H ∧ Gr P α1 H1 α' H ∧ Post X.K E P α' H (Mini.forF i m (ds.drop j) e' s') (endK X.K P D)) ?_ ?_ ?_ ?_
    · exact ⟨α1, e, s1, hS.gr g1 t1, Gr.refl _ _ _, by rw [List.drop_zero]; exact q1⟩
    · rintro j σ' H' _ ⟨α', e', s', _, g, _⟩
      exact g.ext.trans (imm_sub _ _ _)
    · rintro j v σ' H' H'' hj ⟨α', e', s', hS', g, q'⟩ ⟨rfl, d, hd, hdv⟩
      have hdrop : ds.drop j = d :: ds.drop (j + 1) := by
        obtain ⟨h1, h2⟩ := List.getElem?_eq_some_iff.mp hd
        rw [← h2]
        exact List.drop_eq_getElem_cons h1
      rw [hdrop, Mini.forF] at q'
      show tS X.K E m _ (σ'.set i (some v)) H''
      refine ⟨P, α', e'.set i (some d), s', hS'.set (g.dr hdv), (Post.unbind q').imp fun o s2 α2 H2 g2 t2 q2 => ?_⟩
      cases o with
      | nx e2 => exact fun σ2 hS2 => ⟨α2, e2, s2, hS2, g.trans g2, q2⟩
      | ct e2 => exact fun σ2 hS2 => ⟨α2, e2, s2, hS2, g.trans g2, q2⟩
      | bk e2 => exact q2.here t2
      | rt d2 => exact q2.here t2
    · rintro σ' H' ⟨α', e', s', hS', g, q'⟩
      rw [List.drop_length, Mini.forF] at q'
      exact q'.here hS'.st σ' hS'⟩
theorem sm_while {c : Expr} {body : List Stmt} {t : Mini.T} {m : Mini.S} (hp : PassesOwn (model X.prog X.w) X.A X.env X.xe) (hc : PT X c (tT X.K E t)) (hb : PSs X body (tS X.K E m)) : PS X (.While c body [] pos) (tS X.K E (Mini.sWhile t m)) := (ps_while hp hc hb).to fun D σ H ⟨P, α, e, s, hS, q⟩ => by
  have hw : ∃ n r, Mini.whF t m n e s = some r ∧ Post X.K E P α H r (endK X.K P D) := by
    by_cases h : ∃ n r, Mini.whF t m n e s = some r
    · obtain ⟨n, r, hr⟩ := h
      exact ⟨n, r, hr, by rw [Mini.sWhile_eq hr] at q; exact q⟩
    · rw [Mini.sWhile_bad_of fun n r hr => h ⟨n, r, hr⟩] at q
      exact q.elim
  obtain ⟨n, r, hr, q⟩ := hw
  refine ⟨fun n σ H => ∃ α e s r, SR X.K P α e s σ H ∧ Mini.whF t m n e s = some r ∧ Post X.K E P α H r (endK X.K P D), ⟨n, α, e, s, r, hS, hr, q⟩, ?_⟩
  rintro n σ H ⟨α, e, s, r, hS, hr, q⟩
  refine ⟨P, α, e, s, hS, ?_⟩
  cases n with
  | zero => cases hr
  | succ n =>
    rw [Mini.whF] at hr
    cases ht : t e s with
    | bad => rw [ht] at hr; cases hr; exact q
    | exc c => rw [ht] at hr; cases hr; exact q
    | ok p =>
      rw [ht] at hr
      obtain ⟨b, s1⟩ := p
      intro α1 H1 g1 t1
      cases b with
      | false =>
        rw [if_neg (by simp)]
        cases hr
        exact q α1 H1 g1 t1 σ (hS.gr g1 t1)
      | true =>
        rw [if_pos rfl]
        dsimp only at hr
        refine ⟨fun σ' H' => ∃ m', m' < n + 1 ∧ ∃ α e s r, SR X.K P α e s σ' H' ∧ Mini.whF t m m' e s = some r ∧ Post X.K E P α H' r (endK X.K P D), fun _ _ z => z, P, α1, e, s1, hS.gr g1 t1, ?_⟩
        cases hm : m e s1 with
        | bad => rw [hm] at hr; cases hr; exact q
        | exc c => rw [hm] at hr; cases hr; exact Post.later (r := Mini.R.exc c) q g1
        | ok p2 =>
          rw [hm] at hr
          obtain ⟨o, s2⟩ := p2
          intro α2 H2 g2 t2
          cases o with
          | nx e2 => exact fun σ2 hS2 => ⟨n, by omega, α2, e2, s2, r, hS2, hr, q.later (g1.trans g2)⟩
          | ct e2 => exact fun σ2 hS2 => ⟨n, by omega, α2, e2, s2, r, hS2, hr, q.later (g1.trans g2)⟩
          | bk e2 => cases hr; exact q α2 H2 (g1.trans g2) t2
          | rt d2 => cases hr; exact q α2 H2 (g1.trans g2) t2
end
end Snd
end
section
namespace Snd
open PySem L2
open PyProof.Rows (envOfC)
/-! ### a def -/
theorem take_get {α : List Addr} {n k : Nat} {a : Addr} (h : (α.take n)[k]? = some a) : k < n ∧ α[k]? = some a := by
  rw [List.getElem?_take] at h
  split at h
  · rename_i hk; exact ⟨hk, h⟩
  · cases h
section
variable {K : PySem.W.Frag} {P α : List Addr} {s : Mini.Sto} {H : Hp}
theorem ext_take (hs : StR K P α s H) (n : Nat) : Ext (imm H P α) (imm H P (α.take n)) := fun b o q => by
  rw [imm_some] at q ⊢
  exact ⟨q.1, fun z => q.2.1 (List.mem_of_mem_take z), q.2.2⟩
theorem StR.take (hs : StR K P α s H) (n : Nat) : StR K P (α.take n) (s.take n) H := by
  refine ⟨hs.nd.sublist (List.take_sublist n α), fun a ha => hs.dis a (List.mem_of_mem_take ha), hs.pt, by simp [hs.len], fun k o a h1 h2 => ?_⟩
  rw [List.getElem?_take] at h1
  split at h1
  · exact (hs.ob k o a h1 (take_get h2).2).mono (ext_take hs n)
  · cases h1
mutual
theorem frz_dr (hs : StR K P α s H) (n : Nat) : ∀ {d d' : Mini.D} {v : V}, Mini.frz n s d = some d' → Dr K (imm H P α) α d v → Dr K (imm H P (α.take n)) (α.take n) d' v
  | .own k, d', v, e, h => by
    rw [Mini.frz] at e
    split at e
    · rename_i hk
      cases e
      rw [Dr] at h ⊢
      obtain ⟨a, h1, h2⟩ := h
      exact ⟨a, by rw [List.getElem?_take, if_pos hk]; exact h1, h2⟩
    · rename_i hk
      cases hk2 : s[k]? with
      | none => rw [hk2] at e; cases e
      | some o =>
        obtain ⟨a, h1, rfl, h2⟩ := own_ob hs h hk2
        have nt : a ∉ α.take n := fun z => by
          obtain ⟨j, hj, e1⟩ := List.getElem_of_mem z
          have hj' : j < n ∧ j < α.length := by simp at hj; omega
          rw [List.getElem_take] at e1
          have e2 := (List.getElem?_eq_some_iff.mp h1).2
          have := (List.getElem_inj hs.nd).mp (e1.trans e2.symm)
          omega
        have np : a ∉ P := hs.dis a (List.mem_of_getElem? h1)
        cases o with
        | L ds =>
          rw [hk2] at e
          cases e
          obtain ⟨xs, hx, hd⟩ := h2
          rw [Dr]
          exact ⟨a, xs, rfl, imm_some.mpr ⟨np, nt, hx⟩, DrL.mono (ext_take hs n) (fun _ _ q => q) hd⟩
        | DT ks =>
          rw [hk2] at e
          cases e
          rw [ObR] at h2
          rw [Dr]
          exact ⟨a, _, rfl, imm_some.mpr ⟨np, nt, h2⟩, by simp⟩
        | DI ks => rw [hk2] at e; cases e
  | .tup ds, d', v, e, h => by
    rw [Mini.frz] at e
    obtain ⟨es, he, rfl⟩ := Option.map_eq_some_iff.mp e
    rw [Dr] at h ⊢
    obtain ⟨a, xs, h1, h2, h3⟩ := h
    exact ⟨a, xs, h1, ext_take hs n _ _ h2, frz_drL hs n he h3⟩
  | .lst ds, d', v, e, h => by
    simp only [Mini.frz] at e
    cases e
    rw [Dr] at h ⊢
    obtain ⟨a, xs, h1, h2, h3⟩ := h
    exact ⟨a, xs, h1, ext_take hs n _ _ h2, DrL.mono (ext_take hs n) (fun _ _ q => q) h3⟩
  | .scr ns, d', v, e, h => by
    simp only [Mini.frz] at e
    cases e
    rw [Dr] at h ⊢
    obtain ⟨a, h1, h2⟩ := h
    exact ⟨a, h1, (ext_take hs n).sqL h2⟩
  | .dic m, d', v, e, h => by
    simp only [Mini.frz] at e
    cases e
    rw [Dr] at h ⊢
    obtain ⟨a, kvs, h1, h2, h3⟩ := h
    exact ⟨a, kvs, h1, ext_take hs n _ _ h2, h3⟩
  | .non, d', v, e, h => by simp only [Mini.frz] at e; cases e; rw [Dr] at h ⊢; exact h
  | .bl _, d', v, e, h => by simp only [Mini.frz] at e; cases e; rw [Dr] at h ⊢; exact h
  | .int _, d', v, e, h => by simp only [Mini.frz] at e; cases e; rw [Dr] at h ⊢; exact h
  | .str _, d', v, e, h => by simp only [Mini.frz] at e; cases e; rw [Dr] at h ⊢; exact h
theorem frz_drL (hs : StR K P α s H) (n : Nat) : ∀ {d d' : List Mini.D} {v : List V}, Mini.frzL n s d = some d' → DrL K (imm H P α) α d v → DrL K (imm H P (α.take n)) (α.take n) d' v
  | [], d', v, e, h => by
    rw [Mini.frzL] at e
    cases e
    cases v with
    | nil => simp [DrL]
    | cons => simp [DrL] at h
  | d :: ds, d', v, e, h => by
    rw [Mini.frzL] at e
    obtain ⟨x, hx, e⟩ := Option.bind_eq_some_iff.mp e
    obtain ⟨xs, hxs, rfl⟩ := Option.map_eq_some_iff.mp e
    cases v with
    | nil => simp [DrL] at h
    | cons v vs =>
      rw [DrL] at h ⊢
      exact ⟨frz_dr hs n hx h.1, frz_drL hs n hxs h.2⟩
end
/-- the body's end is the def's end -/
theorem body_end {E : XC} {names : Nat} {m : Mini.S} {ds : List Mini.D} {Q : VK} (hs : StR K P α s H) (h : Post K E P α H (Mini.runG names m ds s) fun d s' α' H' => ∀ v, Dr K (imm H' P α') α' d v → Q v H') :
    Post K E P α H (m (Mini.ent names ds) s) (endK K P { nx := fun _ H' => Q .non H', rt := Q }) := by
  unfold Mini.runG at h
  cases hm : m (Mini.ent names ds) s with
  | bad => rw [hm] at h; exact h.elim
  | exc c => rw [hm] at h; exact h
  | ok p =>
    rw [hm] at h
    obtain ⟨o, s1⟩ := p
    intro α1 H1 g1 t1
    have pre : α1.take s.length = α := by
      apply List.ext_getElem?
      intro k
      rw [List.getElem?_take]
      split
      · rename_i hk
        have hk' : k < α.length := by rw [← hs.len]; exact hk
        rw [List.getElem?_eq_getElem hk', g1.pre k _ (List.getElem?_eq_getElem hk')]
      · rename_i hk
        rw [List.getElem?_eq_none (by rw [← hs.len]; omega)]
    have g2 : Gr P α H α H1 := ⟨fun _ _ q => q, by have := g1.ext.trans (ext_take t1 s.length); rw [pre] at this; exact this, g1.keep⟩
    have t2 := t1.take s.length
    rw [pre] at t2
    cases o with
    | nx e =>
      simp only [Mini.fin, Mini.R.bind_ok, Mini.frz, Mini.R.of_some] at h
      exact fun σ _ => h α H1 g2 t2 .non (by simp [Dr])
    | rt d =>
      simp only [Mini.fin, Mini.R.bind_ok] at h
      intro v hv
      obtain ⟨d', hd, q⟩ := Post.unof (f := fun d => Mini.R.ok (d, s1.take s.length)) h
      have hv2 := frz_dr t1 s.length hd hv
      rw [pre] at hv2
      exact q α H1 g2 t2 v hv2
    | bk e => simp only [Mini.fin, Mini.R.bind_ok, Mini.R.bind_bad] at h; exact h.elim
    | ct e => simp only [Mini.fin, Mini.R.bind_ok, Mini.R.bind_bad] at h; exact h.elim
end
theorem ent_env {K : PySem.W.Frag} {G : Hp} {α : List Addr} {N : List Str} {ds : List Mini.D} {vs : List V} (h : DrL K G α ds vs) : EnvR K G α (Mini.ent N.length ds) (L2.start N vs) := by
  have hl := h.len
  refine ⟨by simp [Mini.ent, L2.start, hl], fun i d q => ?_⟩
  unfold Mini.ent at q
  by_cases hi : i < ds.length
  · rw [List.getElem?_append_left (by simpa using hi), List.getElem?_map] at q
    obtain ⟨d', h1, h2⟩ := Option.map_eq_some_iff.mp q
    cases h2
    obtain ⟨v, h3, h4⟩ := h.at h1
    refine ⟨v, ?_, h4⟩
    unfold L2.start
    rw [List.getElem?_append_left (by simp; omega), List.getElem?_map, h3]
    rfl
  · rw [List.getElem?_append_right (by simpa using hi)] at q
    rw [List.getElem?_replicate] at q
    split at q <;> cases q
section
variable {P : Program} {w : World} {K : PySem.W.Frag} {mg : Str → Option Value} {base : Heap} {x qual : Str} {st : Stmt} {f : Addr} {fd : FuncData} {N ps : List Str} {k : Nat} {m : Mini.S} {C : Nat → Addr}
/-- φ says no more than ψ -/
def Le (φ ψ : List Mini.D → Mini.R Mini.D) : Prop := ∀ ds, φ ds = .bad ∨ φ ds = ψ ds
def LeG (φ ψ : Mini.F) : Prop := ∀ ds s, φ ds s = .bad ∨ φ ds s = ψ ds s
theorem spP_le {n : Nat} {φ ψ : List Mini.D → Mini.R Mini.D} (h : Le φ ψ) : ∀ vs H Q E, spP K C n φ vs H Q E → spP K C n ψ vs H Q E := fun vs H Q E ⟨hn, P, ds, hP, hd, q⟩ => ⟨hn, P, ds, hP, hd, by
  rcases h ds with z | z
  · rw [z] at q; exact q.elim
  · rw [← z]; exact q⟩
theorem spG_le {n : Nat} {φ ψ : Mini.F} (h : LeG φ ψ) : ∀ vs H Q E, spG K C n φ vs H Q E → spG K C n ψ vs H Q E := fun vs H Q E ⟨hn, P, α, s, ds, hs, hd, q⟩ => ⟨hn, P, α, s, ds, hs, hd, by
  rcases h ds s with z | z
  · rw [z] at q; exact q.elim
  · rw [← z]; exact q⟩
theorem fn_le {CX : CXT} {n : Nat} {φ ψ : List Mini.D → Mini.R Mini.D} (F : FnOk P w K mg base CX k f fd ps (spP K C n ψ)) (h : Le φ ψ) : FnOk P w K mg base CX k f fd ps (spP K C n φ) := F.imp (spP_le h)
theorem fn_leG {CX : CXT} {n : Nat} {φ ψ : Mini.F} (F : FnOk P w K mg base CX k f fd ps (spG K C n ψ)) (h : LeG φ ψ) : FnOk P w K mg base CX k f fd ps (spG K C n φ) := F.imp (spG_le h)
/-- nothing is asked -/
theorem fn_none {CX : CXT} {φ : List Mini.D → Mini.R Mini.D} (h : ∀ ds, φ ds = .bad) : FnOk P w K mg base CX k f fd ps (spP K C ps.length φ) :=
  ⟨fun vs H Q E q => q.1, fun A outer s H args us vs Q E _ _ _ _ q => by obtain ⟨_, P, ds, _, _, q⟩ := q; rw [h ds] at q; exact q.elim⟩
theorem fn_noneG {CX : CXT} {φ : Mini.F} (h : ∀ ds s, φ ds s = .bad) : FnOk P w K mg base CX k f fd ps (spG K C ps.length φ) :=
  ⟨fun vs H Q E q => q.1, fun A outer s H args us vs Q E _ _ _ _ q => by obtain ⟨_, P, α, s, ds, _, _, q⟩ := q; rw [h ds s] at q; exact q.elim⟩
abbrev cx0 (P : Program) (w : World) (K : PySem.W.Frag) (mg : Str → Option Value) (base : Heap) (N : List Str) (qual : Str) (st : Stmt) (f : Addr) (cdv : Value) (A : Around) (outer : List PySem.Env) (s : Shared) (H : Hp) (E : XK) : Cx := (cxOf CX0 P w K mg base N qual (defScope st) f cdv A outer s H E).nox
abbrev cxX (P : Program) (w : World) (K : PySem.W.Frag) (mg : Str → Option Value) (base : Heap) (N : List Str) (qual : Str) (st : Stmt) (f : Addr) (cdv : Value) (A : Around) (outer : List PySem.Env) (s : Shared) (H : Hp) (E : XK) : Cx := cxOf (L2.CX P w) P w K mg base N qual (defScope st) f cdv A outer s H E
/-- a def that has nothing to do with what its callers own, and raises nothing -/
theorem fn_P (F : Fun K x qual st f fd) (S : FnScope N ps (defScope st))
    (body : ∀ cdv A outer s H E, Room k (A.deeper (envOfC qual (defScope st) s.heap.objs.size f cdv)) → PSs (cx0 P w K mg base N qual st f cdv A outer s H E) (defBody st) (tS K E00 m)) :
    FnOk P w K mg base CX0 (k + 1) f fd ps (spP K C ps.length fun ds => (Mini.run N.length m ds).nox) := by
  refine F.ok S (fun vs H Q E q => q.1) fun cdv A outer s H vs Q E hr q => ⟨_, body cdv A outer s H E hr, ?_⟩
  obtain ⟨hn, Pr, ds, hP, hd, q⟩ := q
  have hs : StR K Pr [] [] H := ⟨by simp, by simp, hP, rfl, by simp⟩
  refine ⟨Pr, [], Mini.ent N.length ds, [], ⟨hs, ent_env hd⟩, body_end hs ?_⟩
  dsimp only [Mini.run] at q
  cases h : Mini.runG N.length m ds [] with
  | bad => rw [h] at q; exact q.elim
  | exc c => rw [h] at q; exact q.elim
  | ok p =>
    rw [h] at q
    intro α' H' g t v hv
    have : α' = [] := by
      have e : p.2 = [] := by
        unfold Mini.runG at h
        obtain ⟨p1, _, h⟩ := bind_ok h
        obtain ⟨d, _, h⟩ := bind_ok h
        cases h
        simp
      have := t.len
      rw [e] at this
      exact List.eq_nil_of_length_eq_zero this.symm
    subst this
    exact q v H' g.all hv
theorem fn_G (F : Fun K x qual st f fd) (S : FnScope N ps (defScope st))
    (body : ∀ cdv A outer s H E, Room k (A.deeper (envOfC qual (defScope st) s.heap.objs.size f cdv)) → PSs (cx0 P w K mg base N qual st f cdv A outer s H E) (defBody st) (tS K E00 m)) :
    FnOk P w K mg base CX0 (k + 1) f fd ps (spG K C ps.length fun ds s => (Mini.runG N.length m ds s).nox) := by
  refine F.ok S (fun vs H Q E q => q.1) fun cdv A outer s H vs Q E hr q => ⟨_, body cdv A outer s H E hr, ?_⟩
  obtain ⟨hn, Pr, α, s0, ds, hs, hd, q⟩ := q
  refine ⟨Pr, α, Mini.ent N.length ds, s0, ⟨hs, ent_env hd⟩, body_end hs ?_⟩
  dsimp only at q
  cases h : Mini.runG N.length m ds s0 with
  | bad => rw [h] at q; exact q.elim
  | exc c => rw [h] at q; exact q.elim
  | ok p => rw [h] at q; exact q
/-- .. a def that may raise -/
theorem fn_PX (F : Fun K x qual st f fd) (S : FnScope N ps (defScope st))
    (body : ∀ cdv A outer s H E, Room k (A.deeper (envOfC qual (defScope st) s.heap.objs.size f cdv)) → PSs (cxX P w K mg base N qual st f cdv A outer s H E) (defBody st) (tS K (fun c oe H' => E (.ref (C c)) oe H') m)) :
    FnOk P w K mg base (L2.CX P w) (k + 1) f fd ps (spP K C ps.length (Mini.run N.length m)) := by
  refine F.okX S (fun vs H Q E q => q.1) fun cdv A outer s H vs Q E hr q => ⟨_, body cdv A outer s H E hr, ?_⟩
  obtain ⟨hn, Pr, ds, hP, hd, q⟩ := q
  have hs : StR K Pr [] [] H := ⟨by simp, by simp, hP, rfl, by simp⟩
  refine ⟨Pr, [], Mini.ent N.length ds, [], ⟨hs, ent_env hd⟩, body_end hs ?_⟩
  dsimp only [Mini.run] at q
  cases h : Mini.runG N.length m ds [] with
  | bad => rw [h] at q; exact q.elim
  | exc c =>
    rw [h] at q
    exact fun oe α' H' g => q oe H' g.all
  | ok p =>
    rw [h] at q
    intro α' H' g t v hv
    have : α' = [] := by
      have e : p.2 = [] := by
        unfold Mini.runG at h
        obtain ⟨p1, _, h⟩ := bind_ok h
        obtain ⟨d, _, h⟩ := bind_ok h
        cases h
        simp
      have := t.len
      rw [e] at this
      exact List.eq_nil_of_length_eq_zero this.symm
    subst this
    exact q v H' g.all hv
end
/-- how many arguments there are -/
def ALen (a : Mini.A) (n : Nat) : Prop := ∀ e s ds s', a e s = .ok (ds, s') → ds.length = n
theorem alen_nil : ALen Mini.aNil 0 := fun e s ds s' h => by cases h; rfl
theorem alen_cons {m : Mini.M} {a : Mini.A} {n : Nat} (h : ALen a n) : ALen (Mini.aCons m a) (n + 1) := fun e s ds s' q => by
  obtain ⟨p, _, q⟩ := bind_ok q
  obtain ⟨p2, h2, q⟩ := bind_ok q
  cases q
  exact congrArg (· + 1) (h e _ _ _ h2)
end Snd
end
section
namespace Snd
open PySem L2
open PyProof.Rows (envOfC)
/-- a protected list becomes an owned one -/
theorem StR.own {K : PySem.W.Frag} {P α : List Addr} {s : Mini.Sto} {H : Hp} {D : Addr} {xs : List V} {ys : List Mini.D} (h : StR K (D :: P) α s H) (nP : D ∉ P) (hD : H D = some (.lst xs)) (hd : DrL K (imm H (D :: P) α) [] ys xs) :
    imm H P (α ++ [D]) = imm H (D :: P) α ∧ StR K P (α ++ [D]) (s ++ [.L ys]) H ∧ (α ++ [D])[s.length]? = some D := by
  have ei : imm H P (α ++ [D]) = imm H (D :: P) α := by
    funext b
    unfold imm
    by_cases h1 : b ∈ P
    · rw [if_pos (.inl h1), if_pos (.inl (List.mem_cons_of_mem _ h1))]
    · by_cases h2 : b ∈ α
      · rw [if_pos (.inr (List.mem_append_left _ h2)), if_pos (.inr h2)]
      · by_cases h3 : b = D
        · subst h3
          rw [if_pos (.inr (by simp)), if_pos (.inl List.mem_cons_self)]
        · rw [if_neg, if_neg]
          · rintro (h4 | h4)
            · rcases List.mem_cons.mp h4 with h4 | h4
              · exact h3 h4
              · exact h1 h4
            · exact h2 h4
          · rintro (h4 | h4)
            · exact h1 h4
            · rcases List.mem_append.mp h4 with h4 | h4
              · exact h2 h4
              · exact h3 (by simpa using h4)
  have nα : D ∉ α := fun z => h.dis D z List.mem_cons_self
  have el : (α ++ [D])[s.length]? = some D := by rw [h.len]; simp
  refine ⟨ei, ⟨?_, ?_, fun b hb => h.pt b (List.mem_cons_of_mem _ hb), by simp [h.len], fun k o a h1 h2 => ?_⟩, el⟩
  · rw [List.nodup_append]
    exact ⟨h.nd, by simp, fun a ha b hb z => by simp at hb; subst hb; subst z; exact nα ha⟩
  · intro a ha
    rcases List.mem_append.mp ha with ha | ha
    · exact fun z => h.dis a ha (List.mem_cons_of_mem _ z)
    · simp at ha; subst ha; exact nP
  · rw [ei]
    by_cases hk : k < s.length
    · rw [List.getElem?_append_left hk] at h1
      rw [List.getElem?_append_left (by rw [← h.len]; exact hk)] at h2
      exact h.ob k o a h1 h2
    · have hk2 : k < (s ++ [Mini.Ob.L ys]).length := (List.getElem?_eq_some_iff.mp h1).1
      have : k = s.length := by simp at hk2; omega
      subst this
      rw [el] at h2
      cases h2
      simp at h1
      subst h1
      exact ⟨xs, hD, hd⟩
section
variable {X : Cx} {E : XC} {pos : Pos}
theorem lc_toO {i : Nat} {mi : Mini.A} {t : Mini.T} {m : Mini.M} : ∀ σ H Q, tM X.K E (Mini.mLcO i mi t m) σ H Q → tLc (tI X.K E mi) (gName i) (tT X.K E00 t) (tM X.K E00 m) [i] σ H Q := by
  rintro σ H Q ⟨P, α, e, s, hS, q⟩
  refine ⟨P, α, e, s, hS, (Post.unbind q).imp fun ds s1 α1 H1 g1 t1 q1 J hJ D hD => ?_⟩
  obtain ⟨hl, q1⟩ := q1.unite
  dsimp only at hl q1
  have nP : D ∉ P := fun z => t1.pt D z hD
  refine lc_it hJ (fun j Hj => ∃ αj sj xs ys, Lc X.K P α1 H1 D i t m e ds (Mini.lcF i t m e ds s1) j αj sj xs ys Hj) ?_ ?_ ?_ ?_
  · refine ⟨α1, s1, [], [], t1.prot hD, fun _ _ q => q, fun b o q => ?_, fun b hb o q => by rw [upd_ne (ne_of_none q hD)]; exact q, upd_same, Nat.le_refl _, by simp [DrL], by rw [List.drop_zero, bind_id]⟩
    rw [imm_some] at q ⊢
    have : b ≠ D := ne_of_none q.2.2 hD
    exact ⟨by simp [this, q.1], q.2.1, by rw [upd_ne this]; exact q.2.2⟩
  · rintro j Hj _ ⟨αj, sj, xs, ys, L⟩
    exact L.ext.trans (imm_sub _ _ _)
  · rintro j v Hj Hj' hj ⟨αj, sj, xs, ys, L⟩ ⟨rfl, d, hd, hdv⟩
    have hw : (wipe σ [i]).set i (some v) = σ.set i (some v) := by simp [wipe, List.set_set]
    show wipe ((wipe σ [i]).set i (some v)) [i] = wipe σ [i] ∧ _
    refine ⟨by simp [wipe, List.set_set], ?_⟩
    rw [hw]
    have hdrop : ds.drop j = d :: ds.drop (j + 1) := by
      obtain ⟨h1, h2⟩ := List.getElem?_eq_some_iff.mp hd
      rw [← h2]
      exact List.drop_eq_getElem_cons h1
    have ht := L.tot
    rw [hdrop, Mini.lcF] at ht
    cases htot : Mini.lcF i t m e ds s1 with
    | bad => rw [htot] at q1; exact q1.elim
    | exc c => exact absurd htot lcF_exc
    | ok r =>
      rw [htot] at ht
      obtain ⟨r0, hr0, hr1⟩ := bind_ok ht.symm
      obtain ⟨p, hp, hr0⟩ := nox_bad hr0
      have env1 : EnvR X.K (imm Hj' (D :: P) αj) αj (e.set i (some d)) (σ.set i (some v)) := ((hS.env.gr g1).mono L.ext L.pre).set (hdv.mono L.ext L.pre)
      refine ⟨D :: P, αj, e.set i (some d), sj, ⟨L.st, env1⟩, Post.ok_of hp fun α2 H2 g2 t2 => ?_⟩
      have D2 : H2 D = some (.lst xs) := g2.keep D List.mem_cons_self _ L.at'
      split at hr0
      · rename_i hb
        dsimp only
        rw [if_pos hb]
        obtain ⟨y, hy, hr0⟩ := nox_bad hr0
        split at hr0
        · rename_i hck
          refine ⟨D :: P, α2, e.set i (some d), p.2, ⟨t2, env1.gr g2⟩, Post.ok_of hy fun α3 H3 g3 t3 u hu => ?_⟩
          have D3 : H3 D = some (.lst xs) := g3.keep D List.mem_cons_self _ D2
          obtain ⟨e1, t4⟩ := t3.grow (.lst (xs ++ [u]))
          have hl' : ds.length ≤ 16777216 := hl
          refine ⟨xs, D3, slt (by have := L.len; omega), α3, y.2, xs ++ [u], ys ++ [y.1], t4, fun k a z => g3.pre k a (g2.pre k a (L.pre k a z)), ?_, fun b hb' o z => ?_, upd_same, by simp; exact L.len, ?_, ?_⟩
          · rw [e1]; exact L.ext.trans (g2.ext.trans g3.ext)
          · rw [upd_ne (show b ≠ D from fun w => nP (w ▸ hb'))]
            exact g3.keep b (List.mem_cons_of_mem _ hb') o (g2.keep b (List.mem_cons_of_mem _ hb') o (L.keep b hb' o z))
          · rw [e1]
            refine (DrL.mono (g2.ext.trans g3.ext) (fun _ _ q => q) L.dr).append ?_
            have := t3.chk (ds := [y.1]) (xs := [u]) hck (by simp only [DrL]; exact ⟨hu, trivial⟩)
            exact this
          · rw [ht, hp]
            simp only [Mini.R.nox_ok, Mini.R.bind_ok, hb, if_true, hy, hck]
            exact bind_app _ _ _
        · cases hr0
      · rename_i hb
        dsimp only
        rw [if_neg hb]
        refine ⟨α2, p.2, xs, ys, t2, fun k a z => g2.pre k a (L.pre k a z), L.ext.trans g2.ext, fun b hb' o z => g2.keep b (List.mem_cons_of_mem _ hb') o (L.keep b hb' o z), D2, by have := L.len; omega, DrL.mono g2.ext (fun _ _ q => q) L.dr, ?_⟩
        rw [ht, hp]
        simp only [Mini.R.nox_ok, Mini.R.bind_ok, hb, if_false]
        rfl
  · rintro Hn ⟨αn, sn, xs, ys, L⟩
    have ht := L.tot
    rw [List.drop_length, Mini.lcF] at ht
    simp only [Mini.R.bind_ok, List.append_nil] at ht
    rw [ht] at q1
    obtain ⟨ei, t5, el⟩ := L.st.own nP L.at' L.dr
    refine q1 (αn ++ [D]) Hn ⟨fun k a z => ?_, by rw [ei]; exact L.ext, L.keep⟩ t5 _ ?_
    · have z2 := L.pre k a z
      rw [List.getElem?_append_left (List.getElem?_eq_some_iff.mp z2).1]
      exact z2
    · rw [Dr]
      exact ⟨D, el, rfl⟩
theorem sm_setLcO {elt tg iter : Expr} {ifs : List Expr} {scope : Scope} {x y : Str} {i j : Nat} {mi : Mini.A} {t : Mini.T} {m : Mini.M} {py spos : Pos} (hy : X.N[j]? = some y) (hyl : X.env.scope.names.lookup y = some .local)
    (hsw : swapsWith (.ListComp elt [⟨tg, iter, ifs, 0⟩] scope pos) (some (.Name y py)) spos.line X.env = pure true)
    (hc : X.calm = true) (hN : X.N.Nodup) (hi : PI X tg iter (tI X.K E mi)) (ok : BlkOk X.N X.env.scope scope [(x, i)])
    (hg : ∀ (s : Shared) (H : Hp) (C : Addr) (cl : List (Str × Addr)) (fp : List Addr), PG (X.blk s H scope (compEnvC scope cl C X.env) fp) tg (gName i)) (ht : ∀ (s : Shared) (H : Hp) (C : Addr) (cl : List (Str × Addr)) (fp : List Addr), PTs (X.blk s H scope (compEnvC scope cl C X.env) fp) ifs (tT X.K E00 t))
    (he : ∀ (s : Shared) (H : Hp) (C : Addr) (cl : List (Str × Addr)) (fp : List Addr), PE (X.blk s H scope (compEnvC scope cl C X.env) fp) elt (tM X.K E00 m)) (hs : ∀ x, foldedSetIterable iter X.env x = pure x := by intro _; rfl) :
    PS X (.Assign [.Name y py] (.ListComp elt [⟨tg, iter, ifs, 0⟩] scope pos) spos) (tS X.K E (Mini.sSet j (Mini.mLcO i mi t m))) :=
  (ps_setLc hc hN hy hyl hsw hi ok hg ht he hs).to fun D σ H ⟨P, α, e, s, hS, q⟩ => lc_toO (X := X) (E := E) σ H _ ⟨P, α, e, s, hS, (Post.unbind q).imp fun d s1 α1 H1 g1 t1 q1 v hv => by
    show D.nx (σ.set j (some v)) H1
    exact q1.here t1 _ ((hS.gr g1 t1).set hv)⟩
/-- a + b, a list of our own -/
theorem pm_ownCat {a b : Expr} {ma mb : Mini.M} (ha : PE X a (tM X.K E ma)) (hb : PE X b (tM X.K E mb)) : PE X (.BinOp a .Add b pos) (tM X.K E (Mini.mOwnCat ma mb)) := (pe_op op_cat ha hb).to fun σ H Q ⟨P, α, e, s, hS, q⟩ =>
  ⟨P, α, e, s, hS, (Post.unbind q).imp fun d s1 α1 H1 g1 t1 q1 v hv => ⟨P, α1, e, s1, hS.gr g1 t1, (Post.unbind q1).imp fun d2 s2 α2 H2 g2 t2 q2 u hu => by
    obtain ⟨ds, hz, q2⟩ := q2.unof
    dsimp only at hz q2
    have hx := rz_dr t2 (g2.dr hv)
    have hy := rz_dr t2 hu
    generalize Mini.rz s2 d = x' at *
    generalize Mini.rz s2 d2 = y' at *
    cases x' <;> cases y' <;> simp [Mini.catD] at hz
    obtain ⟨hl, rfl⟩ := hz
    obtain ⟨a, xs, rfl, h1, h2⟩ := hx
    obtain ⟨b, ys, rfl, h3, h4⟩ := hy
    refine ⟨a, b, xs, ys, rfl, rfl, h1, h3, sl (by rw [← h2.len, ← h4.len]; exact hl), fun p hp => ?_⟩
    obtain ⟨g3, t3, el⟩ := t2.newOwn (o := .L _) (ho := .lst (xs ++ ys)) hp ⟨_, rfl, h2.append h4⟩
    exact q2 _ _ g3 t3 _ (by rw [Dr]; exact ⟨p, el, rfl⟩)⟩⟩
end
theorem body_endK {K : PySem.W.Frag} {P α : List Addr} {s : Mini.Sto} {H : Hp} {E : XC} {names : Nat} {m : Mini.S} {ds : List Mini.D} {Q : VK} (h : Post K E P α H (Mini.runK names m ds s) fun d s' α' H' => ∀ v, Dr K (imm H' P α') α' d v → Q v H') :
    Post K E P α H (m (Mini.ent names ds) s) (endK K P { nx := fun _ H' => Q .non H', rt := Q }) := by
  unfold Mini.runK at h
  cases hm : m (Mini.ent names ds) s with
  | bad => rw [hm] at h; exact h.elim
  | exc c => rw [hm] at h; exact h
  | ok p =>
    rw [hm] at h
    obtain ⟨o, s1⟩ := p
    intro α1 H1 g1 t1
    cases o with
    | nx e =>
      simp only [Mini.fin, Mini.R.bind_ok] at h
      exact fun σ _ => h α1 H1 g1 t1 .non (by simp [Dr])
    | rt d =>
      simp only [Mini.fin, Mini.R.bind_ok] at h
      exact fun v hv => h α1 H1 g1 t1 v hv
    | bk e => simp only [Mini.fin, Mini.R.bind_ok, Mini.R.bind_bad] at h; exact h.elim
    | ct e => simp only [Mini.fin, Mini.R.bind_ok, Mini.R.bind_bad] at h; exact h.elim
section
variable {P : Program} {w : World} {K : PySem.W.Frag} {mg : Str → Option Value} {base : Heap} {x qual : Str} {st : Stmt} {f : Addr} {fd : FuncData} {N ps : List Str} {k : Nat} {m : Mini.S} {C : Nat → Addr}
/-- a def whose own objects go over to its caller -/
theorem fn_GK (F : Fun K x qual st f fd) (S : FnScope N ps (defScope st))
    (body : ∀ cdv A outer s H E, Room k (A.deeper (envOfC qual (defScope st) s.heap.objs.size f cdv)) → PSs (cx0 P w K mg base N qual st f cdv A outer s H E) (defBody st) (tS K E00 m)) :
    FnOk P w K mg base CX0 (k + 1) f fd ps (spG K C ps.length fun ds s => (Mini.runK N.length m ds s).nox) := by
  refine F.ok S (fun vs H Q E q => q.1) fun cdv A outer s H vs Q E hr q => ⟨_, body cdv A outer s H E hr, ?_⟩
  obtain ⟨hn, Pr, α, s0, ds, hs, hd, q⟩ := q
  refine ⟨Pr, α, Mini.ent N.length ds, s0, ⟨hs, ent_env hd⟩, body_endK ?_⟩
  dsimp only at q
  cases h : Mini.runK N.length m ds s0 with
  | bad => rw [h] at q; exact q.elim
  | exc c => rw [h] at q; exact q.elim
  | ok p => rw [h] at q; exact q
end
end Snd
end
section
namespace Bd
open Mini
/-- parted(entry, then, eager); 0 entry, 1 then, 2 eager -/
noncomputable def b_p_parted  : S :=
  (sCons (sIf (tT (mV 2)) (sRet (mTup (aCons (mC (.str [112, 97, 114, 116])) (aCons (mV 0) (aCons (mV 1) aNil))))) sNil)
    (sRet (mTup (aCons (mC (.str [112, 97, 114, 116])) (aCons (mV 1) (aCons (mV 0) aNil))))))
noncomputable def f_p_parted : List D → R D := fun ds => (run 3 b_p_parted ds).nox
/-- picked(parts, then, steps); 0 parts, 1 then, 2 steps, 3 entries, 4 part, 5 here, 6 entry -/
noncomputable def b_p_picked (r_p_built : F) : S :=
  (sCons (sSet 3 (mLc 4 (iSeq (mV 0)) tYes (mCallG r_p_built (aCons (mV 4) (aCons (mV 1) (aCons (mV 2) aNil))))))
    (sCons (sSet 5 (mOp opIx (mV 3) (mNeg (mC (.int 1)))))
    (sCons (sFor 6 (iRev (mSl (mV 3) poN (poS (mNeg (mC (.int 1)))))) (sCons (sEx (mApp (mV 2) (mTup (aCons (mC (.str [112, 97, 114, 116])) (aCons (mV 6) (aCons (mV 5) aNil))))))
    (sSet 5 (mOp opSub (mB bLen (mV 2)) (mC (.int 1))))))
    (sRet (mV 5)))))
/-- built(tree, then, steps); 0 tree, 1 then, 2 steps, 3 part, 4 here -/
noncomputable def b_p_built (r_p_picked : F) (r_p_built : F) : S :=
  (sCons (sIf (tV (mOp opEq (mOp opIx (mV 0) (mC (.int 0))) (mC (.str [116, 97, 107, 101])))) (sCons (sEx (mApp (mV 2) (mTup (aCons (mC (.str [116, 97, 107, 101])) (aCons (mOp opIx (mV 0) (mC (.int 1))) (aCons (mOp opIx (mV 0) (mC (.int 2))) (aCons (mV 1) aNil)))))))
    (sRet (mOp opSub (mB bLen (mV 2)) (mC (.int 1))))) sNil)
    (sCons (sIf (tV (mOp opEq (mOp opIx (mV 0) (mC (.int 0))) (mC (.str [114, 111, 119])))) (sCons (sFor 3 (iRev (mOp opIx (mV 0) (mC (.int 1)))) (sSet 1 (mCallG r_p_built (aCons (mV 3) (aCons (mV 1) (aCons (mV 2) aNil))))))
    (sRet (mV 1))) sNil)
    (sCons (sIf (tV (mOp opEq (mOp opIx (mV 0) (mC (.int 0))) (mC (.str [112, 105, 99, 107])))) (sRet (mCallG r_p_picked (aCons (mOp opIx (mV 0) (mC (.int 1))) (aCons (mV 1) (aCons (mV 2) aNil))))) sNil)
    (sCons (sSet 4 (mB bLen (mV 2)))
    (sCons (sEx (mApp (mV 2) (mC .non)))
    (sCons (sIf (tV (mOp opEq (mOp opIx (mV 0) (mC (.int 0))) (mC (.str [109, 97, 110, 121])))) (sPut (mV 2) (mV 4) (mCall f_p_parted (aCons (mCallG r_p_built (aCons (mOp opIx (mV 0) (mC (.int 1))) (aCons (mV 4) (aCons (mV 2) aNil)))) (aCons (mV 1) (aCons (mOp opIx (mV 0) (mC (.int 2))) aNil))))) (sPut (mV 2) (mV 4) (mCall f_p_parted (aCons (mCallG r_p_built (aCons (mOp opIx (mV 0) (mC (.int 1))) (aCons (mV 1) (aCons (mV 2) aNil)))) (aCons (mV 1) (aCons (mOp opIx (mV 0) (mC (.int 2))) aNil))))))
    (sRet (mV 4))))))))
mutual
noncomputable def f_p_picked : Nat → F
  | 0 => fun _ _ => .bad
  | n + 1 => fun ds s => (runG 7 (b_p_picked (f_p_built n)) ds s).nox
noncomputable def f_p_built : Nat → F
  | 0 => fun _ _ => .bad
  | n + 1 => fun ds s => (runG 5 (b_p_built (f_p_picked n) (f_p_built n)) ds s).nox
end
/-- net_of(tree); 0 tree, 1 steps, 2 start -/
noncomputable def b_p_net_of  : S :=
  (sCons (sOwnL 1 (aCons (mTup (aCons (mC (.str [101, 110, 100])) aNil)) aNil))
    (sCons (sSet 2 (mCallG (f_p_built 200) (aCons (mV 0) (aCons (mC (.int 0)) (aCons (mV 1) aNil)))))
    (sRet (mTup (aCons (mV 2) (aCons (mV 1) aNil))))))
noncomputable def f_p_net_of : List D → R D := fun ds => (run 3 b_p_net_of ds).nox
/-- net_of__K(tree); 0 tree, 1 steps, 2 start -/
noncomputable def b_p_net_of__K  : S :=
  (sCons (sOwnL 1 (aCons (mTup (aCons (mC (.str [101, 110, 100])) aNil)) aNil))
    (sCons (sSet 2 (mCallG (f_p_built 200) (aCons (mV 0) (aCons (mC (.int 0)) (aCons (mV 1) aNil)))))
    (sRet (mTup (aCons (mV 2) (aCons (mV 1) aNil))))))
noncomputable def f_p_net_of__K : F := fun ds s => (runK 3 b_p_net_of__K ds s).nox
/-- _law_cell_at(_law_script, _law_k); 0 _law_script, 1 _law_k -/
noncomputable def b_l_cell_at  : S :=
  (sCons (sIf (tV (mOp opLt (mV 1) (mB bLen (mV 0)))) (sRet (mOp opIx (mV 0) (mV 1))) sNil)
    (sRet (mC (.int 0))))
noncomputable def f_l_cell_at : List D → R D := fun ds => (run 2 b_l_cell_at ds).nox
/-- _law_sign_by(_law_cell); 0 _law_cell, 1 _law_some -/
noncomputable def b_l_sign_by  : S :=
  (sCons (sSet 1 (mC (.str [32, 33, 34, 35, 36, 38, 39, 40, 41, 42, 43, 44, 45, 46, 47, 48, 49, 50, 51, 52, 53, 54, 55, 56, 57, 58, 59, 60, 61, 62, 63, 64, 65, 66, 67, 68, 69, 70, 71, 72, 73, 74, 75, 76, 77, 78, 79, 80, 81, 82, 83, 84, 85, 86, 87, 88, 89, 90, 91, 92, 93, 94, 95, 96])))
    (sCons (sSet 1 (mOp opAdd (mV 1) (mC (.str [97, 98, 99, 100, 101, 102, 103, 104, 105, 106, 107, 108, 109, 110, 111, 112, 113, 114, 115, 116, 117, 118, 119, 120, 121, 122, 123, 124, 125, 126, 10, 9]))))
    (sRet (mOp opIx (mV 1) (mOp opMod (mV 0) (mC (.int 96)))))))
noncomputable def f_l_sign_by : List D → R D := fun ds => (run 2 b_l_sign_by ds).nox
/-- _law_three_by(_law_cell); 0 _law_cell -/
noncomputable def b_l_three_by  : S :=
  (sRet (mOp opAdd (mOp opAdd (mCall f_l_sign_by (aCons (mV 0) aNil)) (mCall f_l_sign_by (aCons (mOp opAdd (mV 0) (mC (.int 31))) aNil))) (mCall f_l_sign_by (aCons (mOp opAdd (mV 0) (mC (.int 62))) aNil))))
noncomputable def f_l_three_by : List D → R D := fun ds => (run 1 b_l_three_by ds).nox
/-- _law_whole(_law_found); 0 _law_found -/
noncomputable def b_l_whole  : S :=
  (sRet (mAnd (mB (isTy .int) (mV 0)) (mNot (mB (isTy .bool) (mV 0)))))
noncomputable def f_l_whole : List D → R D := fun ds => (run 1 b_l_whole ds).nox
/-- _law_take_by(_law_cell, _law_three); 0 _law_cell, 1 _law_three, 2 _law_way, 3 _law_some, 4 _law_many, 5 _law_k -/
noncomputable def b_l_take_by_7 : S := (sRet (mTup (aCons (mC (.str [116, 97, 107, 101])) (aCons (mOp opEq (mV 2) (mC (.int 2))) (aCons (mSl (mV 3) poN (poS (mV 4))) aNil)))))
noncomputable def b_l_take_by_6 : S := (sCons (sFor 5 (iR1 (mV 4)) (sSet 3 (mOp opAdd (mV 3) (mCall f_l_sign_by (aCons (mOp opAdd (mOp opDiv (mV 0) (mC (.int 3456))) (mOp opMul (mC (.int 37)) (mV 5))) aNil))))) b_l_take_by_7)
noncomputable def b_l_take_by_5 : S := (sCons (sIf (tV (mOp opEq (mV 4) (mC (.int 3)))) (sSet 4 (mOp opAdd (mC (.int 3)) (mOp opMod (mOp opDiv (mV 0) (mC (.int 288))) (mC (.int 12))))) sNil) b_l_take_by_6)
noncomputable def b_l_take_by_4 : S := (sCons (sSet 4 (mOp opMod (mOp opDiv (mV 0) (mC (.int 72))) (mC (.int 4)))) b_l_take_by_5)
noncomputable def b_l_take_by_3 : S := (sCons (sIf (tV (mOp opGt (mV 2) (mC (.int 2)))) (sRet (mTup (aCons (mC (.str [116, 97, 107, 101])) (aCons (mC (.bl true)) (aCons (mSl (mV 3) poN (poS (mC (.int 1)))) aNil))))) sNil) b_l_take_by_4)
noncomputable def b_l_take_by_2 : S := (sCons (sIf (tV (mOp opEq (mV 2) (mC (.int 0)))) (sRet (mTup (aCons (mC (.str [116, 97, 107, 101])) (aCons (mC (.bl false)) (aCons (mC (.str [])) aNil))))) sNil) b_l_take_by_3)
noncomputable def b_l_take_by_1 : S := (sCons (sSet 3 (mOp opAdd (mOp opIx (mV 1) (mOp opMod (mOp opDiv (mV 0) (mC (.int 8))) (mC (.int 3)))) (mOp opIx (mV 1) (mOp opMod (mOp opDiv (mV 0) (mC (.int 24))) (mC (.int 3)))))) b_l_take_by_2)
noncomputable def b_l_take_by  : S :=
  (sCons (sSet 2 (mOp opMod (mV 0) (mC (.int 8)))) b_l_take_by_1)
noncomputable def f_l_take_by : List D → R D := fun ds => (run 6 b_l_take_by ds).nox
/-- _law_joined_by(_law_way, _law_stack, _law_many); 0 _law_way, 1 _law_stack, 2 _law_many, 3 _law_parts, 4 _law_kept, 5 _law_tree, 6 _law_part, 7 _law_is_bare, 8 _law_count, 9 _law_deep -/
noncomputable def b_l_joined_by_7 : S := (sRet (mOp opAdd (mV 4) (mLst (aCons (mTup (aCons (mV 5) (aCons (mV 7) (aCons (mV 8) (aCons (mV 9) aNil))))) aNil))))
noncomputable def b_l_joined_by_6 : S := (sCons (sSet 9 (mOp opAdd (mC (.int 1)) (mB bMax (mLc 6 (iSeq (mV 3)) tYes (mOp opIx (mV 6) (mC (.int 3))))))) b_l_joined_by_7)
noncomputable def b_l_joined_by_5 : S := (sCons (sIf (tV (mOp opEq (mV 0) (mC (.int 5)))) (sCons (sSet 5 (mTup (aCons (mC (.str [112, 105, 99, 107])) (aCons (mOp opIx (mV 5) (mC (.int 1))) aNil))))
    (sCons (sSet 7 (mB bAny (mLc 6 (iSeq (mV 3)) tYes (mOp opIx (mV 6) (mC (.int 1))))))
    (sSet 8 (mOp opSub (mOp opAdd (mV 8) (mV 2)) (mC (.int 1)))))) sNil) b_l_joined_by_6)
noncomputable def b_l_joined_by_4 : S := (sCons (sSet 8 (mB bSum (mLc 6 (iSeq (mV 3)) tYes (mOp opIx (mV 6) (mC (.int 2)))))) b_l_joined_by_5)
noncomputable def b_l_joined_by_3 : S := (sCons (sSet 7 (mB bAll (mLc 6 (iSeq (mV 3)) tYes (mOp opIx (mV 6) (mC (.int 1)))))) b_l_joined_by_4)
noncomputable def b_l_joined_by_2 : S := (sCons (sSet 5 (mTup (aCons (mC (.str [114, 111, 119])) (aCons (mB bTup (mLc 6 (iSeq (mV 3)) tYes (mOp opIx (mV 6) (mC (.int 0))))) aNil)))) b_l_joined_by_3)
noncomputable def b_l_joined_by_1 : S := (sCons (sSet 4 (mSl (mV 1) poN (poS (mOp opSub (mB bLen (mV 1)) (mV 2))))) b_l_joined_by_2)
noncomputable def b_l_joined_by  : S :=
  (sCons (sSet 3 (mSl (mV 1) (poS (mOp opSub (mB bLen (mV 1)) (mV 2))) poN)) b_l_joined_by_1)
noncomputable def f_l_joined_by : List D → R D := fun ds => (run 10 b_l_joined_by ds).nox
/-- _law_put_by(_law_stack, _law_cell, _law_three); 0 _law_stack, 1 _law_cell, 2 _law_three, 3 _law_way, 4 _law_rest, 5 _law_high, 6 _law_last, 7 _law_many, 8 _law_part -/
noncomputable def b_l_put_by_8 : S := (sRet (mOp opAdd (mV 0) (mLst (aCons (mTup (aCons (mCall f_l_take_by (aCons (mV 4) (aCons (mV 2) aNil))) (aCons (mC (.bl false)) (aCons (mC (.int 1)) (aCons (mC (.int 1)) aNil))))) aNil))))
noncomputable def b_l_put_by_7 : S := (sCons (sIf (tAnd (tV (mOp opEq (mV 3) (mC (.int 8)))) (tV (mOp opEq (mOp opMod (mV 4) (mC (.int 3))) (mC (.int 0))))) (sRet (mOp opAdd (mV 0) (mLst (aCons (mTup (aCons (mTup (aCons (mC (.str [114, 111, 119])) (aCons (mTup aNil) aNil))) (aCons (mC (.bl true)) (aCons (mC (.int 0)) (aCons (mC (.int 1)) aNil))))) aNil)))) sNil) b_l_put_by_8)
noncomputable def b_l_put_by_6 : S := (sCons (sIf (tAnd (tOr (tV (mOp opEq (mV 3) (mC (.int 4)))) (tV (mOp opEq (mV 3) (mC (.int 5))))) (tV (mOp opGt (mB bLen (mV 0)) (mC (.int 1))))) (sCons (sSet 7 (mOp opAdd (mC (.int 2)) (mOp opMod (mV 4) (mOp opMin (mC (.int 7)) (mOp opSub (mB bLen (mV 0)) (mC (.int 1)))))))
    (sIf (tV (mOp opLt (mB bMax (mLc 8 (iSeq (mSl (mV 0) (poS (mOp opSub (mB bLen (mV 0)) (mV 7))) poN)) tYes (mOp opIx (mV 8) (mC (.int 3))))) (mC (.int 12)))) (sRet (mCall f_l_joined_by (aCons (mV 3) (aCons (mV 0) (aCons (mV 7) aNil))))) sNil)) sNil) b_l_put_by_7)
noncomputable def b_l_put_by_5 : S := (sCons (sIf (tAnd (tV (mOp opEq (mV 3) (mC (.int 7)))) (tAnd (tV (mChain opLt opLt (mC (.int 0)) (mV 5) (mC (.int 12)))) (tNot (tT (mOp opIx (mOp opIx (mV 0) (mNeg (mC (.int 1)))) (mC (.int 1))))))) (sCons (sSet 6 (mOp opIx (mV 0) (mNeg (mC (.int 1)))))
    (sRet (mOp opAdd (mSl (mV 0) poN (poS (mNeg (mC (.int 1))))) (mLst (aCons (mTup (aCons (mTup (aCons (mC (.str [109, 97, 110, 121])) (aCons (mOp opIx (mV 6) (mC (.int 0))) (aCons (mOp opGt (mOp opMod (mV 4) (mC (.int 3))) (mC (.int 0))) aNil)))) (aCons (mC (.bl true)) (aCons (mOp opAdd (mOp opIx (mV 6) (mC (.int 2))) (mC (.int 1))) (aCons (mOp opAdd (mV 5) (mC (.int 1))) aNil))))) aNil))))) sNil) b_l_put_by_6)
noncomputable def b_l_put_by_4 : S := (sCons (sIf (tAnd (tV (mOp opEq (mV 3) (mC (.int 6)))) (tV (mChain opLt opLt (mC (.int 0)) (mV 5) (mC (.int 12))))) (sCons (sSet 6 (mOp opIx (mV 0) (mNeg (mC (.int 1)))))
    (sRet (mOp opAdd (mSl (mV 0) poN (poS (mNeg (mC (.int 1))))) (mLst (aCons (mTup (aCons (mTup (aCons (mC (.str [109, 97, 121, 98, 101])) (aCons (mOp opIx (mV 6) (mC (.int 0))) (aCons (mOp opGt (mOp opMod (mV 4) (mC (.int 3))) (mC (.int 0))) aNil)))) (aCons (mC (.bl true)) (aCons (mOp opAdd (mOp opIx (mV 6) (mC (.int 2))) (mC (.int 1))) (aCons (mOp opAdd (mV 5) (mC (.int 1))) aNil))))) aNil))))) sNil) b_l_put_by_5)
noncomputable def b_l_put_by_3 : S := (sCons (sIf (tT (mV 0)) (sSet 5 (mOp opIx (mOp opIx (mV 0) (mNeg (mC (.int 1)))) (mC (.int 3)))) sNil) b_l_put_by_4)
noncomputable def b_l_put_by_2 : S := (sCons (sSet 5 (mC (.int 0))) b_l_put_by_3)
noncomputable def b_l_put_by_1 : S := (sCons (sSet 4 (mOp opDiv (mV 1) (mC (.int 9)))) b_l_put_by_2)
noncomputable def b_l_put_by  : S :=
  (sCons (sSet 3 (mOp opMod (mV 1) (mC (.int 9)))) b_l_put_by_1)
noncomputable def f_l_put_by : List D → R D := fun ds => (run 9 b_l_put_by ds).nox
/-- _law_tree_by(_law_cells, _law_three); 0 _law_cells, 1 _law_three, 2 _law_stack, 3 _law_cell -/
noncomputable def b_l_tree_by  : S :=
  (sCons (sSet 2 (mLst aNil))
    (sCons (sFor 3 (iSeq (mV 0)) (sSet 2 (mCall f_l_put_by (aCons (mV 2) (aCons (mV 3) (aCons (mV 1) aNil))))))
    (sCons (sIf (tV (mOp opEq (mB bLen (mV 2)) (mC (.int 0)))) (sRet (mTup (aCons (mTup (aCons (mC (.str [114, 111, 119])) (aCons (mTup aNil) aNil))) (aCons (mC (.bl true)) (aCons (mC (.int 0)) (aCons (mC (.int 1)) aNil)))))) sNil)
    (sCons (sIf (tV (mOp opEq (mB bLen (mV 2)) (mC (.int 1)))) (sRet (mOp opIx (mV 2) (mC (.int 0)))) sNil)
    (sRet (mOp opIx (mCall f_l_joined_by (aCons (mOp opAdd (mC (.int 4)) (mB bInt (mOp opEq (mOp opMod (mOp opIx (mV 0) (mC (.int 0))) (mC (.int 3))) (mC (.int 1))))) (aCons (mV 2) (aCons (mB bLen (mV 2)) aNil)))) (mC (.int 0))))))))
noncomputable def f_l_tree_by : List D → R D := fun ds => (run 4 b_l_tree_by ds).nox
/-- _law_text_by(_law_cells, _law_three); 0 _law_cells, 1 _law_three, 2 _law_some, 3 _law_cell, 4 _law_sign -/
noncomputable def c_l_text_by_1 : S := (sCons (sSet 4 (mOp opIx (mV 1) (mOp opMod (mV 3) (mC (.int 3)))))
    (sCons (sIf (tV (mOp opEq (mOp opMod (mV 3) (mC (.int 11))) (mC (.int 10)))) (sSet 4 (mCall f_l_sign_by (aCons (mOp opDiv (mV 3) (mC (.int 11))) aNil))) sNil)
    (sSet 2 (mOp opAdd (mV 2) (mV 4)))))
noncomputable def b_l_text_by  : S :=
  (sCons (sSet 2 (mC (.str [])))
    (sCons (sFor 3 (iSeq (mV 0)) c_l_text_by_1)
    (sRet (mV 2))))
noncomputable def f_l_text_by : List D → R D := fun ds => (run 5 b_l_text_by ds).nox
/-- _law_once(_law_ends_here); 0 _law_ends_here, 1 _law_kept, 2 _law_end -/
noncomputable def c_l_once_1 : S := (sIf (tV (mOp opNotIn (mV 2) (mV 1))) (sEx (mApp (mV 1) (mV 2))) sNil)
noncomputable def b_l_once  : S :=
  (sCons (sOwnL 1 aNil)
    (sCons (sFor 2 (iSeq (mV 0)) c_l_once_1)
    (sRet (mV 1))))
noncomputable def f_l_once : List D → R D := fun ds => (run 3 b_l_once ds).nox
/-- _law_behind(_law_ends_here, _law_more); 0 _law_ends_here, 1 _law_more, 2 _law_far, 3 _law_end -/
noncomputable def c_l_behind_1 : S := (sSet 2 (mOp opAdd (mV 2) (mOp opIx (mV 1) (mV 3))))
noncomputable def b_l_behind  : S :=
  (sCons (sSet 2 (mLst aNil))
    (sCons (sFor 3 (iSeq (mV 0)) c_l_behind_1)
    (sRet (mCall f_l_once (aCons (mV 2) aNil)))))
noncomputable def f_l_behind : List D → R D := fun ds => (run 4 b_l_behind ds).nox
/-- _law_taken(_law_tree, _law_signs, _law_at); 0 _law_tree, 1 _law_signs, 2 _law_at -/
noncomputable def b_l_taken  : S :=
  (sCons (sIf (tAnd (tV (mOp opLt (mV 2) (mB bLen (mV 1)))) (tV (mOp opEq (mOp opIn (mOp opIx (mV 1) (mV 2)) (mOp opIx (mV 0) (mC (.int 2)))) (mOp opIx (mV 0) (mC (.int 1)))))) (sRet (mLst (aCons (mOp opAdd (mV 2) (mC (.int 1))) aNil))) sNil)
    (sRet (mLst aNil)))
noncomputable def f_l_taken : List D → R D := fun ds => (run 3 b_l_taken ds).nox
/-- _law_repeated(_law_tree, _law_more); 0 _law_tree, 1 _law_more, 2 _law_ends_here, 3 _law_k, 4 _law_at, 5 _law_far -/
noncomputable def c_l_repeated_1 : S := (sCons (sSet 4 (mOp opSub (mOp opSub (mB bLen (mV 1)) (mC (.int 1))) (mV 3)))
    (sCons (sSet 5 (mOp opIx (mV 1) (mV 4)))
    (sCons (sIf (tV (mOp opEq (mOp opIx (mV 0) (mC (.int 0))) (mC (.str [109, 97, 110, 121])))) (sSet 5 (mCall f_l_behind (aCons (mOp opIx (mV 1) (mV 4)) (aCons (mOp opAdd (mOp opMul (mLst (aCons (mLst aNil) aNil)) (mOp opAdd (mV 4) (mC (.int 1)))) (mV 2)) aNil)))) sNil)
    (sCons (sIf (tT (mOp opIx (mV 0) (mC (.int 2)))) (sSet 5 (mOp opAdd (mV 5) (mLst (aCons (mV 4) aNil)))) (sSet 5 (mOp opAdd (mLst (aCons (mV 4) aNil)) (mV 5))))
    (sSet 2 (mOp opAdd (mLst (aCons (mCall f_l_once (aCons (mV 5) aNil)) aNil)) (mV 2)))))))
noncomputable def b_l_repeated  : S :=
  (sCons (sSet 2 (mLst aNil))
    (sCons (sFor 3 (iR1 (mB bLen (mV 1))) c_l_repeated_1)
    (sRet (mV 2))))
noncomputable def f_l_repeated : List D → R D := fun ds => (run 6 b_l_repeated ds).nox
/-- _law_ends(_law_tree, _law_signs); 0 _law_tree, 1 _law_signs, 2 _law_places, 3 _law_at, 4 _law_ends_here, 5 _law_part, 6 _law_more -/
noncomputable def b_l_ends (r_l_ends : List D → R D) : S :=
  (sCons (sSet 2 (mOp opAdd (mB bLen (mV 1)) (mC (.int 1))))
    (sCons (sIf (tV (mOp opEq (mOp opIx (mV 0) (mC (.int 0))) (mC (.str [116, 97, 107, 101])))) (sRet (mLc 3 (iR1 (mV 2)) tYes (mCall f_l_taken (aCons (mV 0) (aCons (mV 1) (aCons (mV 3) aNil)))))) sNil)
    (sCons (sIf (tV (mOp opEq (mOp opIx (mV 0) (mC (.int 0))) (mC (.str [114, 111, 119])))) (sCons (sSet 4 (mLc 3 (iR1 (mV 2)) tYes (mLst (aCons (mV 3) aNil))))
    (sCons (sFor 5 (iSeq (mOp opIx (mV 0) (mC (.int 1)))) (sCons (sSet 6 (mCall r_l_ends (aCons (mV 5) (aCons (mV 1) aNil))))
    (sSet 4 (mLc 3 (iR1 (mV 2)) tYes (mCall f_l_behind (aCons (mOp opIx (mV 4) (mV 3)) (aCons (mV 6) aNil)))))))
    (sRet (mV 4)))) sNil)
    (sCons (sIf (tV (mOp opEq (mOp opIx (mV 0) (mC (.int 0))) (mC (.str [112, 105, 99, 107])))) (sCons (sSet 4 (mLc 3 (iR1 (mV 2)) tYes (mLst aNil)))
    (sCons (sFor 5 (iSeq (mOp opIx (mV 0) (mC (.int 1)))) (sCons (sSet 6 (mCall r_l_ends (aCons (mV 5) (aCons (mV 1) aNil))))
    (sSet 4 (mLc 3 (iR1 (mV 2)) tYes (mCall f_l_once (aCons (mOp opAdd (mOp opIx (mV 4) (mV 3)) (mOp opIx (mV 6) (mV 3))) aNil))))))
    (sRet (mV 4)))) sNil)
    (sRet (mCall f_l_repeated (aCons (mV 0) (aCons (mCall r_l_ends (aCons (mOp opIx (mV 0) (mC (.int 1))) (aCons (mV 1) aNil))) aNil))))))))
noncomputable def f_l_ends : Nat → List D → R D
  | 0 => fun _ => .bad
  | n + 1 => fun ds => (run 7 (b_l_ends (f_l_ends n)) ds).nox
/-- _law_step_right(_law_step, _law_many); 0 _law_step, 1 _law_many, 2 _law_numbers, 3 _law_number -/
noncomputable def b_l_step_right  : S :=
  (sCons (sIf (tOr (tNot (tT (mB (isTy .tuple) (mV 0)))) (tOr (tV (mOp opEq (mB bLen (mV 0)) (mC (.int 0)))) (tNot (tT (mB (isTy .str) (mOp opIx (mV 0) (mC (.int 0)))))))) (sRet (mC (.bl false))) sNil)
    (sCons (sIf (tV (mOp opEq (mOp opIx (mV 0) (mC (.int 0))) (mC (.str [101, 110, 100])))) (sRet (mOp opEq (mB bLen (mV 0)) (mC (.int 1)))) sNil)
    (sCons (sSet 2 (mSl (mV 0) (poS (mC (.int 1))) poN))
    (sCons (sIf (tV (mOp opEq (mOp opIx (mV 0) (mC (.int 0))) (mC (.str [116, 97, 107, 101])))) (sCons (sIf (tOr (tV (mOp opNe (mB bLen (mV 0)) (mC (.int 4)))) (tOr (tNot (tT (mB (isTy .bool) (mOp opIx (mV 0) (mC (.int 1)))))) (tNot (tT (mB (isTy .str) (mOp opIx (mV 0) (mC (.int 2)))))))) (sRet (mC (.bl false))) sNil)
    (sSet 2 (mSl (mV 0) (poS (mC (.int 3))) poN))) (sIf (tOr (tV (mOp opNe (mOp opIx (mV 0) (mC (.int 0))) (mC (.str [112, 97, 114, 116])))) (tV (mOp opNe (mB bLen (mV 0)) (mC (.int 3))))) (sRet (mC (.bl false))) sNil))
    (sRet (mB bAll (mLc 3 (iSeq (mV 2)) tYes (mAnd (mCall f_l_whole (aCons (mV 3) aNil)) (mChain opLe opLt (mC (.int 0)) (mV 3) (mV 1))))))))))
noncomputable def f_l_step_right : List D → R D := fun ds => (run 4 b_l_step_right ds).nox
/-- _law_net_right(_law_net, _law_many); 0 _law_net, 1 _law_many, 2 _law_step -/
noncomputable def b_l_net_right  : S :=
  (sCons (sIf (tOr (tNot (tT (mB (isTy .tuple) (mV 0)))) (tOr (tV (mOp opNe (mB bLen (mV 0)) (mC (.int 2)))) (tNot (tT (mB (isTy .list) (mOp opIx (mV 0) (mC (.int 1)))))))) (sRet (mC (.bl false))) sNil)
    (sCons (sIf (tOr (tV (mOp opNe (mB bLen (mOp opIx (mV 0) (mC (.int 1)))) (mV 1))) (tOr (tNot (tT (mCall f_l_whole (aCons (mOp opIx (mV 0) (mC (.int 0))) aNil)))) (tNot (tV (mChain opLe opLt (mC (.int 0)) (mOp opIx (mV 0) (mC (.int 0))) (mV 1)))))) (sRet (mC (.bl false))) sNil)
    (sCons (sIf (tNot (tT (mB bAll (mLc 2 (iSeq (mOp opIx (mV 0) (mC (.int 1)))) tYes (mCall f_l_step_right (aCons (mV 2) (aCons (mV 1) aNil))))))) (sRet (mC (.bl false))) sNil)
    (sRet (mOp opEq (mB bLen (mLc 2 (iSeq (mOp opIx (mV 0) (mC (.int 1)))) (tV (mOp opEq (mOp opIx (mV 2) (mC (.int 0))) (mC (.str [101, 110, 100])))) (mV 2))) (mC (.int 1)))))))
noncomputable def f_l_net_right : List D → R D := fun ds => (run 3 b_l_net_right ds).nox
/-- _law_led(_law_steps, _law_signs, _law_at, _law_further); 0 _law_steps, 1 _law_signs, 2 _law_at, 3 _law_further, 4 _law_told, 5 _law_step, 6 _law_turn, 7 _law_more -/
noncomputable def c_l_led_1 : S := (sIf (tV (mOp opEq (mOp opIx (mV 5) (mC (.int 0))) (mC (.str [101, 110, 100])))) (sEx (mApp (mV 7) (mLst (aCons (mV 2) aNil)))) (sIf (tV (mOp opEq (mOp opIx (mV 5) (mC (.int 0))) (mC (.str [112, 97, 114, 116])))) (sEx (mApp (mV 7) (mCall f_l_once (aCons (mOp opAdd (mOp opIx (mV 4) (mOp opIx (mV 5) (mC (.int 1)))) (mOp opIx (mV 4) (mOp opIx (mV 5) (mC (.int 2))))) aNil)))) (sIf (tAnd (tV (mOp opLt (mV 2) (mB bLen (mV 1)))) (tV (mOp opEq (mOp opIn (mOp opIx (mV 1) (mV 2)) (mOp opIx (mV 5) (mC (.int 2)))) (mOp opIx (mV 5) (mC (.int 1)))))) (sEx (mApp (mV 7) (mOp opIx (mV 3) (mOp opIx (mV 5) (mC (.int 3)))))) (sEx (mApp (mV 7) (mLst aNil))))))
noncomputable def c_l_led_2 : S := (sCons (sOwnL 7 aNil)
    (sCons (sFor 5 (iSeq (mV 0)) c_l_led_1)
    (sCons (sIf (tV (mOp opEq (mV 7) (mV 4))) (sRet (mV 4)) sNil)
    (sSet 4 (mV 7)))))
noncomputable def b_l_led  : S :=
  (sCons (sSet 4 (mLc 5 (iSeq (mV 0)) tYes (mLst aNil)))
    (sCons (sFor 6 (iR1 (mOp opAdd (mB bLen (mV 0)) (mC (.int 1)))) c_l_led_2)
    (sRet (mV 4))))
noncomputable def f_l_led : List D → R D := fun ds => (run 8 b_l_led ds).nox
/-- _law_pick_by(_law_cell, _law_many); 0 _law_cell, 1 _law_many, 2 _law_parts, 3 _law_k, 4 _law_one, 5 _law_some -/
noncomputable def c_l_pick_by_1 : S := (sCons (sSet 4 (mTup (aCons (mC (.str [116, 97, 107, 101])) (aCons (mC (.bl true)) (aCons (mCall f_l_sign_by (aCons (mOp opAdd (mV 0) (mOp opMul (mC (.int 7)) (mV 3))) aNil)) aNil)))))
    (sCons (sIf (tV (mOp opEq (mOp opMod (mV 3) (mC (.int 3))) (mC (.int 1)))) (sSet 4 (mTup (aCons (mC (.str [114, 111, 119])) (aCons (mTup (aCons (mV 4) (aCons (mTup (aCons (mC (.str [116, 97, 107, 101])) (aCons (mOp opEq (mOp opMod (mV 3) (mC (.int 2))) (mC (.int 0))) (aCons (mCall f_l_sign_by (aCons (mOp opAdd (mV 0) (mOp opMul (mC (.int 11)) (mV 3))) aNil)) aNil)))) aNil))) aNil)))) sNil)
    (sEx (mApp (mV 2) (mV 4)))))
noncomputable def b_l_pick_by  : S :=
  (sCons (sOwnL 2 aNil)
    (sCons (sFor 3 (iR1 (mV 1)) c_l_pick_by_1)
    (sCons (sSet 5 (mB (joinD []) (mLc 3 (iR1 (mOp opAdd (mC (.int 15)) (mOp opMod (mOp opDiv (mV 0) (mC (.int 96))) (mC (.int 75))))) tYes (mCall f_l_sign_by (aCons (mOp opAdd (mV 0) (mOp opMul (mC (.int 5)) (mV 3))) aNil)))))
    (sRet (mTup (aCons (mC (.str [112, 105, 99, 107])) (aCons (mB bTup (mOp opAdd (mV 2) (mLst (aCons (mTup (aCons (mC (.str [116, 97, 107, 101])) (aCons (mOp opEq (mOp opMod (mV 0) (mC (.int 2))) (mC (.int 0))) (aCons (mV 5) aNil)))) aNil)))) aNil)))))))
noncomputable def f_l_pick_by : List D → R D := fun ds => (run 6 b_l_pick_by ds).nox
/-- _law_led_right(_law_tree, _law_signs, _law_many); 0 _law_tree, 1 _law_signs, 2 _law_many, 3 _law_net, 4 _law_other, 5 _law_due, 6 _law_further, 7 _law_k, 8 _law_at -/
noncomputable def c_l_led_right_1 : S := (sCons (sSet 8 (mOp opSub (mB bLen (mV 1)) (mV 7)))
    (sCons (sSet 6 (mCall f_l_led (aCons (mOp opIx (mV 3) (mC (.int 1))) (aCons (mV 1) (aCons (mV 8) (aCons (mV 6) aNil))))))
    (sIf (tV (mOp opNe (mOp opIx (mV 6) (mOp opIx (mV 3) (mC (.int 0)))) (mOp opIx (mV 5) (mV 8)))) (sRet (mC (.bl false))) sNil)))
noncomputable def b_l_led_right_8 : S := (sRet (mC (.bl true)))
noncomputable def b_l_led_right_7 : S := (sCons (sFor 7 (iR1 (mOp opAdd (mB bLen (mV 1)) (mC (.int 1)))) c_l_led_right_1) b_l_led_right_8)
noncomputable def b_l_led_right_6 : S := (sCons (sSet 6 (mLst aNil)) b_l_led_right_7)
noncomputable def b_l_led_right_5 : S := (sCons (sSet 5 (mCall (f_l_ends 200) (aCons (mV 0) (aCons (mV 1) aNil)))) b_l_led_right_6)
noncomputable def b_l_led_right_4 : S := (sCons (sIf (tV (mOp opNe (mCall f_p_net_of (aCons (mV 0) aNil)) (mV 3))) (sRet (mC (.bl false))) sNil) b_l_led_right_5)
noncomputable def b_l_led_right_3 : S := (sCons (sEx (mClear (mOp opIx (mV 4) (mC (.int 1))))) b_l_led_right_4)
noncomputable def b_l_led_right_2 : S := (sCons (sSet 4 (mCallG f_p_net_of__K (aCons (mV 0) aNil))) b_l_led_right_3)
noncomputable def b_l_led_right_1 : S := (sCons (sIf (tNot (tT (mCall f_l_net_right (aCons (mV 3) (aCons (mV 2) aNil))))) (sRet (mC (.bl false))) sNil) b_l_led_right_2)
noncomputable def b_l_led_right  : S :=
  (sCons (sSet 3 (mCall f_p_net_of (aCons (mV 0) aNil))) b_l_led_right_1)
noncomputable def f_l_led_right : List D → R D := fun ds => (run 9 b_l_led_right ds).nox
/-- law(_law_script); 0 _law_script, 1 _law_three, 2 _law_half, 3 _law_made, 4 _law_signs, 5 _law_cell, 6 _law_tree, 7 _law_many, 8 _law_k, 9 _law_some -/
noncomputable def c_l_law_1 : S := (sCons (sSet 6 (mTup (aCons (mC (.str [109, 97, 121, 98, 101])) (aCons (mV 6) (aCons (mOr (mOp opGt (mOp opMod (mOp opDiv (mV 5) (mC (.int 6))) (mC (.int 3))) (mC (.int 0))) (mOp opEq (mOp opMod (mV 8) (mC (.int 9))) (mC (.int 4)))) aNil)))))
    (sSet 7 (mOp opAdd (mV 7) (mC (.int 1)))))
noncomputable def b_l_law_9 : S := (sRet (mCall f_l_led_right (aCons (mV 6) (aCons (mV 4) (aCons (mV 7) aNil)))))
noncomputable def b_l_law_8 : S := (sCons (sIf (tV (mOp opEq (mOp opMod (mV 5) (mC (.int 6))) (mC (.int 1)))) (sCons (sSet 9 (mOp opAdd (mC (.int 8)) (mOp opMod (mCall f_l_cell_at (aCons (mV 0) (aCons (mC (.int 2)) aNil))) (mC (.int 60)))))
    (sCons (sSet 6 (mCall f_l_pick_by (aCons (mOp opDiv (mV 5) (mC (.int 6))) (aCons (mV 9) aNil))))
    (sCons (sSet 4 (mOp opAdd (mCall f_l_sign_by (aCons (mOp opAdd (mOp opDiv (mV 5) (mC (.int 6))) (mOp opMul (mC (.int 7)) (mOp opMod (mOp opDiv (mCall f_l_cell_at (aCons (mV 0) (aCons (mC (.int 2)) aNil))) (mC (.int 60))) (mV 9)))) aNil)) (mSl (mV 4) poN (poS (mC (.int 1))))))
    (sSet 7 (mOp opAdd (mOp opAdd (mOp opMul (mC (.int 2)) (mV 9)) (mC (.int 2))) (mOp opDiv (mOp opAdd (mV 9) (mC (.int 1))) (mC (.int 3)))))))) sNil) b_l_law_9)
noncomputable def b_l_law_7 : S := (sCons (sIf (tV (mOp opEq (mOp opMod (mV 5) (mC (.int 6))) (mC (.int 3)))) (sCons (sSet 3 (mCall f_l_tree_by (aCons (mSl (mSl (mV 0) (poS (mC (.int 3))) (poS (mV 2))) poN (poS (mC (.int 2)))) (aCons (mV 1) aNil))))
    (sCons (sSet 6 (mOp opIx (mV 3) (mC (.int 0))))
    (sCons (sSet 7 (mOp opAdd (mOp opIx (mV 3) (mC (.int 2))) (mC (.int 1))))
    (sCons (sFor 8 (iR1 (mOp opAdd (mC (.int 30)) (mOp opMod (mCall f_l_cell_at (aCons (mV 0) (aCons (mC (.int 2)) aNil))) (mC (.int 40))))) c_l_law_1)
    (sSet 4 (mSl (mV 4) poN (poS (mC (.int 2))))))))) sNil) b_l_law_8)
noncomputable def b_l_law_6 : S := (sCons (sSet 7 (mOp opAdd (mOp opIx (mV 3) (mC (.int 2))) (mC (.int 1)))) b_l_law_7)
noncomputable def b_l_law_5 : S := (sCons (sSet 6 (mOp opIx (mV 3) (mC (.int 0)))) b_l_law_6)
noncomputable def b_l_law_4 : S := (sCons (sSet 5 (mCall f_l_cell_at (aCons (mV 0) (aCons (mC (.int 1)) aNil)))) b_l_law_5)
noncomputable def b_l_law_3 : S := (sCons (sSet 4 (mCall f_l_text_by (aCons (mSl (mSl (mV 0) (poS (mV 2)) poN) poN (poS (mC (.int 5)))) (aCons (mV 1) aNil)))) b_l_law_4)
noncomputable def b_l_law_2 : S := (sCons (sSet 3 (mCall f_l_tree_by (aCons (mSl (mSl (mV 0) (poS (mC (.int 3))) (poS (mV 2))) poN (poS (mC (.int 8)))) (aCons (mV 1) aNil)))) b_l_law_3)
noncomputable def b_l_law_1 : S := (sCons (sSet 2 (mOp opAdd (mC (.int 2)) (mOp opDiv (mB bLen (mV 0)) (mC (.int 2))))) b_l_law_2)
noncomputable def b_l_law  : S :=
  (sCons (sSet 1 (mCall f_l_three_by (aCons (mCall f_l_cell_at (aCons (mV 0) (aCons (mC (.int 0)) aNil))) aNil))) b_l_law_1)
noncomputable def f_l_law : List D → R D := fun ds => (run 10 b_l_law ds).nox
end Bd
end
section
namespace Mt
open Mini Bd
def cellAt (ns : List Int) (k : Nat) : Int := ns.getD k 0
theorem cell_at (ns : List Int) (k : Nat) : f_l_cell_at [.scr ns, .int k] = .ok (.int (cellAt ns k)) := by
  by_cases hk : k < ns.length
  · simp [f_l_cell_at, run_eq, b_l_cell_at, hk, pos, cellAt]
  · simp [f_l_cell_at, run_eq, b_l_cell_at, hk, pos, cellAt]
theorem cell_i (ns : List Int) (i : Int) (k : Nat) (h : i = (k : Int)) : f_l_cell_at [.scr ns, .int i] = .ok (.int (cellAt ns k)) := by subst h; exact cell_at ns k
def tbl : List Nat := [32, 33, 34, 35, 36, 38, 39, 40, 41, 42, 43, 44, 45, 46, 47, 48, 49, 50, 51, 52, 53, 54, 55, 56, 57, 58, 59, 60, 61, 62, 63, 64, 65, 66, 67, 68, 69, 70, 71, 72, 73, 74, 75, 76, 77, 78, 79, 80, 81, 82, 83, 84, 85, 86, 87, 88, 89, 90, 91, 92, 93, 94, 95, 96, 97, 98, 99, 100, 101, 102, 103, 104, 105, 106, 107, 108, 109, 110, 111, 112, 113, 114, 115, 116, 117, 118, 119, 120, 121, 122, 123, 124, 125, 126, 10, 9]
theorem tbl_len : tbl.length = 96 := by decide
def sg (c : Int) : Nat := at0 tbl (c % 96).toNat
theorem sign_by (c : Int) : f_l_sign_by [.int c] = .ok (.str [sg c]) := by
  have e := opIx_str [] tbl (c % 96) (by omega) (by rw [tbl_len]; omega) (by rw [tbl_len]; decide)
  rw [show tbl = [32, 33, 34, 35, 36, 38, 39, 40, 41, 42, 43, 44, 45, 46, 47, 48, 49, 50, 51, 52, 53, 54, 55, 56, 57, 58, 59, 60, 61, 62, 63, 64, 65, 66, 67, 68, 69, 70, 71, 72, 73, 74, 75, 76, 77, 78, 79, 80, 81, 82, 83, 84, 85, 86, 87, 88, 89, 90, 91, 92, 93, 94, 95, 96] ++ [97, 98, 99, 100, 101, 102, 103, 104, 105, 106, 107, 108, 109, 110, 111, 112, 113, 114, 115, 116, 117, 118, 119, 120, 121, 122, 123, 124, 125, 126, 10, 9] from rfl] at e
  simp only [List.cons_append, List.nil_append] at e
  simp [f_l_sign_by, run_eq, b_l_sign_by, e]
  rfl
theorem three_by (c : Int) : f_l_three_by [.int c] = .ok (.str [sg c, sg (c + 31), sg (c + 62)]) := by
  simp [f_l_three_by, run_eq, b_l_three_by, sign_by]
/-! the trees -/
inductive Tr where
  | take (b : Bool) (z : List Nat) | row (ps : List Tr) | pick (ps : List Tr) | maybe (t : Tr) (g : Bool) | many (t : Tr) (g : Bool)
mutual
def td : Tr → D
  | .take b z => .tup [.str [116, 97, 107, 101], .bl b, .str z]
  | .row ps => .tup [.str [114, 111, 119], .tup (tdL ps)]
  | .pick ps => .tup [.str [112, 105, 99, 107], .tup (tdL ps)]
  | .maybe t g => .tup [.str [109, 97, 121, 98, 101], td t, .bl g]
  | .many t g => .tup [.str [109, 97, 110, 121], td t, .bl g]
def tdL : List Tr → List D
  | [] => []
  | t :: ts => td t :: tdL ts
end
theorem tdL_eq : ∀ ps : List Tr, tdL ps = ps.map td
  | [] => rfl
  | t :: ts => by rw [tdL, tdL_eq ts]; rfl
theorem td_take (b : Bool) (z : List Nat) : td (.take b z) = .tup [.str [116, 97, 107, 101], .bl b, .str z] := by rw [td]
theorem td_row (ps : List Tr) : td (.row ps) = .tup [.str [114, 111, 119], .tup (ps.map td)] := by rw [td, tdL_eq]
theorem td_pick (ps : List Tr) : td (.pick ps) = .tup [.str [112, 105, 99, 107], .tup (ps.map td)] := by rw [td, tdL_eq]
theorem td_maybe (t : Tr) (g : Bool) : td (.maybe t g) = .tup [.str [109, 97, 121, 98, 101], td t, .bl g] := by rw [td]
theorem td_many (t : Tr) (g : Bool) : td (.many t g) = .tup [.str [109, 97, 110, 121], td t, .bl g] := by rw [td]
mutual
def bare : Tr → Bool
  | .take _ _ => false
  | .row ps => bareA ps
  | .pick ps => bareE ps
  | .maybe _ _ => true
  | .many _ _ => true
def bareA : List Tr → Bool
  | [] => true
  | t :: ts => bare t && bareA ts
def bareE : List Tr → Bool
  | [] => false
  | t :: ts => bare t || bareE ts
end
theorem bareA_eq : ∀ ps : List Tr, bareA ps = (ps.map bare).all id
  | [] => rfl
  | t :: ts => by rw [bareA, bareA_eq ts]; rfl
theorem bareE_eq : ∀ ps : List Tr, bareE ps = (ps.map bare).any id
  | [] => rfl
  | t :: ts => by rw [bareE, bareE_eq ts]; rfl
mutual
/-- the count that the builder keeps -/
def sz : Tr → Int
  | .take _ _ => 1
  | .row ps => szL ps
  | .pick ps => szL ps + ps.length - 1
  | .maybe t _ => sz t + 1
  | .many t _ => sz t + 1
def szL : List Tr → Int
  | [] => 0
  | t :: ts => sz t + szL ts
end
theorem szL_eq : ∀ ps : List Tr, szL ps = (ps.map sz).sum
  | [] => rfl
  | t :: ts => by rw [szL, szL_eq ts]; rfl
mutual
/-- how deep -/
def hi : Tr → Nat
  | .take _ _ => 1
  | .row ps => hiL ps + 1
  | .pick ps => hiL ps + 1
  | .maybe t _ => hi t + 1
  | .many t _ => hi t + 1
def hiL : List Tr → Nat
  | [] => 0
  | t :: ts => max (hi t) (hiL ts)
end
theorem hi_mem {ps : List Tr} {t : Tr} (h : t ∈ ps) : hi t ≤ hiL ps := by
  induction ps with
  | nil => exact absurd h (List.not_mem_nil)
  | cons x xs ih =>
    rw [hiL]
    rcases List.mem_cons.mp h with rfl | h
    · omega
    · have := ih h; omega
theorem hiL_le {ps : List Tr} {n : Nat} (h : ∀ t ∈ ps, hi t ≤ n) : hiL ps ≤ n := by
  induction ps with
  | nil => rw [hiL]; omega
  | cons x xs ih =>
    rw [hiL]
    have := h x List.mem_cons_self
    have := ih fun t ht => h t (List.mem_cons_of_mem _ ht)
    omega
theorem maxI_hi : ∀ (x : Tr) (ps : List Tr), maxI ((x :: ps).map fun t => (hi t : Int)) = (hiL (x :: ps) : Int)
  | x, [] => by simp [maxI, hiL]
  | x, y :: ps => by
    have := maxI_hi y ps
    rw [List.map_cons] at this
    have e : hiL (x :: y :: ps) = max (hi x) (hiL (y :: ps)) := by rw [hiL]
    rw [List.map_cons, List.map_cons, maxI, this, e]
    omega
mutual
/-- how many nodes -/
def nd : Tr → Nat
  | .take _ _ => 1
  | .row ps => ndL ps + 1
  | .pick ps => ndL ps + 1
  | .maybe t _ => nd t + 1
  | .many t _ => nd t + 1
def ndL : List Tr → Nat
  | [] => 0
  | t :: ts => nd t + ndL ts
end
theorem ndL_app (a b : List Tr) : ndL (a ++ b) = ndL a + ndL b := by
  induction a with
  | nil => rw [List.nil_append, ndL]; omega
  | cons x xs ih => rw [List.cons_append, ndL, ndL, ih]; omega
mutual
/-- well made: the signs of a take, what many holds, no row of one, no pick of less than two -/
def wf : Tr → Bool
  | .take _ z => decide (z.length ≤ 100) && z.all fun c => decide (c ∈ tbl)
  | .row ps => decide (ps.length ≠ 1 ∧ ps.length ≤ 5000) && wfL ps
  | .pick ps => decide (2 ≤ ps.length ∧ ps.length ≤ 5000) && wfL ps
  | .maybe t _ => wf t
  | .many t _ => wf t && !bare t
def wfL : List Tr → Bool
  | [] => true
  | t :: ts => wf t && wfL ts
end
theorem wfL_eq : ∀ ps : List Tr, wfL ps = ps.all wf
  | [] => rfl
  | t :: ts => by rw [wfL, wfL_eq ts]; rfl
theorem sz_nn_aux : ∀ n (t : Tr), hi t ≤ n → wf t = true → 0 ≤ sz t := by
  have aux : ∀ (P : Tr → Prop) (ps : List Tr), (∀ t ∈ ps, P t) → (∀ t ∈ ps, P t → 0 ≤ sz t) → 0 ≤ szL ps := by
    intro P ps h1 h2
    induction ps with
    | nil => rw [szL]; omega
    | cons x xs ih =>
      rw [szL]
      have := h2 x List.mem_cons_self (h1 x List.mem_cons_self)
      have := ih (fun t ht => h1 t (List.mem_cons_of_mem _ ht)) (fun t ht => h2 t (List.mem_cons_of_mem _ ht))
      omega
  intro n
  induction n with
  | zero => intro t h; cases t <;> simp [hi] at h
  | succ n ih =>
    intro t h hw
    cases t with
    | take b z => rw [sz]; omega
    | row ps =>
      rw [hi] at h; rw [wf, wfL_eq, Bool.and_eq_true, List.all_eq_true] at hw; rw [sz]
      exact aux (fun _ => True) ps (fun _ _ => trivial) fun t ht _ => ih t (by have := hi_mem ht; omega) (hw.2 t ht)
    | pick ps =>
      rw [hi] at h; rw [wf, wfL_eq, Bool.and_eq_true, decide_eq_true_eq, List.all_eq_true] at hw; rw [sz]
      have : 0 ≤ szL ps := aux (fun _ => True) ps (fun _ _ => trivial) fun t ht _ => ih t (by have := hi_mem ht; omega) (hw.2 t ht)
      have := hw.1.1
      omega
    | maybe t g => rw [hi] at h; rw [wf] at hw; rw [sz]; have := ih t (by omega) hw; omega
    | many t g => rw [hi] at h; rw [wf, Bool.and_eq_true] at hw; rw [sz]; have := ih t (by omega) hw.1; omega
theorem sz_nn {t : Tr} (h : wf t = true) : 0 ≤ sz t := sz_nn_aux _ t (Nat.le_refl _) h
/-- a row of the builder's stack -/
def entD (t : Tr) : D := .tup [td t, .bl (bare t), .int (sz t), .int (hi t)]
theorem sg_mem (c : Int) : sg c ∈ tbl := by
  have h1 : (c % 96).toNat < tbl.length := by rw [tbl_len]; omega
  unfold sg at0
  rw [List.getD_eq_getElem?_getD, List.getElem?_eq_getElem h1]
  exact List.getElem_mem h1
theorem at0_mem {z : List Nat} {k : Nat} (h : k < z.length) : at0 z k ∈ z := by
  unfold at0
  rw [List.getD_eq_getElem?_getD, List.getElem?_eq_getElem h]
  exact List.getElem_mem h
/-- three signs -/
def isThree (z : List Nat) : Prop := z.length = 3 ∧ ∀ c ∈ z, c ∈ tbl
theorem three_is (c : Int) : isThree [sg c, sg (c + 31), sg (c + 62)] := ⟨rfl, by
  intro x hx
  simp at hx
  rcases hx with rfl | rfl | rfl <;> exact sg_mem _⟩
theorem cut_hi {α : Type} (xs : List α) (n : Nat) : cut xs none (some (n : Int)) = xs.take n := by
  have h0 : ¬ ((n : Int) < 0) := by omega
  unfold cut six
  simp [h0]
theorem cut_lo {α : Type} (xs : List α) (n : Nat) (h : n ≤ xs.length) : cut xs (some (n : Int)) none = xs.drop n := by
  have h0 : ¬ ((n : Int) < 0) := by omega
  unfold cut six
  simp [h0, Nat.min_eq_left h]
  try (rw [List.take_of_length_le]; simp)
theorem cut_last {α : Type} (xs : List α) (h : 0 < xs.length) : cut xs none (some (-1)) = xs.dropLast := by
  unfold cut six
  simp
  rw [List.dropLast_eq_take]
  congr 1
  omega
theorem pos_last (n : Nat) : pos (n + 1) (-1) = some n := by unfold pos; simp; omega
theorem maxI_eq (ps : List Tr) (h : ps ≠ []) : ∃ x xs, ps = x :: xs ∧ maxI ((hi x : Int) :: xs.map fun t => (hi t : Int)) = (hiL ps : Int) := by
  cases ps with
  | nil => exact absurd rfl h
  | cons x xs => exact ⟨x, xs, rfl, maxI_hi x xs⟩
theorem bMax_hi (ps : List Tr) (h : ps ≠ []) : bMax (.lst (ps.map fun t => .int (hi t : Int))) = some (.int (hiL ps : Int)) := by
  obtain ⟨x, xs, rfl, e⟩ := maxI_eq ps h
  simp only [bMax, ints_map fun t => (hi t : Int)]
  rw [List.map_cons]
  simp only [e]
/-- what the comprehensions over the rows of the stack give -/
theorem lc_ent {i : Nat} {j : Int} {e : Env} (v : Tr → D) (ps : List Tr) (h : ∀ t ∈ ps, (mOp opIx (mV i) (mC (.int j))) (e.set i (some (entD t))) [] = .ok (v t, [])) : lcF i tYes (mOp opIx (mV i) (mC (.int j))) e (ps.map entD) [] = .ok (ps.map v, []) :=
  lcF_idx entD v ps fun t ht => ⟨h t ht, rfl⟩
mutual
theorem frz_free (n : Nat) (s : Sto) : ∀ d : D, free d = true → frz n s d = some d
  | .own k, h => by simp [free] at h
  | .tup ds, h => by
    have := frzL_free n s ds (by simpa [free] using h)
    simp [frz, this]
  | .non, _ => by simp [frz]
  | .bl _, _ => by simp [frz]
  | .int _, _ => by simp [frz]
  | .str _, _ => by simp [frz]
  | .lst _, _ => by simp [frz]
  | .scr _, _ => by simp [frz]
  | .dic _, _ => by simp [frz]
theorem frzL_free (n : Nat) (s : Sto) : ∀ ds : List D, freeL ds = true → frzL n s ds = some ds
  | [], _ => by simp [frzL]
  | d :: ds, h => by
    rw [freeL, Bool.and_eq_true] at h
    simp [frzL, frz_free n s d h.1, frzL_free n s ds h.2]
end
mutual
theorem free_td : ∀ t : Tr, free (td t) = true
  | .take b z => by rw [td]; rfl
  | .row ps => by rw [td]; simp [free_tdL ps]
  | .pick ps => by rw [td]; simp [free_tdL ps]
  | .maybe t g => by rw [td]; simp [free_td t]
  | .many t g => by rw [td]; simp [free_td t]
theorem free_tdL : ∀ ts : List Tr, freeL (tdL ts) = true
  | [] => rfl
  | t :: ts => by rw [tdL]; simp [free_td t, free_tdL ts]
end
theorem frz_td (n : Nat) (s : Sto) (t : Tr) : frz n s (td t) = some (td t) := frz_free n s _ (free_td t)
theorem wf_row {ps : List Tr} (h : wf (.row ps) = true) : (ps.length ≠ 1 ∧ ps.length ≤ 5000) ∧ ∀ t ∈ ps, wf t = true := by
  rw [wf, Bool.and_eq_true, decide_eq_true_eq, wfL_eq, List.all_eq_true] at h; exact h
theorem wf_pick {ps : List Tr} (h : wf (.pick ps) = true) : (2 ≤ ps.length ∧ ps.length ≤ 5000) ∧ ∀ t ∈ ps, wf t = true := by
  rw [wf, Bool.and_eq_true, decide_eq_true_eq, wfL_eq, List.all_eq_true] at h; exact h
theorem wf_take {b : Bool} {z : List Nat} (h : wf (.take b z) = true) : z.length ≤ 100 ∧ ∀ c ∈ z, c ∈ tbl := by
  rw [wf] at h; simpa using h
theorem wf_many {t : Tr} {g : Bool} (h : wf (.many t g) = true) : wf t = true ∧ bare t = false := by
  rw [wf] at h; simpa using h
theorem wf_maybe {t : Tr} {g : Bool} (h : wf (.maybe t g) = true) : wf t = true := by
  rw [wf] at h; exact h
theorem mk_row {ps : List Tr} (h1 : ps.length ≠ 1) (h2 : ps.length ≤ 5000) (h : wfL ps = true) : wf (.row ps) = true := by
  rw [wf, h, decide_eq_true ⟨h1, h2⟩]; rfl
theorem mk_pick {ps : List Tr} (h1 : 2 ≤ ps.length) (h2 : ps.length ≤ 5000) (h : wfL ps = true) : wf (.pick ps) = true := by
  rw [wf, h, decide_eq_true ⟨h1, h2⟩]; rfl
theorem take_by (c : Int) (z : List Nat) (hz : isThree z) : ∃ b y, f_l_take_by [.int c, .str z] = .ok (td (.take b y)) ∧ wf (.take b y) = true := by
  obtain ⟨hl, hm⟩ := hz
  have e1 := opIx_str [] z (c / 8 % 3) (by omega) (by omega) (by show _ ≤ 16777216; omega)
  have e2 := opIx_str [] z (c / 24 % 3) (by omega) (by omega) (by show _ ≤ 16777216; omega)
  have m1 : at0 z (c / 8 % 3).toNat ∈ tbl := hm _ (at0_mem (by omega))
  have m2 : at0 z (c / 24 % 3).toNat ∈ tbl := hm _ (at0_mem (by omega))
  have lp : ∀ (w n : Int) (x : Option D) (u v : Nat), 0 ≤ n → n ≤ 14 → u ∈ tbl → v ∈ tbl → ∃ y, b_l_take_by_6 [some (.int c), some (.str z), some (.int w), some (.str [u, v]), some (.int n), none] [] = .ok (.rt (td (.take (decide (w = 2)) y)), []) ∧ wf (.take (decide (w = 2)) y) = true := by
    intro w n x u v hn hn2 hu hv
    obtain ⟨m, rfl⟩ := Int.eq_ofNat_of_zero_le hn
    have hl := forF_inv (i := 5) (b := (sSet 3 (mOp opAdd (mV 3) (mCall f_l_sign_by (aCons (mOp opAdd (mOp opDiv (mV 0) (mC (.int 3456))) (mOp opMul (mC (.int 37)) (mV 5))) aNil)))))
      (fun j e s => s = [] ∧ ∃ y q, e = [some (.int c), some (.str z), some (.int w), some (.str y), some (.int m), q] ∧ y.length = 2 + j ∧ ∀ c ∈ y, c ∈ tbl)
      (rng 0 m) 0 [some (.int c), some (.str z), some (.int w), some (.str [u, v]), some (.int m), none] [] ⟨rfl, [u, v], none, rfl, rfl, by simp [hu, hv]⟩ (fun k e s d hi hd => by
        obtain ⟨rfl, y, q, rfl, hy, hy2⟩ := hi
        obtain ⟨h2, rfl⟩ := rng_at hd
        simp only [Nat.zero_add] at *
        refine ⟨_, _, .inl (by simp [sign_by, show small64 37 by unfold small64; omega, show y.length + 1 ≤ 16777216 by omega]; rfl), rfl, y ++ [sg (c / 3456 + 37 * k)], _, rfl, by simp [hy]; omega, ?_⟩
        intro d hd
        rcases List.mem_append.mp hd with hd | hd
        · exact hy2 d hd
        · rw [List.mem_singleton.mp hd]; exact sg_mem _)
    obtain ⟨e', s', hf, rfl, y, q, rfl, hy, hy2⟩ := hl
    rw [rng_len] at hy
    refine ⟨y.take m, ?_, ?_⟩
    · simp [b_l_take_by_6, show (m : Int) < 4611686018427387904 by omega, hf, b_l_take_by_7, show y.length ≤ 16777216 by omega, cut_hi, td_take]
    · simp only [wf, Bool.and_eq_true, decide_eq_true_eq, List.all_eq_true]
      exact ⟨by simp; omega, fun x hx => hy2 x (List.mem_of_mem_take hx)⟩
  by_cases h0 : c % 8 = 0
  · refine ⟨false, [], ?_, by decide⟩
    simp [f_l_take_by, run_eq, b_l_take_by, b_l_take_by_1, e1, e2, b_l_take_by_2, h0, td_take]
  by_cases h2 : 2 < c % 8
  · refine ⟨true, [at0 z (c / 8 % 3).toNat], ?_, ?_⟩
    · have := cut_hi [at0 z (c / 8 % 3).toNat, at0 z (c / 24 % 3).toNat] 1
      simp at this
      simp [f_l_take_by, run_eq, b_l_take_by, b_l_take_by_1, e1, e2, b_l_take_by_2, h0, b_l_take_by_3, h2, td_take, this]
    · simp [wf, m1]
  by_cases h3 : c / 72 % 4 = 3
  · obtain ⟨y, h4, h5⟩ := lp (c % 8) (3 + c / 288 % 12) none _ _ (by omega) (by omega) m1 m2
    refine ⟨_, y, ?_, h5⟩
    simp [f_l_take_by, run_eq, b_l_take_by, b_l_take_by_1, e1, e2, b_l_take_by_2, h0, b_l_take_by_3, h2, b_l_take_by_4, b_l_take_by_5, h3, h4, td_take]
  · obtain ⟨y, h4, h5⟩ := lp (c % 8) (c / 72 % 4) none _ _ (by omega) (by omega) m1 m2
    refine ⟨_, y, ?_, h5⟩
    simp [f_l_take_by, run_eq, b_l_take_by, b_l_take_by_1, e1, e2, b_l_take_by_2, h0, b_l_take_by_3, h2, b_l_take_by_4, b_l_take_by_5, h3, h4, td_take]
theorem joined_by (w : Int) (st : List Tr) (m : Nat) (h1 : 1 ≤ m) (h2 : m ≤ st.length) (h3 : st.length ≤ 1000) :
    f_l_joined_by [.int w, .lst (st.map entD), .int m] = .ok (.lst ((st.take (st.length - m) ++ [if w = 5 then Tr.pick (st.drop (st.length - m)) else Tr.row (st.drop (st.length - m))]).map entD)) := by
  have ek : (st.length : Int) - (m : Int) = ((st.length - m : Nat) : Int) := by omega
  have c1 := cut_lo (st.map entD) (st.length - m) (by simp)
  have c2 := cut_hi (st.map entD) (st.length - m)
  rw [← List.map_drop] at c1
  rw [← List.map_take] at c2
  have hl : (st.drop (st.length - m)).length = m := by simp; omega
  have hne : st.drop (st.length - m) ≠ [] := by intro h; rw [h] at hl; simp at hl; omega
  generalize hP : st.drop (st.length - m) = ps at *
  generalize hK : st.take (st.length - m) = ks at *
  have l3 := fun (e : Env) (t : Tr → D) (j : Int) => lc_ent (i := 6) (j := j) (e := e) t ps
  have b1 : bAll (.lst (ps.map fun t => .bl (bare t))) = some (.bl (bareA ps)) := by simp only [bAll, bls_map bare, bareA_eq]; rfl
  have b2 : bAny (.lst (ps.map fun t => .bl (bare t))) = some (.bl (bareE ps)) := by simp only [bAny, bls_map bare, bareE_eq]; rfl
  have b3 : bSum (.lst (ps.map fun t => .int (sz t))) = some (.int (szL ps)) := by simp only [bSum, ints_map sz, szL_eq]; rfl
  have b4 := bMax_hi ps hne
  have q0 := fun (e : Env) (he : 6 < e.length) => l3 e td 0 fun t _ => by simp [entD, look_eq, he, pos]
  have q1 := fun (e : Env) (he : 6 < e.length) => l3 e (fun t => .bl (bare t)) 1 fun t _ => by simp [entD, look_eq, he, pos]
  have q2 := fun (e : Env) (he : 6 < e.length) => l3 e (fun t => .int (sz t)) 2 fun t _ => by simp [entD, look_eq, he, pos]
  have q3 := fun (e : Env) (he : 6 < e.length) => l3 e (fun t => .int (hi t : Int)) 3 fun t _ => by simp [entD, look_eq, he, pos]
  have hlm : m ≤ 16777216 := by omega
  have hkl : ks.length ≤ 16777215 := by rw [← hK]; simp; omega
  have g1 : bare (.pick ps) = bareE ps := by rw [bare]
  have g2 : bare (.row ps) = bareA ps := by rw [bare]
  have g3 : sz (.pick ps) = szL ps + ps.length - 1 := by rw [sz]
  have g4 : sz (.row ps) = szL ps := by rw [sz]
  have g5 : hi (.pick ps) = hiL ps + 1 := by rw [hi]
  have g6 : hi (.row ps) = hiL ps + 1 := by rw [hi]
  by_cases h5 : w = 5
  · simp [f_l_joined_by, run_eq, b_l_joined_by, ek, c1, b_l_joined_by_1, c2, b_l_joined_by_2, q0, hl, hlm, b_l_joined_by_3, q1, b1, b_l_joined_by_4, q2, b3, b_l_joined_by_5, h5, b2, b_l_joined_by_6, q3, b4, b_l_joined_by_7, pos, -bAll, -bAny, -bSum, -bMax]
    simp [hkl, entD, td_pick, td_row, g1, g2, g3, g4, g5, g6, hl]
    omega
  · simp [f_l_joined_by, run_eq, b_l_joined_by, ek, c1, b_l_joined_by_1, c2, b_l_joined_by_2, q0, hl, hlm, b_l_joined_by_3, q1, b1, b_l_joined_by_4, q2, b3, b_l_joined_by_5, h5, b2, b_l_joined_by_6, q3, b4, b_l_joined_by_7, pos, -bAll, -bAny, -bSum, -bMax]
    simp [hkl, entD, td_pick, td_row, g1, g2, g3, g4, g5, g6, hl]
    omega
/-- the builder's stack after so many cells -/
def Stk (n : Nat) (st : List Tr) : Prop := st.length ≤ n ∧ wfL st = true ∧ (∀ t ∈ st, hi t ≤ 12) ∧ szL st ≤ 7 * n ∧ ndL st ≤ n
theorem szL_app (a b : List Tr) : szL (a ++ b) = szL a + szL b := by
  induction a with
  | nil => rw [List.nil_append, szL]; omega
  | cons x xs ih => rw [List.cons_append, szL, szL, ih]; omega
theorem wfL_app (a b : List Tr) : wfL (a ++ b) = (wfL a && wfL b) := by rw [wfL_eq, wfL_eq, wfL_eq, List.all_append]
theorem stk_put {n : Nat} {a b : List Tr} {t : Tr} (h : Stk n (a ++ b)) (h1 : wf t = true) (h2 : hi t ≤ 12) (h3 : sz t ≤ szL b + 7) (h4 : nd t ≤ ndL b + 1) : Stk (n + 1) (a ++ [t]) := by
  obtain ⟨q1, q2, q3, q4, q5⟩ := h
  rw [wfL_app, Bool.and_eq_true] at q2
  rw [szL_app] at q4
  rw [ndL_app] at q5
  refine ⟨by simp at q1 ⊢; omega, by rw [wfL_app, q2.1, wfL, wfL, h1]; rfl, fun x hx => ?_, by rw [szL_app, szL, szL]; omega, by rw [ndL_app, ndL, ndL]; omega⟩
  rcases List.mem_append.mp hx with hx | hx
  · exact q3 x (List.mem_append_left _ hx)
  · rw [List.mem_singleton.mp hx]; exact h2
theorem put_by (n : Nat) (st : List Tr) (c : Int) (z : List Nat) (hz : isThree z) (hs : Stk n st) (hn : n ≤ 100) : ∃ st', f_l_put_by [.lst (st.map entD), .int c, .str z] = .ok (.lst (st'.map entD)) ∧ Stk (n + 1) st' := by
  obtain ⟨b, y, ht, hw⟩ := take_by (c / 9) z hz
  have g1 : entD (.take b y) = .tup [td (.take b y), .bl false, .int 1, .int 1] := by simp [entD, bare, sz, hi]
  have g2 : entD (.row []) = .tup [.tup [.str [114, 111, 119], .tup []], .bl true, .int 0, .int 1] := by simp [entD, bare, sz, hi, td_row, bareA, szL, hiL]
  have l0 : st.length ≤ 100 := by have := hs.1; omega
  have s1 : Stk (n + 1) (st ++ [.take b y]) := stk_put (b := []) (by rw [List.append_nil]; exact hs) hw (by simp [hi]) (by simp [sz, szL]) (by simp [nd, ndL])
  have s2 : Stk (n + 1) (st ++ [.row []]) := stk_put (b := []) (by rw [List.append_nil]; exact hs) (by rfl) (by simp [hi, hiL]) (by simp [sz, szL]) (by simp [nd, ndL])
  -- the last two roads
  have e8 : ∀ x q m k, b_l_put_by_8 [some (.lst (st.map entD)), some (.int c), some (.str z), some (.int (c % 9)), some (.int (c / 9)), x, q, m, k] [] = .ok (.rt (.lst ((st ++ [Tr.take b y]).map entD)), []) := fun x y' m k => by
    simp [b_l_put_by_8, ht, g1, show st.length ≤ 16777215 by omega]
  have e7 : ∀ x y m k, ∃ st', b_l_put_by_7 [some (.lst (st.map entD)), some (.int c), some (.str z), some (.int (c % 9)), some (.int (c / 9)), x, y, m, k] [] = .ok (.rt (.lst (st'.map entD)), []) ∧ Stk (n + 1) st' := fun x y' m k => by
    by_cases h : c % 9 = 8 ∧ c / 9 % 3 = 0
    · exact ⟨_, by simp [b_l_put_by_7, h.1, h.2, show st.length ≤ 16777215 by omega, ← g2], s2⟩
    · refine ⟨_, ?_, s1⟩
      by_cases h8 : c % 9 = 8
      · have h3 : ¬ c / 9 % 3 = 0 := fun h3 => h ⟨h8, h3⟩
        have := e8 x y' m k
        rw [h8] at this
        simp [b_l_put_by_7, h8, h3, this]
      · simp [b_l_put_by_7, h8, e8 x y' m k]
  -- joined
  have e6 : ∀ x y, ∃ st', b_l_put_by_6 [some (.lst (st.map entD)), some (.int c), some (.str z), some (.int (c % 9)), some (.int (c / 9)), x, y, none, none] [] = .ok (.rt (.lst (st'.map entD)), []) ∧ Stk (n + 1) st' := fun x y' => by
    by_cases h : (c % 9 = 4 ∨ c % 9 = 5) ∧ 1 < st.length
    · obtain ⟨h45, h1⟩ := h
      have hb : ∃ M : Nat, 2 + c / 9 % (if (st.length : Int) - 1 < 7 then (st.length : Int) - 1 else 7) = (M : Int) ∧ 2 ≤ M ∧ M ≤ st.length ∧ M ≤ 8 := by
        refine ⟨(2 + c / 9 % (if (st.length : Int) - 1 < 7 then (st.length : Int) - 1 else 7)).toNat, ?_⟩
        split
        · have := Int.emod_nonneg (c / 9) (show (st.length : Int) - 1 ≠ 0 by omega)
          have := Int.emod_lt_of_pos (c / 9) (show 0 < (st.length : Int) - 1 by omega)
          omega
        · omega
      obtain ⟨M, hM, hM2, hM3, hM4⟩ := hb
      have hpos : 0 < (if (st.length : Int) - 1 < 7 then (st.length : Int) - 1 else 7) := by split <;> omega
      have ek : (st.length : Int) - (M : Int) = ((st.length - M : Nat) : Int) := by omega
      have c1 := cut_lo (st.map entD) (st.length - M) (by simp)
      rw [← List.map_drop] at c1
      have hl : (st.drop (st.length - M)).length = M := by simp; omega
      have hne : st.drop (st.length - M) ≠ [] := by intro h; rw [h] at hl; simp at hl; omega
      have b4 := bMax_hi _ hne
      have q3 := fun (e : Env) (he : 8 < e.length) => lc_ent (i := 8) (j := 3) (e := e) (fun t => .int (hi t : Int)) (st.drop (st.length - M)) fun t _ => by simp [entD, look_eq, he, pos]
      have hj := joined_by (c % 9) st M (by omega) hM3 (by omega)
      have h7 := e7 x y' (some (.int (M : Int))) none
      have hor : (decide (c % 9 = 4) = true ∨ decide (c % 9 = 5) = true) := by simpa using h45
      have hgd : ∀ e : Env, e = [some (.lst (st.map entD)), some (.int c), some (.str z), some (.int (c % 9)), some (.int (c / 9)), x, y', none, none] → tAnd (tOr (tV (mOp opEq (mV 3) (mC (.int 4)))) (tV (mOp opEq (mV 3) (mC (.int 5))))) (tV (mOp opGt (mB bLen (mV 0)) (mC (.int 1)))) e [] = .ok (true, []) := by
        rintro e rfl
        rcases h45 with h4 | h4 <;> simp [h4, h1] <;> omega
      have hgd := hgd _ rfl
      by_cases h12 : (hiL (st.drop (st.length - M)) : Int) < 12
      · refine ⟨_, ?_, stk_put (a := st.take (st.length - M)) (b := st.drop (st.length - M)) (t := if c % 9 = 5 then Tr.pick (st.drop (st.length - M)) else Tr.row (st.drop (st.length - M))) (by rw [List.take_append_drop]; exact hs) ?_ ?_ ?_ (by split <;> rw [nd] <;> omega)⟩
        · generalize st.drop (st.length - M) = ps at *
          simp [b_l_put_by_6, hgd, hpos, hM, ek, c1, q3, hl, show M ≤ 16777216 by omega, b4, h12, hj, -tAnd_eq, -bMax, -List.map_append]
        · have hwl : wfL (st.drop (st.length - M)) = true := by
            have := hs.2.1
            rw [← List.take_append_drop (st.length - M) st, wfL_app, Bool.and_eq_true] at this
            exact this.2
          split
          · exact mk_pick (by omega) (by omega) hwl
          · exact mk_row (by omega) (by omega) hwl
        · split <;> rw [hi] <;> omega
        · split
          · rw [sz, hl]; omega
          · rw [sz]; omega
      · obtain ⟨st', h7, h8⟩ := h7
        refine ⟨st', ?_, h8⟩
        generalize st.drop (st.length - M) = ps at *
        simp [b_l_put_by_6, hgd, hpos, hM, ek, c1, q3, hl, show M ≤ 16777216 by omega, b4, h12, h7, -tAnd_eq, -bMax]
    · obtain ⟨st', h7, h8⟩ := e7 x y' none none
      refine ⟨st', ?_, h8⟩
      have hgd : ∀ e : Env, e = [some (.lst (st.map entD)), some (.int c), some (.str z), some (.int (c % 9)), some (.int (c / 9)), x, y', none, none] → tAnd (tOr (tV (mOp opEq (mV 3) (mC (.int 4)))) (tV (mOp opEq (mV 3) (mC (.int 5))))) (tV (mOp opGt (mB bLen (mV 0)) (mC (.int 1)))) e [] = .ok (false, []) := by
        rintro e rfl
        by_cases h4 : c % 9 = 4
        · have : ¬ (1 : Int) < st.length := fun h1 => h ⟨.inl h4, by omega⟩
          simp [h4, this]
        · by_cases h5 : c % 9 = 5
          · have : ¬ (1 : Int) < st.length := fun h1 => h ⟨.inr h5, by omega⟩
            simp [h4, h5, this]
          · simp [h4, h5]
      have hgd := hgd _ rfl
      simp [b_l_put_by_6, hgd, h7, -tAnd_eq]
  rcases List.eq_nil_or_concat st with h0 | ⟨ini, t, h0⟩
  · subst h0
    obtain ⟨st', h6, h7⟩ := e6 (some (.int 0)) none
    refine ⟨st', ?_, h7⟩
    simp only [List.map_nil] at h6
    by_cases w6 : c % 9 = 6
    · rw [w6] at h6
      simp [f_l_put_by, run_eq, b_l_put_by, b_l_put_by_1, b_l_put_by_2, b_l_put_by_3, b_l_put_by_4, b_l_put_by_5, w6, h6]
    · by_cases w7 : c % 9 = 7
      · rw [w7] at h6
        simp [f_l_put_by, run_eq, b_l_put_by, b_l_put_by_1, b_l_put_by_2, b_l_put_by_3, b_l_put_by_4, b_l_put_by_5, w6, w7, h6]
      · simp [f_l_put_by, run_eq, b_l_put_by, b_l_put_by_1, b_l_put_by_2, b_l_put_by_3, b_l_put_by_4, b_l_put_by_5, w6, w7, h6]
  · rw [List.concat_eq_append] at h0
    have eL : opIx [] (.lst (st.map entD)) (.int (-1)) = some (entD t) := by
      rw [opIx_lst, h0]
      simp [pos_last]
    have cL : cut (st.map entD) none (some (-1)) = ini.map entD := by
      rw [cut_last _ (by rw [h0]; simp), h0]
      simp
    have lI : ini.length ≤ 16777215 := by rw [h0] at l0; simp at l0; omega
    have hwt : wf t = true := by have := hs.2.1; rw [h0, wfL_app, wfL, Bool.and_eq_true, Bool.and_eq_true] at this; exact this.2.1
    have hemp : (st.map entD).isEmpty = false := by rw [h0]; simp
    have ht0 : 0 < hi t := by cases t <;> rw [hi] <;> omega
    obtain ⟨st', h6, h7⟩ := e6 (some (.int (hi t : Int))) none
    have hmk : ∀ q : Tr, wf q = true → hi q ≤ 12 → sz q ≤ sz t + 1 → nd q ≤ nd t + 1 → Stk (n + 1) (ini ++ [q]) := fun q h1 h2 h3 h4 => stk_put (b := [t]) (by rw [← h0]; exact hs) h1 h2 (by simp only [szL]; omega) (by simp only [ndL]; omega)
    have m1 : ∀ g, entD (.maybe t g) = .tup [.tup [.str [109, 97, 121, 98, 101], td t, .bl g], .bl true, .int (sz t + 1), .int ((hi t : Int) + 1)] := fun g => by simp [entD, td_maybe, bare, sz, hi]
    have m2 : ∀ g, entD (.many t g) = .tup [.tup [.str [109, 97, 110, 121], td t, .bl g], .bl true, .int (sz t + 1), .int ((hi t : Int) + 1)] := fun g => by simp [entD, td_many, bare, sz, hi]
    have t0 : entD t = .tup [td t, .bl (bare t), .int (sz t), .int (hi t)] := rfl
    by_cases w6 : c % 9 = 6
    · by_cases h12 : (hi t : Int) < 12
      · refine ⟨ini ++ [.maybe t (decide (0 < c / 9 % 3))], ?_, hmk _ (by rw [wf]; exact hwt) (by rw [hi]; omega) (by rw [sz]; omega) (by rw [nd]; omega)⟩
        simp [f_l_put_by, run_eq, b_l_put_by, b_l_put_by_1, b_l_put_by_2, b_l_put_by_3, b_l_put_by_4, w6, hemp, eL, t0, pos, ht0, h12, cL, lI, m1, -opIx_lst, -List.isEmpty_map]
      · refine ⟨st', ?_, h7⟩
        rw [w6] at h6
        simp [f_l_put_by, run_eq, b_l_put_by, b_l_put_by_1, b_l_put_by_2, b_l_put_by_3, b_l_put_by_4, b_l_put_by_5, w6, hemp, eL, t0, pos, ht0, h12, h6, -opIx_lst, -List.isEmpty_map]
    · by_cases w7 : c % 9 = 7
      · by_cases h12 : (hi t : Int) < 12
        · cases hbt : bare t
          · refine ⟨ini ++ [.many t (decide (0 < c / 9 % 3))], ?_, hmk _ (by rw [wf, hwt, hbt]; rfl) (by rw [hi]; omega) (by rw [sz]; omega) (by rw [nd]; omega)⟩
            simp [f_l_put_by, run_eq, b_l_put_by, b_l_put_by_1, b_l_put_by_2, b_l_put_by_3, b_l_put_by_4, b_l_put_by_5, w7, hemp, eL, t0, pos, ht0, h12, cL, lI, m2, hbt, -opIx_lst, -List.isEmpty_map]
          · refine ⟨st', ?_, h7⟩
            rw [w7] at h6
            simp [f_l_put_by, run_eq, b_l_put_by, b_l_put_by_1, b_l_put_by_2, b_l_put_by_3, b_l_put_by_4, b_l_put_by_5, w7, hemp, eL, t0, pos, ht0, h12, h6, hbt, -opIx_lst, -List.isEmpty_map]
        · refine ⟨st', ?_, h7⟩
          rw [w7] at h6
          simp [f_l_put_by, run_eq, b_l_put_by, b_l_put_by_1, b_l_put_by_2, b_l_put_by_3, b_l_put_by_4, b_l_put_by_5, w7, hemp, eL, t0, pos, ht0, h12, h6, -opIx_lst, -List.isEmpty_map]
      · refine ⟨st', ?_, h7⟩
        simp [f_l_put_by, run_eq, b_l_put_by, b_l_put_by_1, b_l_put_by_2, b_l_put_by_3, b_l_put_by_4, b_l_put_by_5, w6, w7, hemp, eL, t0, pos, h6, -opIx_lst, -List.isEmpty_map]
theorem tree_by (cs : List Int) (z : List Nat) (hz : isThree z) (hc : cs.length ≤ 100) : ∃ t, f_l_tree_by [.lst (cs.map .int), .str z] = .ok (entD t) ∧ wf t = true ∧ hi t ≤ 13 ∧ sz t ≤ 8 * (cs.length : Int) ∧ nd t ≤ cs.length + 1 := by
  have hl := forF_inv (i := 3) (b := (sSet 2 (mCall f_l_put_by (aCons (mV 2) (aCons (mV 3) (aCons (mV 1) aNil))))))
    (fun j e s => s = [] ∧ j ≤ cs.length ∧ ∃ st x, e = [some (.lst (cs.map .int)), some (.str z), some (.lst (st.map entD)), x] ∧ Stk j st)
    (cs.map .int) 0 [some (.lst (cs.map .int)), some (.str z), some (.lst []), none] [] ⟨rfl, Nat.zero_le _, [], none, rfl, by simp, rfl, by simp, by simp [szL], by simp [ndL]⟩ (fun k e s d hi hd => by
      obtain ⟨rfl, _, st, x, rfl, hs⟩ := hi
      rw [Nat.zero_add] at *
      rw [List.getElem?_map] at hd
      obtain ⟨c, hc2, rfl⟩ := Option.map_eq_some_iff.mp hd
      have hk : k < cs.length := (List.getElem?_eq_some_iff.mp hc2).1
      obtain ⟨st', h1, h2⟩ := put_by k st c z hz hs (by omega)
      exact ⟨_, _, .inl (by simp [h1]; rfl), rfl, by omega, st', _, rfl, h2⟩)
  obtain ⟨e', s', hf, rfl, _, st, x, rfl, h1, h2, h3, h4, h9⟩ := hl
  simp only [Nat.zero_add, List.length_map] at h1 h4 h9
  match st, h1, h2, h3, h4, h9, hf with
  | [], h1, h2, h3, h4, h9, hf =>
    refine ⟨.row [], ?_, rfl, by simp [hi, hiL], by simp only [sz, szL]; omega, by simp only [nd, ndL]; omega⟩
    simp [f_l_tree_by, run_eq, b_l_tree_by, hf, entD, td_row, bare, bareA, sz, szL, hi, hiL]
  | [t], h1, h2, h3, h4, h9, hf =>
    rw [wfL, wfL, Bool.and_true] at h2
    rw [szL, szL] at h4
    refine ⟨t, ?_, h2, by have := h3 t List.mem_cons_self; omega, by omega, by simp only [ndL] at h9; omega⟩
    simp [f_l_tree_by, run_eq, b_l_tree_by, hf, pos]
    simp [entD, frz_td]
  | t :: u :: r, h1, h2, h3, h4, h9, hf =>
    obtain ⟨c0, cr, rfl⟩ : ∃ c cr, cs = c :: cr := by
      cases cs with
      | nil => simp at h1
      | cons c cr => exact ⟨c, cr, rfl⟩
    have h5 : hiL (t :: u :: r) ≤ 12 := hiL_le h3
    have hw5 : wf (.pick (t :: u :: r)) = true := mk_pick (by simp) (by omega) h2
    have hw4 : wf (.row (t :: u :: r)) = true := mk_row (by simp) (by omega) h2
    have s5 : sz (.pick (t :: u :: r)) ≤ 8 * ((c0 :: cr).length : Int) := by rw [sz]; omega
    have s4 : sz (.row (t :: u :: r)) ≤ 8 * ((c0 :: cr).length : Int) := by rw [sz]; omega
    have n5 : nd (.pick (t :: u :: r)) ≤ (c0 :: cr).length + 1 := by rw [nd]; omega
    have n4 : nd (.row (t :: u :: r)) ≤ (c0 :: cr).length + 1 := by rw [nd]; omega
    have i5 : hi (.pick (t :: u :: r)) ≤ 13 := by rw [hi]; omega
    have i4 : hi (.row (t :: u :: r)) ≤ 13 := by rw [hi]; omega
    generalize hS : t :: u :: r = st at *
    have hlen : 1 < st.length := by rw [← hS]; simp
    have j5 := joined_by 5 st st.length (by omega) (Nat.le_refl _) (by omega)
    have j4 := joined_by 4 st st.length (by omega) (Nat.le_refl _) (by omega)
    simp at j5 j4
    by_cases hc : c0 % 3 = 1
    · refine ⟨.pick st, ?_, hw5, i5, s5, n5⟩
      simp [f_l_tree_by, run_eq, b_l_tree_by, hf, pos, show ¬ st = [] from fun h => by rw [h] at hlen; simp at hlen, show ¬ (st.length : Int) = 1 by omega, hc, j5] at hf ⊢
      simp [f_l_tree_by, run_eq, b_l_tree_by, hf, pos, show ¬ st = [] from fun h => by rw [h] at hlen; simp at hlen, show ¬ (st.length : Int) = 1 by omega, hc, j5]
      simp [entD, frz_td]
    · refine ⟨.row st, ?_, hw4, i4, s4, n4⟩
      simp at hf
      simp [f_l_tree_by, run_eq, b_l_tree_by, hf, pos, show ¬ st = [] from fun h => by rw [h] at hlen; simp at hlen, show ¬ (st.length : Int) = 1 by omega, hc, j4]
      simp [entD, frz_td]
end Mt
end
section
namespace Mt
open Mini Bd
/-! nets and what they take -/
inductive St where
  | fin | take (b : Bool) (z : List Nat) (n : Nat) | part (a b : Nat)
def takes (b : Bool) (z : List Nat) (c : Nat) : Bool := decide (decide (c ∈ z) = b)
/-- from state s at place p the net reaches its end at the places xs, best first (h: a bound on the height of the tree of tries) -/
inductive LN (N : List St) (w : List Nat) : Nat → Nat → Nat → List Nat → Prop where
  | fin {h s p : Nat} : N[s]? = some .fin → LN N w h s p [p]
  | go {h s p n : Nat} {b : Bool} {z : List Nat} {c : Nat} {xs : List Nat} : N[s]? = some (.take b z n) → w[p]? = some c → takes b z c = true → LN N w h n (p + 1) xs → LN N w (h + 1) s p xs
  | no {h s p n : Nat} {b : Bool} {z : List Nat} : N[s]? = some (.take b z n) → (∀ c, w[p]? = some c → takes b z c = false) → LN N w h s p []
  | part {h s p a b : Nat} {xs ys : List Nat} : N[s]? = some (.part a b) → LN N w h a p xs → LN N w h b p ys → LN N w (h + 1) s p (xs ++ ys)
theorem LN.mono {N : List St} {w : List Nat} {h h' s p : Nat} {xs : List Nat} (d : LN N w h s p xs) (hh : h ≤ h') : LN N w h' s p xs := by
  induction d generalizing h' with
  | fin e => exact .fin e
  | go e1 e2 e3 _ ih =>
    obtain ⟨k, rfl⟩ : ∃ k, h' = k + 1 := ⟨h' - 1, by omega⟩
    exact .go e1 e2 e3 (ih (by omega))
  | no e1 e2 => exact .no e1 e2
  | part e1 _ _ ih1 ih2 =>
    obtain ⟨k, rfl⟩ : ∃ k, h' = k + 1 := ⟨h' - 1, by omega⟩
    exact .part e1 (ih1 (by omega)) (ih2 (by omega))
theorem LN.det {N : List St} {w : List Nat} {h h' s p : Nat} {xs ys : List Nat} (d : LN N w h s p xs) (d' : LN N w h' s p ys) : xs = ys := by
  induction d generalizing h' ys with
  | fin e => cases d' <;> simp_all
  | go e1 e2 e3 d1 ih =>
    cases d' with
    | fin e => simp_all
    | go f1 f2 f3 g => rw [e1] at f1; cases f1; exact ih g
    | no f1 f2 => rw [e1] at f1; cases f1; rw [f2 _ e2] at e3; cases e3
    | part f1 => rw [e1] at f1; cases f1
  | no e1 e2 =>
    cases d' with
    | fin e => simp_all
    | go f1 f2 f3 g => rw [e1] at f1; cases f1; rw [e2 _ f2] at f3; cases f3
    | no f1 f2 => rfl
    | part f1 => rw [e1] at f1; cases f1
  | part e1 d1 d2 ih1 ih2 =>
    cases d' with
    | fin e => simp_all
    | go f1 f2 f3 g => rw [e1] at f1; cases f1
    | no f1 f2 => rw [e1] at f1; cases f1
    | part f1 g1 g2 => rw [e1] at f1; cases f1; rw [ih1 g1, ih2 g2]
def LM (f : Nat → List Nat) (g : Bool) : Nat → Nat → List Nat
  | 0, p => [p]
  | k + 1, p => if g = true then (f p).flatMap (LM f g k) ++ [p] else p :: (f p).flatMap (LM f g k)
mutual
/-- what a tree takes from place p, best first -/
def LT (w : List Nat) : Tr → Nat → List Nat
  | .take b z, p => match w[p]? with
    | some c => if takes b z c = true then [p + 1] else []
    | none => []
  | .row ps, p => LR w ps p
  | .pick ps, p => LP' w ps p
  | .maybe t g, p => if g = true then LT w t p ++ [p] else p :: LT w t p
  | .many t g, p => LM (LT w t) g w.length p
def LR (w : List Nat) : List Tr → Nat → List Nat
  | [], p => [p]
  | t :: ts, p => (LT w t p).flatMap (LR w ts)
def LP' (w : List Nat) : List Tr → Nat → List Nat
  | [], _ => []
  | t :: ts, p => LT w t p ++ LP' w ts p
end
theorem LM_ge {f : Nat → List Nat} {g : Bool} (hf : ∀ p q, q ∈ f p → p < q) : ∀ k p q, q ∈ LM f g k p → p ≤ q
  | 0, p, q, h => by simp [LM] at h; omega
  | k + 1, p, q, h => by
    rw [LM] at h
    have : q ∈ (f p).flatMap (LM f g k) ∨ q = p := by
      split at h
      · rcases List.mem_append.mp h with h | h
        · exact .inl h
        · exact .inr (List.mem_singleton.mp h)
      · rcases List.mem_cons.mp h with h | h
        · exact .inr h
        · exact .inl h
    rcases this with h | rfl
    · obtain ⟨r, hr, hq⟩ := List.mem_flatMap.mp h
      have := hf p r hr
      have := LM_ge hf k r q hq
      omega
    · omega
theorem LM_le {f : Nat → List Nat} {g : Bool} {m : Nat} (hf : ∀ p q, q ∈ f p → q ≤ m) : ∀ k p q, p ≤ m → q ∈ LM f g k p → q ≤ m
  | 0, p, q, hp, h => by simp [LM] at h; omega
  | k + 1, p, q, hp, h => by
    rw [LM] at h
    have : q ∈ (f p).flatMap (LM f g k) ∨ q = p := by
      split at h
      · rcases List.mem_append.mp h with h | h
        · exact .inl h
        · exact .inr (List.mem_singleton.mp h)
      · rcases List.mem_cons.mp h with h | h
        · exact .inr h
        · exact .inl h
    rcases this with h | rfl
    · obtain ⟨r, hr, hq⟩ := List.mem_flatMap.mp h
      exact LM_le hf k r q (hf p r hr) hq
    · exact hp
theorem LT_ge_aux (w : List Nat) : ∀ n t, hi t ≤ n → wf t = true → (∀ p q, q ∈ LT w t p → p ≤ q) ∧ (bare t = false → ∀ p q, q ∈ LT w t p → p < q) ∧ (∀ p q, p ≤ w.length → q ∈ LT w t p → q ≤ w.length) := by
  intro n
  induction n with
  | zero => intro t h; cases t <;> rw [hi] at h <;> omega
  | succ n ih =>
    have row : ∀ ps : List Tr, hiL ps ≤ n → (∀ t ∈ ps, wf t = true) → (∀ p q, q ∈ LR w ps p → p ≤ q) ∧ (bareA ps = false → ∀ p q, q ∈ LR w ps p → p < q) ∧ (∀ p q, p ≤ w.length → q ∈ LR w ps p → q ≤ w.length) := by
      intro ps
      induction ps with
      | nil => intro _ _; refine ⟨fun p q h => by simp [LR] at h; omega, fun h => by simp [bareA] at h, fun p q hp h => by simp [LR] at h; omega⟩
      | cons t ts ih2 =>
        intro h hw
        rw [hiL] at h
        obtain ⟨a1, a2, a3⟩ := ih t (by omega) (hw t List.mem_cons_self)
        obtain ⟨b1, b2, b3⟩ := ih2 (by omega) fun x hx => hw x (List.mem_cons_of_mem _ hx)
        refine ⟨fun p q hq => ?_, fun hb p q hq => ?_, fun p q hp hq => ?_⟩
        · rw [LR] at hq
          obtain ⟨r, hr, hq⟩ := List.mem_flatMap.mp hq
          have := a1 p r hr; have := b1 r q hq; omega
        · rw [LR] at hq
          obtain ⟨r, hr, hq⟩ := List.mem_flatMap.mp hq
          rw [bareA, Bool.and_eq_false_iff] at hb
          have := a1 p r hr; have := b1 r q hq
          rcases hb with hb | hb
          · have := a2 hb p r hr; omega
          · have := b2 hb r q hq; omega
        · rw [LR] at hq
          obtain ⟨r, hr, hq⟩ := List.mem_flatMap.mp hq
          exact b3 r q (a3 p r hp hr) hq
    have pick : ∀ ps : List Tr, hiL ps ≤ n → (∀ t ∈ ps, wf t = true) → (∀ p q, q ∈ LP' w ps p → p ≤ q) ∧ (bareE ps = false → ∀ p q, q ∈ LP' w ps p → p < q) ∧ (∀ p q, p ≤ w.length → q ∈ LP' w ps p → q ≤ w.length) := by
      intro ps
      induction ps with
      | nil => intro _ _; refine ⟨fun p q h => by simp [LP'] at h, fun _ p q h => by simp [LP'] at h, fun p q hp h => by simp [LP'] at h⟩
      | cons t ts ih2 =>
        intro h hw
        rw [hiL] at h
        obtain ⟨a1, a2, a3⟩ := ih t (by omega) (hw t List.mem_cons_self)
        obtain ⟨b1, b2, b3⟩ := ih2 (by omega) fun x hx => hw x (List.mem_cons_of_mem _ hx)
        refine ⟨fun p q hq => ?_, fun hb p q hq => ?_, fun p q hp hq => ?_⟩
        · rw [LP'] at hq
          rcases List.mem_append.mp hq with hq | hq
          · exact a1 p q hq
          · exact b1 p q hq
        · rw [LP'] at hq
          rw [bareE, Bool.or_eq_false_iff] at hb
          rcases List.mem_append.mp hq with hq | hq
          · exact a2 hb.1 p q hq
          · exact b2 hb.2 p q hq
        · rw [LP'] at hq
          rcases List.mem_append.mp hq with hq | hq
          · exact a3 p q hp hq
          · exact b3 p q hp hq
    intro t h hw
    cases t with
    | take b z =>
      have key : ∀ p q, q ∈ LT w (.take b z) p → q = p + 1 ∧ p < w.length := fun p q hq => by
        rw [LT] at hq
        split at hq
        · rename_i c hc
          split at hq
          · exact ⟨List.mem_singleton.mp hq, (List.getElem?_eq_some_iff.mp hc).1⟩
          · simp at hq
        · simp at hq
      exact ⟨fun p q hq => by have := key p q hq; omega, fun _ p q hq => by have := key p q hq; omega, fun p q _ hq => by have := key p q hq; omega⟩
    | row ps =>
      rw [hi] at h
      have := row ps (by omega) (wf_row hw).2
      simpa only [LT, bare] using this
    | pick ps =>
      rw [hi] at h
      have := pick ps (by omega) (wf_pick hw).2
      simpa only [LT, bare] using this
    | maybe t g =>
      rw [hi] at h
      obtain ⟨a1, a2, a3⟩ := ih t (by omega) (wf_maybe hw)
      have key : ∀ p q, q ∈ LT w (.maybe t g) p → q ∈ LT w t p ∨ q = p := fun p q hq => by
        rw [LT] at hq
        split at hq
        · rcases List.mem_append.mp hq with hq | hq
          · exact .inl hq
          · exact .inr (List.mem_singleton.mp hq)
        · rcases List.mem_cons.mp hq with hq | hq
          · exact .inr hq
          · exact .inl hq
      refine ⟨fun p q hq => ?_, fun hb => by simp [bare] at hb, fun p q hp hq => ?_⟩
      · rcases key p q hq with hq | rfl
        · exact a1 p q hq
        · omega
      · rcases key p q hq with hq | rfl
        · exact a3 p q hp hq
        · exact hp
    | many t g =>
      rw [hi] at h
      have hw2 := wf_many hw
      obtain ⟨a1, a2, a3⟩ := ih t (by omega) hw2.1
      have a2 := a2 hw2.2
      refine ⟨fun p q hq => ?_, fun hb => by simp [bare] at hb, fun p q hp hq => ?_⟩
      · rw [LT] at hq; exact LM_ge a2 _ p q hq
      · rw [LT] at hq
        have aux : ∀ k p q, p ≤ w.length → q ∈ LM (LT w t) g k p → q ≤ w.length := by
          intro k
          induction k with
          | zero => intro p q hp h; simp [LM] at h; omega
          | succ k ihk =>
            intro p q hp h
            rw [LM] at h
            have : q ∈ (LT w t p).flatMap (LM (LT w t) g k) ∨ q = p := by
              split at h
              · rcases List.mem_append.mp h with h | h
                · exact .inl h
                · exact .inr (List.mem_singleton.mp h)
              · rcases List.mem_cons.mp h with h | h
                · exact .inr h
                · exact .inl h
            rcases this with h | rfl
            · obtain ⟨r, hr, hq⟩ := List.mem_flatMap.mp h
              exact ihk r q (a3 p r hp hr) hq
            · exact hp
        exact aux _ p q hp hq
theorem LT_gt {w : List Nat} {t : Tr} (hw : wf t = true) (hb : bare t = false) : ∀ p q, q ∈ LT w t p → p < q := (LT_ge_aux w _ t (Nat.le_refl _) hw).2.1 hb
theorem LT_le {w : List Nat} {t : Tr} (hw : wf t = true) : ∀ p q, p ≤ w.length → q ∈ LT w t p → q ≤ w.length := (LT_ge_aux w _ t (Nat.le_refl _) hw).2.2
theorem LM_enough {w : List Nat} {f : Nat → List Nat} {g : Bool} (h1 : ∀ p q, q ∈ f p → p < q) (h2 : ∀ p q, p ≤ w.length → q ∈ f p → q ≤ w.length) : ∀ k k' p, w.length ≤ k + p → w.length ≤ k' + p → p ≤ w.length → LM f g k p = LM f g k' p := by
  intro k
  induction k with
  | zero =>
    intro k' p hk hk' hp
    have he : f p = [] := by
      cases hf : f p with
      | nil => rfl
      | cons q qs =>
        have hq : q ∈ f p := by rw [hf]; exact List.mem_cons_self
        have := h1 p q hq
        have := h2 p q hp hq
        omega
    cases k' with
    | zero => rfl
    | succ k' => rw [LM, LM, he]; simp
  | succ k ih =>
    intro k' p hk hk' hp
    cases k' with
    | zero =>
      have he : f p = [] := by
        cases hf : f p with
        | nil => rfl
        | cons q qs =>
          have hq : q ∈ f p := by rw [hf]; exact List.mem_cons_self
          have := h1 p q hq
          have := h2 p q hp hq
          omega
      rw [LM, LM, he]; simp
    | succ k' =>
      have : (f p).flatMap (LM f g k) = (f p).flatMap (LM f g k') := by
        have aux : ∀ xs : List Nat, (∀ q ∈ xs, p < q ∧ q ≤ w.length) → xs.flatMap (LM f g k) = xs.flatMap (LM f g k') := by
          intro xs
          induction xs with
          | nil => intro _; rfl
          | cons q qs ihq =>
            intro hq
            have h3 := hq q List.mem_cons_self
            rw [List.flatMap_cons, List.flatMap_cons, ih k' q (by omega) (by omega) h3.2, ihq fun r hr => hq r (List.mem_cons_of_mem _ hr)]
        exact aux _ fun q hq => ⟨h1 p q hq, h2 p q hp hq⟩
      rw [LM, LM, this]
/-- one more round -/
theorem LT_many (w : List Nat) (t : Tr) (g : Bool) (hw : wf (.many t g) = true) (p : Nat) (hp : p ≤ w.length) :
    LT w (.many t g) p = if g = true then (LT w t p).flatMap (LT w (.many t g)) ++ [p] else p :: (LT w t p).flatMap (LT w (.many t g)) := by
  have hw2 := wf_many hw
  have h1 := LT_gt (w := w) hw2.1 hw2.2
  have h2 := LT_le (w := w) hw2.1
  have e : LT w (.many t g) = LM (LT w t) g w.length := by funext q; rw [LT]
  rw [e, LM_enough (g := g) h1 h2 w.length (w.length + 1) p (by omega) (by omega) hp, LM]
end Mt
end
section
namespace Mt
open Mini Bd
def prt (g : Bool) (e th : Nat) : St := if g = true then .part e th else .part th e
def chain : List Nat → List (Option St) → Nat × List (Option St)
  | [], s => (0, s)
  | [e], s => (e, s)
  | e :: f :: es, s => ((chain (f :: es) s).2.length, (chain (f :: es) s).2 ++ [some (.part e (chain (f :: es) s).1)])
mutual
/-- how the net of a tree is built onto what stands -/
def bld : Tr → Nat → List (Option St) → Nat × List (Option St)
  | .take b z, th, s => (s.length, s ++ [some (.take b z th)])
  | .row ps, th, s => bldR ps th s
  | .pick ps, th, s => chain (bldP ps th s).1 (bldP ps th s).2
  | .maybe t g, th, s => (s.length, (bld t th (s ++ [none])).2.set s.length (some (prt g (bld t th (s ++ [none])).1 th)))
  | .many t g, th, s => (s.length, (bld t s.length (s ++ [none])).2.set s.length (some (prt g (bld t s.length (s ++ [none])).1 th)))
def bldR : List Tr → Nat → List (Option St) → Nat × List (Option St)
  | [], th, s => (th, s)
  | t :: ts, th, s => bld t (bldR ts th s).1 (bldR ts th s).2
def bldP : List Tr → Nat → List (Option St) → List Nat × List (Option St)
  | [], _, s => ([], s)
  | t :: ts, th, s => ((bld t th s).1 :: (bldP ts th (bld t th s).2).1, (bldP ts th (bld t th s).2).2)
end
/-- s' goes on from s; what is new has no gap -/
structure Grow (s s' : List (Option St)) : Prop where
  le : s.length ≤ s'.length
  old : ∀ i, i < s.length → s'[i]? = s[i]?
  new : ∀ i, s.length ≤ i → i < s'.length → ∃ x, s'[i]? = some (some x)
theorem Grow.refl (s : List (Option St)) : Grow s s := ⟨Nat.le_refl _, fun _ _ => rfl, fun i h1 h2 => by omega⟩
theorem Grow.trans {a b c : List (Option St)} (h1 : Grow a b) (h2 : Grow b c) : Grow a c := by
  refine ⟨Nat.le_trans h1.le h2.le, fun i hi => ?_, fun i h3 h4 => ?_⟩
  · rw [h2.old i (by have := h1.le; omega), h1.old i hi]
  · by_cases h5 : i < b.length
    · rw [h2.old i h5]; exact h1.new i h3 h5
    · exact h2.new i (by omega) h4
theorem Grow.add (s : List (Option St)) (x : St) : Grow s (s ++ [some x]) := by
  refine ⟨by simp, fun i hi => by rw [List.getElem?_append_left hi], fun i h1 h2 => ?_⟩
  simp at h2
  have : i = s.length := by omega
  subst this
  exact ⟨x, by simp⟩
theorem Grow.hole {s s1 : List (Option St)} (h : Grow (s ++ [none]) s1) (x : St) : Grow s (s1.set s.length (some x)) := by
  have hl := h.le
  rw [List.length_append, List.length_singleton] at hl
  refine ⟨by rw [List.length_set]; omega, fun i hi => ?_, fun i h1 h2 => ?_⟩
  · rw [List.getElem?_set_ne (by omega), h.old i (by simp; omega), List.getElem?_append_left hi]
  · rw [List.length_set] at h2
    by_cases h3 : i = s.length
    · subst h3
      exact ⟨x, by rw [List.getElem?_set_self (by omega)]⟩
    · rw [List.getElem?_set_ne (by omega)]
      exact h.new i (by simp; omega) h2
theorem chain_grow : ∀ (es : List Nat) (s : List (Option St)), Grow s (chain es s).2
  | [], s => Grow.refl s
  | [e], s => Grow.refl s
  | e :: f :: es, s => by
    rw [chain]
    exact (chain_grow (f :: es) s).trans (Grow.add _ _)
theorem bld_grow_aux : ∀ n t, hi t ≤ n → ∀ th s, Grow s (bld t th s).2 := by
  intro n
  induction n with
  | zero => intro t h; cases t <;> rw [hi] at h <;> omega
  | succ n ih =>
    have row : ∀ ps : List Tr, hiL ps ≤ n → ∀ th s, Grow s (bldR ps th s).2 := by
      intro ps
      induction ps with
      | nil => intro _ th s; rw [bldR]; exact Grow.refl s
      | cons t ts ih2 =>
        intro h th s
        rw [hiL] at h
        rw [bldR]
        exact (ih2 (by omega) th s).trans (ih t (by omega) _ _)
    have pick : ∀ ps : List Tr, hiL ps ≤ n → ∀ th s, Grow s (bldP ps th s).2 := by
      intro ps
      induction ps with
      | nil => intro _ th s; rw [bldP]; exact Grow.refl s
      | cons t ts ih2 =>
        intro h th s
        rw [hiL] at h
        rw [bldP]
        exact (ih t (by omega) _ _).trans (ih2 (by omega) _ _)
    intro t h th s
    cases t with
    | take b z => rw [bld]; exact Grow.add _ _
    | row ps => rw [hi] at h; rw [bld]; exact row ps (by omega) th s
    | pick ps => rw [hi] at h; rw [bld]; exact (pick ps (by omega) th s).trans (chain_grow _ _)
    | maybe t g => rw [hi] at h; rw [bld]; exact (ih t (by omega) _ _).hole _
    | many t g => rw [hi] at h; rw [bld]; exact (ih t (by omega) _ _).hole _
theorem bld_grow (t : Tr) (th : Nat) (s : List (Option St)) : Grow s (bld t th s).2 := bld_grow_aux _ t (Nat.le_refl _) th s
theorem bldR_grow : ∀ (ps : List Tr) (th : Nat) (s : List (Option St)), Grow s (bldR ps th s).2
  | [], th, s => by rw [bldR]; exact Grow.refl s
  | t :: ts, th, s => by rw [bldR]; exact (bldR_grow ts th s).trans (bld_grow _ _ _)
theorem bldP_grow : ∀ (ps : List Tr) (th : Nat) (s : List (Option St)), Grow s (bldP ps th s).2
  | [], th, s => by rw [bldP]; exact Grow.refl s
  | t :: ts, th, s => by rw [bldP]; exact (bld_grow _ _ _).trans (bldP_grow ts _ _)
def LNe (N : List St) (w : List Nat) (s p : Nat) (xs : List Nat) : Prop := ∃ h, LN N w h s p xs
theorem LNe.part {N : List St} {w : List Nat} {s p a b : Nat} {xs ys : List Nat} (h : N[s]? = some (.part a b)) (h1 : LNe N w a p xs) (h2 : LNe N w b p ys) : LNe N w s p (xs ++ ys) := by
  obtain ⟨m, h1⟩ := h1
  obtain ⟨n, h2⟩ := h2
  exact ⟨max m n + 1, .part h (h1.mono (by omega)) (h2.mono (by omega))⟩
theorem LNe.prt {N : List St} {w : List Nat} {s p a b : Nat} {g : Bool} {xs ys : List Nat} (h : N[s]? = some (prt g a b)) (h1 : LNe N w a p xs) (h2 : LNe N w b p ys) : LNe N w s p (if g = true then xs ++ ys else ys ++ xs) := by
  cases g with
  | true => exact LNe.part h h1 h2
  | false => exact LNe.part h h2 h1
/-- N holds what is filled in s from lo on -/
def Agr (N : List St) (lo : Nat) (s : List (Option St)) : Prop := ∀ i x, lo ≤ i → s[i]? = some (some x) → N[i]? = some x
theorem Agr.back {N : List St} {lo : Nat} {s s' : List (Option St)} (h : Agr N lo s') (g : Grow s s') : Agr N lo s := fun i x hi he => by
  have : i < s.length := (List.getElem?_eq_some_iff.mp he).1
  exact h i x hi (by rw [g.old i this]; exact he)
theorem Agr.up {N : List St} {lo lo' : Nat} {s : List (Option St)} (h : Agr N lo s) (hl : lo ≤ lo') : Agr N lo' s := fun i x hi he => h i x (by omega) he
theorem flat_one {α β : Type} (xs : List α) (f : α → List β) (p : α) : (xs ++ [p]).flatMap f = xs.flatMap f ++ f p := by simp
theorem bld_LN_aux (N : List St) (w : List Nat) : ∀ n t, hi t ≤ n → wf t = true → ∀ th s (k : Nat → List Nat), Agr N s.length (bld t th s).2 → ∀ p, p ≤ w.length → (∀ q ∈ LT w t p, LNe N w th q (k q)) → LNe N w (bld t th s).1 p ((LT w t p).flatMap k) := by
  intro n
  induction n with
  | zero => intro t h; cases t <;> rw [hi] at h <;> omega
  | succ n ih =>
    have row : ∀ ps : List Tr, hiL ps ≤ n → (∀ t ∈ ps, wf t = true) → ∀ th s (k : Nat → List Nat), Agr N s.length (bldR ps th s).2 → ∀ p, p ≤ w.length → (∀ q ∈ LR w ps p, LNe N w th q (k q)) → LNe N w (bldR ps th s).1 p ((LR w ps p).flatMap k) := by
      intro ps
      induction ps with
      | nil => intro _ _ th s k _ p _ hk; rw [LR] at hk ⊢; rw [bldR]; simpa using hk p List.mem_cons_self
      | cons t ts ih2 =>
        intro h hw th s k ha p hp hk
        rw [hiL] at h
        rw [bldR] at ha ⊢
        rw [LR] at hk ⊢
        have g1 := bldR_grow ts th s
        rw [List.flatMap_assoc]
        refine ih t (by omega) (hw t List.mem_cons_self) _ _ _ (ha.up g1.le) p hp fun q hq => ?_
        refine ih2 (by omega) (fun x hx => hw x (List.mem_cons_of_mem _ hx)) th s k (ha.back (bld_grow _ _ _)) q (LT_le (hw t List.mem_cons_self) p q hp hq) fun r hr => hk r (List.mem_flatMap.mpr ⟨q, hq, hr⟩)
    have pick : ∀ ps : List Tr, hiL ps ≤ n → (∀ t ∈ ps, wf t = true) → ∀ th s (k : Nat → List Nat), Agr N s.length (bldP ps th s).2 → ∀ p, p ≤ w.length → (∀ q ∈ LP' w ps p, LNe N w th q (k q)) →
        ∃ xss : List (List Nat), xss.length = (bldP ps th s).1.length ∧ (∀ (i : Nat) e xs, (bldP ps th s).1[i]? = some e → xss[i]? = some xs → LNe N w e p xs) ∧ xss.flatten = (LP' w ps p).flatMap k := by
      intro ps
      induction ps with
      | nil => intro _ _ th s k _ p _ hk; refine ⟨[], by rw [bldP]; rfl, fun i e xs h1 h2 => by simp at h2, by rw [LP']; rfl⟩
      | cons t ts ih2 =>
        intro h hw th s k ha p hp hk
        rw [hiL] at h
        rw [bldP] at ha ⊢
        rw [LP'] at hk ⊢
        have g1 := bld_grow t th s
        obtain ⟨xss, h1, h2, h3⟩ := ih2 (by omega) (fun x hx => hw x (List.mem_cons_of_mem _ hx)) th (bld t th s).2 k (ha.up g1.le) p hp fun q hq => hk q (List.mem_append_right _ hq)
        have h4 := ih t (by omega) (hw t List.mem_cons_self) th s k (ha.back (bldP_grow _ _ _)) p hp fun q hq => hk q (List.mem_append_left _ hq)
        refine ⟨_ :: xss, by simp [h1], fun i e xs q1 q2 => ?_, by rw [List.flatten_cons, h3, List.flatMap_append]⟩
        cases i with
        | zero => simp at q1 q2; rw [← q1, ← q2]; exact h4
        | succ i => exact h2 i e xs (by simpa using q1) (by simpa using q2)
    have chn : ∀ (es : List Nat) (xss : List (List Nat)) (s : List (Option St)) (p : Nat), es ≠ [] → xss.length = es.length → (∀ (i : Nat) e xs, es[i]? = some e → xss[i]? = some xs → LNe N w e p xs) → Agr N s.length (chain es s).2 → LNe N w (chain es s).1 p xss.flatten := by
      intro es
      induction es with
      | nil => intro xss s p h; exact absurd rfl h
      | cons e es ihc =>
        intro xss s p _ hl h ha
        cases xss with
        | nil => simp at hl
        | cons xs xss =>
          cases es with
          | nil =>
            cases xss with
            | cons _ _ => simp at hl
            | nil => simpa [chain] using h 0 e xs rfl rfl
          | cons f es =>
            rw [chain] at ha ⊢
            have g := chain_grow (f :: es) s
            have h2 := ihc xss s p (by simp) (by simpa using hl) (fun i e' xs' q1 q2 => h (i + 1) e' xs' (by simpa using q1) (by simpa using q2)) (ha.back (Grow.add _ _))
            rw [List.flatten_cons]
            refine LNe.part (ha _ _ ?_ (by simp)) (h 0 e xs rfl rfl) h2
            have := g.le; omega
    intro t h hw th s k ha p hp hk
    cases t with
    | take b z =>
      rw [bld] at ha ⊢
      have hN := ha s.length (.take b z th) (Nat.le_refl _) (by simp)
      rw [LT] at hk ⊢
      cases hc : w[p]? with
      | none => exact ⟨0, .no hN fun c h => by rw [hc] at h; cases h⟩
      | some c =>
        rw [hc] at hk
        by_cases ht : takes b z c = true
        · simp only [ht, if_true] at hk ⊢
          obtain ⟨m, hm⟩ := hk (p + 1) List.mem_cons_self
          exact ⟨m + 1, by simpa using LN.go hN hc ht hm⟩
        · simp only [ht]
          exact ⟨0, .no hN fun c' h => by rw [hc] at h; cases h; simpa using ht⟩
    | row ps =>
      rw [hi] at h
      rw [bld] at ha ⊢
      rw [LT] at hk ⊢
      exact row ps (by omega) (wf_row hw).2 th s k ha p hp hk
    | pick ps =>
      rw [hi] at h
      rw [bld] at ha ⊢
      rw [LT] at hk ⊢
      have g1 := bldP_grow ps th s
      obtain ⟨xss, h1, h2, h3⟩ := pick ps (by omega) (wf_pick hw).2 th s k (ha.back (chain_grow _ _)) p hp hk
      rw [← h3]
      refine chn _ xss _ p ?_ h1 h2 (ha.up g1.le)
      have h2 := (wf_pick hw).1.1
      cases ps with
      | nil => simp at h2
      | cons _ _ => rw [bldP]; simp
    | maybe t g =>
      rw [hi] at h
      rw [bld] at ha ⊢
      have g1 := bld_grow t th (s ++ [none])
      have hl := g1.le
      rw [List.length_append, List.length_singleton] at hl
      have hN := ha s.length _ (Nat.le_refl _) (by rw [List.getElem?_set_self (by omega)])
      have ha1 : Agr N (s ++ [none]).length (bld t th (s ++ [none])).2 := fun i x hi he => by
        rw [List.length_append, List.length_singleton] at hi
        exact ha i x (by omega) (by rw [List.getElem?_set_ne (by omega)]; exact he)
      have e : LT w (.maybe t g) p = if g = true then LT w t p ++ [p] else p :: LT w t p := by rw [LT]
      have hk' : ∀ q ∈ LT w t p, LNe N w th q (k q) := fun q hq => hk q (by rw [e]; split <;> simp [hq])
      have hkp : LNe N w th p (k p) := hk p (by rw [e]; split <;> simp)
      have := LNe.prt hN (ih t (by omega) (wf_maybe hw) th _ k ha1 p hp hk') hkp
      rw [e]
      cases g <;> simpa using this
    | many t g =>
      rw [hi] at h
      rw [bld] at ha ⊢
      have hw2 := wf_many hw
      have g1 := bld_grow t s.length (s ++ [none])
      have hl := g1.le
      rw [List.length_append, List.length_singleton] at hl
      have hN := ha s.length _ (Nat.le_refl _) (by rw [List.getElem?_set_self (by omega)])
      have ha1 : Agr N (s ++ [none]).length (bld t s.length (s ++ [none])).2 := fun i x hi he => by
        rw [List.length_append, List.length_singleton] at hi
        exact ha i x (by omega) (by rw [List.getElem?_set_ne (by omega)]; exact he)
      have main : ∀ m p, w.length ≤ m + p → p ≤ w.length → (∀ q ∈ LT w (.many t g) p, LNe N w th q (k q)) → LNe N w s.length p ((LT w (.many t g) p).flatMap k) := by
        intro m
        induction m with
        | zero =>
          intro p hm hp hk
          have e := LT_many w t g hw p hp
          have hke : LT w t p = [] := by
            cases hf : LT w t p with
            | nil => rfl
            | cons q qs =>
              have hq : q ∈ LT w t p := by rw [hf]; exact List.mem_cons_self
              have := LT_gt hw2.1 hw2.2 p q hq
              have := LT_le hw2.1 p q hp hq
              omega
          have hkp : LNe N w th p (k p) := hk p (by rw [e]; split <;> simp)
          have h0 := ih t (by omega) hw2.1 s.length _ (fun q => (LT w (.many t g) q).flatMap k) ha1 p hp (by rw [hke]; simp)
          have := LNe.prt hN h0 hkp
          rw [e]
          rw [hke] at this ⊢
          cases g <;> simpa using this
        | succ m ihm =>
          intro p hm hp hk
          have e := LT_many w t g hw p hp
          have hkp : LNe N w th p (k p) := hk p (by rw [e]; split <;> simp)
          have h0 := ih t (by omega) hw2.1 s.length _ (fun q => (LT w (.many t g) q).flatMap k) ha1 p hp fun q hq => by
            have h5 := LT_gt hw2.1 hw2.2 p q hq
            have h6 := LT_le hw2.1 p q hp hq
            exact ihm q (by omega) h6 fun r hr => hk r (by
              rw [e]
              have : r ∈ (LT w t p).flatMap (LT w (.many t g)) := List.mem_flatMap.mpr ⟨q, hq, hr⟩
              split <;> simp [this])
          have := LNe.prt hN h0 hkp
          rw [e]
          cases g with
          | true => simpa [List.flatMap_assoc] using this
          | false => simpa [List.flatMap_assoc] using this
      exact main w.length p (by omega) hp hk
/-- the net of a tree takes what the tree takes -/
theorem bld_LN {N : List St} {w : List Nat} {t : Tr} (hw : wf t = true) (th : Nat) (s : List (Option St)) (k : Nat → List Nat) (ha : Agr N s.length (bld t th s).2) (p : Nat) (hp : p ≤ w.length) (hk : ∀ q ∈ LT w t p, LNe N w th q (k q)) : LNe N w (bld t th s).1 p ((LT w t p).flatMap k) :=
  bld_LN_aux N w _ t (Nat.le_refl _) hw th s k ha p hp hk
/-- the whole net -/
def fill (s : List (Option St)) : List St := s.map fun o => o.getD .fin
def netOf (t : Tr) : Nat × List St := ((bld t 0 [some .fin]).1, fill (bld t 0 [some .fin]).2)
theorem net_LN {w : List Nat} {t : Tr} (hw : wf t = true) (p : Nat) (hp : p ≤ w.length) : LNe (netOf t).2 w (netOf t).1 p (LT w t p) := by
  have g := bld_grow t 0 [some .fin]
  have ha : Agr (netOf t).2 1 (bld t 0 [some .fin]).2 := fun i x _ he => by
    unfold netOf fill
    rw [List.getElem?_map, he]; rfl
  have h0 : (netOf t).2[0]? = some .fin := by
    unfold netOf fill
    rw [List.getElem?_map, g.old 0 (by simp)]; rfl
  have := bld_LN (N := (netOf t).2) (w := w) hw 0 [some .fin] (fun q => [q]) ha p hp fun q _ => ⟨0, .fin h0⟩
  have e : (LT w t p).flatMap (fun q => [q]) = LT w t p := by simp
  rw [e] at this
  exact this
end Mt
end
section
namespace Mt
open Mini Bd
def sd : St → D
  | .fin => .tup [.str [101, 110, 100]]
  | .take b z n => .tup [.str [116, 97, 107, 101], .bl b, .str z, .int (n : Int)]
  | .part a b => .tup [.str [112, 97, 114, 116], .int (a : Int), .int (b : Int)]
def osd : Option St → D
  | none => .non
  | some x => sd x
theorem free_osd (o : Option St) : free (osd o) = true := by
  cases o with
  | none => rfl
  | some x => cases x <;> rfl
theorem p_parted (e th : Nat) (g : Bool) : f_p_parted [.int (e : Int), .int (th : Int), .bl g] = .ok (sd (prt g e th)) := by
  cases g <;> simp [f_p_parted, run_eq, b_p_parted, prt, sd]
theorem app_L (ds : List D) (d : D) (h : ds.length < 16777216) (hf : free d = true) : kApp2 0 (.ok (d, [Ob.L ds])) = .ok (.non, [.L (ds ++ [d])]) := by
  rw [kApp2_ok (ds := ds) rfl h hf]; rfl
theorem app_L0 (ds : List D) (a : M) (e : Env) : kApp a e (.ok (.own 0, [Ob.L ds])) = kApp2 0 (a e [.L ds]) := kApp_ok rfl
theorem rz_L (ds : List D) : rz [Ob.L ds] (.own 0) = .lst ds := rz_own rfl
theorem put_L (ds : List D) (k : Nat) (v : D) (h : k < ds.length) (hf : free v = true) : putS [Ob.L ds] 0 (.int (k : Int)) v = some [.L (ds.set k v)] := by
  simp [putS, pos_nat h, hf]
/-- what built has to do for one tree -/
def BuiltOk (φ : F) (t : Tr) : Prop := ∀ (th : Nat) (s : List (Option St)), (bld t th s).2.length ≤ 1000000 → φ [td t, .int (th : Int), .own 0] [.L (s.map osd)] = .ok (.int ((bld t th s).1 : Int), [.L ((bld t th s).2.map osd)])
theorem built_row (φ : F) (e0 x4 : Option D) (ps : List Tr) (hφ : ∀ t ∈ ps, BuiltOk φ t) (th : Nat) (s : List (Option St)) (hB : (bldR ps th s).2.length ≤ 1000000) :
    ∃ x3, forF 3 (sSet 1 (mCallG φ (aCons (mV 3) (aCons (mV 1) (aCons (mV 2) aNil))))) (ps.map td).reverse [e0, some (.int (th : Int)), some (.own 0), none, x4] [.L (s.map osd)] =
      .ok (.nx [e0, some (.int ((bldR ps th s).1 : Int)), some (.own 0), x3, x4], [.L ((bldR ps th s).2.map osd)]) := by
  have hl := forF_inv (i := 3) (b := sSet 1 (mCallG φ (aCons (mV 3) (aCons (mV 1) (aCons (mV 2) aNil)))))
    (fun j e st => j ≤ ps.length ∧ ∃ x3, e = [e0, some (.int ((bldR (ps.drop (ps.length - j)) th s).1 : Int)), some (.own 0), x3, x4] ∧ st = [.L ((bldR (ps.drop (ps.length - j)) th s).2.map osd)])
    (ps.map td).reverse 0 [e0, some (.int (th : Int)), some (.own 0), none, x4] [.L (s.map osd)] ⟨Nat.zero_le _, none, by simp [bldR], by simp [bldR]⟩ (fun k e st d hi' hd => by
      obtain ⟨_, x3, rfl, rfl⟩ := hi'
      rw [Nat.zero_add] at *
      have hk : k < ps.length := by have := (List.getElem?_eq_some_iff.mp hd).1; simpa using this
      have hk2 : ps.length - (k + 1) < ps.length := by omega
      have hd2 : d = td ps[ps.length - (k + 1)] := by
        rw [List.getElem?_reverse (by simpa using hk), List.length_map, List.getElem?_map] at hd
        rw [show ps.length - 1 - k = ps.length - (k + 1) by omega, List.getElem?_eq_getElem hk2] at hd
        simpa using hd.symm
      subst hd2
      have e1 : ps.drop (ps.length - (k + 1)) = ps[ps.length - (k + 1)] :: ps.drop (ps.length - k) := by
        rw [List.drop_eq_getElem_cons hk2, show ps.length - (k + 1) + 1 = ps.length - k by omega]
      have hgr : (bldR (ps.drop (ps.length - (k + 1))) th s).2.length ≤ 1000000 := by
        have key : ∀ m, (bldR (ps.drop m) th s).2.length ≤ (bldR ps th s).2.length := by
          have : ∀ qs : List Tr, ∀ m, (bldR (qs.drop m) th s).2.length ≤ (bldR qs th s).2.length := by
            intro qs
            induction qs with
            | nil => intro m; simp
            | cons q qs ihq =>
              intro m
              cases m with
              | zero => simp
              | succ m =>
                rw [List.drop_succ_cons]
                have h1 := ihq m
                have h2 := (bld_grow q (bldR qs th s).1 (bldR qs th s).2).le
                rw [bldR]; omega
          exact this ps
        have := key (ps.length - (k + 1)); omega
      rw [e1, bldR] at hgr
      have h2 := hφ ps[ps.length - (k + 1)] (List.getElem_mem hk2) _ _ hgr
      refine ⟨_, _, .inl ?_, by omega, some (td ps[ps.length - (k + 1)]), by rw [e1, bldR], by rw [e1, bldR]⟩
      simp [h2])
  obtain ⟨e', st', hf, h1, x3, rfl, rfl⟩ := hl
  refine ⟨x3, ?_⟩
  rw [hf]
  simp
theorem built_lc (φ : F) (x0 x1 x3 x5 x6 : Option D) (th : Nat) : ∀ (ps : List Tr) (s : List (Option St)), (∀ t ∈ ps, BuiltOk φ t) → (bldP ps th s).2.length ≤ 1000000 →
    lcF 4 tYes (mCallG φ (aCons (mV 4) (aCons (mV 1) (aCons (mV 2) aNil)))) [x0, some (.int (th : Int)), some (.own 0), x3, none, x5, x6] (ps.map td) [.L (s.map osd)] = .ok ((bldP ps th s).1.map fun (e : Nat) => .int (e : Int), [.L ((bldP ps th s).2.map osd)])
  | [], s, _, _ => by simp [lcF, bldP]
  | t :: ts, s, h, hB => by
    rw [bldP] at hB ⊢
    have g := bldP_grow ts th (bld t th s).2
    have h1 := h t List.mem_cons_self th s (by have := g.le; simp only at hB; omega)
    have h2 := built_lc φ x0 x1 x3 x5 x6 th ts (bld t th s).2 (fun x hx => h x (List.mem_cons_of_mem _ hx)) hB
    have h3 : mCallG φ (aCons (mV 4) (aCons (mV 1) (aCons (mV 2) aNil))) [x0, some (.int (th : Int)), some (.own 0), x3, some (td t), x5, x6] [.L (s.map osd)] = .ok (.int ((bld t th s).1 : Int), [.L ((bld t th s).2.map osd)]) := by
      simp [h1]
    rw [List.map_cons, lcF]
    simp only [tYes_eq, R.nox_ok, R.bind_ok, if_true, List.set, h3, chk, List.isEmpty_cons, freeL, free, Bool.and_self, Bool.or_true, h2, List.map_cons]
end Mt
end
section
namespace Mt
open Mini Bd
theorem drop_last1 {α : Type} (es : List α) (hne : es ≠ []) : es.drop (es.length - 1) = [es.getLast hne] := by
  rcases List.eq_nil_or_concat es with h | ⟨ini, x, h⟩
  · exact absurd h hne
  · subst h; simp
def chainB : S := (sCons (sEx (mApp (mV 2) (mTup (aCons (mC (.str [112, 97, 114, 116])) (aCons (mV 6) (aCons (mV 5) aNil))))))
    (sSet 5 (mOp opSub (mB bLen (mV 2)) (mC (.int 1)))))
theorem chain_loop (x0 x1 x3 x4 : Option D) (es : List Nat) (s : List (Option St)) (hne : es ≠ []) (hB : (chain es s).2.length ≤ 1000000) :
    ∃ x6, forF 6 chainB (es.dropLast.map fun (e : Nat) => .int (e : Int)).reverse [x0, x1, some (.own 0), x3, x4, some (.int ((es.getLast hne : Nat) : Int)), none] [.L (s.map osd)] =
      .ok (.nx [x0, x1, some (.own 0), x3, x4, some (.int ((chain es s).1 : Int)), x6], [.L ((chain es s).2.map osd)]) := by
  have hL : 0 < es.length := List.length_pos_iff.mpr hne
  have hlast : chain (es.drop (es.length - 1)) s = (es.getLast hne, s) := by
    rw [drop_last1 es hne]; rfl
  have hmono : ∀ (qs : List Nat) m, (chain (qs.drop m) s).2.length ≤ (chain qs s).2.length := by
    intro qs
    induction qs with
    | nil => intro m; simp
    | cons q qs ihq =>
      intro m
      cases m with
      | zero => simp
      | succ m =>
        rw [List.drop_succ_cons]
        have h1 := ihq m
        cases qs with
        | nil => simp [chain]
        | cons f fs => rw [chain, List.length_append]; omega
  have hl := forF_inv (i := 6) (b := chainB)
    (fun j e st => j + 1 ≤ es.length ∧ ∃ x6, e = [x0, x1, some (.own 0), x3, x4, some (.int ((chain (es.drop (es.length - (j + 1))) s).1 : Int)), x6] ∧ st = [.L ((chain (es.drop (es.length - (j + 1))) s).2.map osd)])
    (es.dropLast.map fun (e : Nat) => .int (e : Int)).reverse 0 [x0, x1, some (.own 0), x3, x4, some (.int ((es.getLast hne : Nat) : Int)), none] [.L (s.map osd)] ⟨by omega, none, by rw [Nat.zero_add, hlast], by rw [Nat.zero_add, hlast]⟩ (fun k e st d hi' hd => by
      obtain ⟨_, x6, rfl, rfl⟩ := hi'
      rw [Nat.zero_add] at *
      have hk : k < es.length - 1 := by have := (List.getElem?_eq_some_iff.mp hd).1; simpa using this
      have hk2 : es.length - (k + 2) < es.length := by omega
      have hd2 : d = .int ((es[es.length - (k + 2)] : Nat) : Int) := by
        rw [List.getElem?_reverse (by simpa using hk), List.length_map, List.length_dropLast, List.getElem?_map, List.getElem?_dropLast] at hd
        rw [if_pos (by omega), show es.length - 1 - 1 - k = es.length - (k + 2) by omega, List.getElem?_eq_getElem hk2] at hd
        simpa using hd.symm
      subst hd2
      have e1 : es.drop (es.length - (k + 2)) = es[es.length - (k + 2)] :: es.drop (es.length - (k + 1)) := by
        rw [List.drop_eq_getElem_cons hk2, show es.length - (k + 2) + 1 = es.length - (k + 1) by omega]
      obtain ⟨f, fs, hf⟩ : ∃ f fs, es.drop (es.length - (k + 1)) = f :: fs := by
        cases h : es.drop (es.length - (k + 1)) with
        | nil => have := congrArg List.length h; simp at this; omega
        | cons f fs => exact ⟨f, fs, rfl⟩
      have hb := hmono es (es.length - (k + 2))
      rw [e1, hf, chain] at hb
      rw [hf]
      generalize hC : chain (f :: fs) s = C at *
      generalize es[es.length - (k + 2)] = e0 at *
      rw [List.length_append, List.length_singleton] at hb
      have a2 := app_L (C.2.map osd) (sd (.part e0 C.1)) (by simp; omega) (free_osd (some (.part e0 C.1)))
      have a0 := app_L0 (C.2.map osd)
      have r2 := rz_L (C.2.map osd ++ [sd (.part e0 C.1)])
      have es2 : sd (.part e0 C.1) = .tup [.str [112, 97, 114, 116], .int (e0 : Int), .int (C.1 : Int)] := rfl
      rw [es2] at a2 r2
      refine ⟨_, _, .inl ?_, by omega, some (.int (e0 : Int)), by rw [show k + 1 + 1 = k + 2 from rfl, e1, hf, chain], by rw [show k + 1 + 1 = k + 2 from rfl, e1, hf, chain]⟩
      rw [hC]
      simp [chainB, a0, a2, r2, osd, sd])
  obtain ⟨e', st', hf, h1, x6, rfl, rfl⟩ := hl
  refine ⟨x6, ?_⟩
  rw [hf]
  simp only [List.length_reverse, List.length_map, List.length_dropLast, Nat.zero_add]
  rw [show es.length - (es.length - 1 + 1) = 0 by omega, List.drop_zero]
theorem ix_last_b (s : Sto) (xs : List D) (d : D) : opIx s (.lst (xs ++ [d])) (.int (-1)) = some d := by
  rw [opIx_lst]; simp [pos_last]
theorem ix_int_last (s : Sto) (es : List Nat) (hne : es ≠ []) : opIx s (.lst (es.map fun (e : Nat) => .int (e : Int))) (.int (-1)) = some (.int ((es.getLast hne : Nat) : Int)) := by
  have e := List.dropLast_concat_getLast hne
  have := ix_last_b s (es.dropLast.map fun (e : Nat) => .int (e : Int)) (.int ((es.getLast hne : Nat) : Int))
  rw [← List.map_singleton (f := fun (e : Nat) => D.int (e : Int)), ← List.map_append, e] at this
  exact this
theorem built_pick (n : Nat) (ps : List Tr) (hφ : ∀ t ∈ ps, BuiltOk (f_p_built n) t) (h2 : 2 ≤ ps.length) (h5 : ps.length ≤ 5000) (th : Nat) (s : List (Option St)) (hB : (bld (.pick ps) th s).2.length ≤ 1000000) :
    f_p_picked (n + 1) [.tup (ps.map td), .int (th : Int), .own 0] [.L (s.map osd)] = .ok (.int ((bld (.pick ps) th s).1 : Int), [.L ((bld (.pick ps) th s).2.map osd)]) := by
  rw [bld] at hB ⊢
  have g := chain_grow (bldP ps th s).1 (bldP ps th s).2
  have hlc := built_lc (f_p_built n) (some (.tup (ps.map td))) none none none none th ps s hφ (by have := g.le; omega)
  have hlen : ∀ (qs : List Tr) s, (bldP qs th s).1.length = qs.length := by
    intro qs
    induction qs with
    | nil => intro s; rw [bldP]; rfl
    | cons q qs ih => intro s; rw [bldP, List.length_cons, List.length_cons, ih]
  have hl := hlen ps s
  generalize hE : (bldP ps th s).1 = es at *
  generalize hS : (bldP ps th s).2 = s1 at *
  have hne : es ≠ [] := fun h => by rw [h] at hl; simp at hl; omega
  obtain ⟨x6, hf⟩ := chain_loop (some (.tup (ps.map td))) (some (.int (th : Int))) (some (.lst (es.map fun (e : Nat) => .int (e : Int)))) none es s1 hne hB
  have hi1 := ix_int_last [.L (s1.map osd)] es hne
  have hct : cut (es.map fun (e : Nat) => D.int (e : Int)) none (some (-1)) = es.dropLast.map fun (e : Nat) => .int (e : Int) := by
    rw [cut_last _ (by simp; omega), List.map_dropLast]
  unfold chainB at hf
  rw [List.map_dropLast] at hf hct
  simp [f_p_picked, runG_eq, b_p_picked, show ps.length ≤ 16777216 by omega, hlc, hi1, hct, hf, -opIx_lst]
end Mt
end
section
namespace Mt
open Mini Bd
theorem free_sd (x : St) : free (sd x) = true := free_osd (some x)
theorem built_all : ∀ (k : Nat) (t : Tr), hi t ≤ k → wf t = true → ∀ n, 2 * k ≤ n → BuiltOk (f_p_built n) t := by
  intro k
  induction k with
  | zero => intro t h; cases t <;> rw [hi] at h <;> omega
  | succ k ih =>
    intro t h hw n hn th s hB
    obtain ⟨m, rfl⟩ : ∃ m, n = m + 1 := ⟨n - 1, by omega⟩
    have gB := bld_grow t th s
    have hsl : s.length ≤ 1000000 := by have := gB.le; omega
    have a0 := app_L0 (s.map osd)
    cases t with
    | take b z =>
      rw [bld] at hB ⊢
      have a2 := app_L (s.map osd) (sd (.take b z th)) (by simp; omega) (free_sd _)
      have r2 := rz_L (s.map osd ++ [sd (.take b z th)])
      have es2 : sd (.take b z th) = .tup [.str [116, 97, 107, 101], .bl b, .str z, .int (th : Int)] := rfl
      rw [es2] at a2 r2
      simp [f_p_built, runG_eq, b_p_built, td_take, pos, a0, a2, r2, osd, sd]
    | row ps =>
      rw [hi] at h
      have hφ : ∀ t ∈ ps, BuiltOk (f_p_built m) t := fun t ht => ih t (by have := hi_mem ht; omega) ((wf_row hw).2 t ht) m (by omega)
      rw [bld] at hB ⊢
      obtain ⟨x3, hf⟩ := built_row (f_p_built m) (some (td (.row ps))) none ps hφ th s hB
      rw [td_row] at hf
      simp [f_p_built, runG_eq, b_p_built, td_row, pos, hf]
    | pick ps =>
      rw [hi] at h
      obtain ⟨m', rfl⟩ : ∃ m', m = m' + 1 := ⟨m - 1, by omega⟩
      have hw2 := wf_pick hw
      have hφ : ∀ t ∈ ps, BuiltOk (f_p_built m') t := fun t ht => ih t (by have := hi_mem ht; omega) (hw2.2 t ht) m' (by omega)
      have := built_pick m' ps hφ hw2.1.1 hw2.1.2 th s hB
      simp [f_p_built, runG_eq, b_p_built, td_pick, pos, this]
    | maybe t g =>
      rw [hi] at h
      rw [bld] at hB ⊢
      have g1 := bld_grow t th (s ++ [none])
      have hl1 := g1.le
      rw [List.length_append, List.length_singleton] at hl1
      simp only [List.length_set] at hB
      have hq := ih t (by omega) (wf_maybe hw) m (by omega) th (s ++ [none]) (by simpa using hB)
      have a2 := app_L (s.map osd) (osd none) (by simp; omega) (free_osd none)
      have a3 : s.map osd ++ [osd none] = (s ++ [none]).map osd := by simp
      rw [a3] at a2
      have r1 := rz_L (s.map osd)
      generalize hC : bld t th (s ++ [none]) = C at *
      have hp := p_parted C.1 th g
      have hput := put_L (C.2.map osd) s.length (sd (prt g C.1 th)) (by rw [List.length_map]; omega) (free_sd _)
      have fr1 : freeL [D.int (C.1 : Int), D.int (th : Int), D.bl g] = true := rfl
      generalize hS : (s ++ [none]).map osd = S1 at *
      have e9 : osd none = .non := rfl
      rw [e9] at a2
      have hset : (C.2.set s.length (some (prt g C.1 th))).map osd = (C.2.map osd).set s.length (sd (prt g C.1 th)) := by rw [List.map_set]; rfl
      rw [hset]
      generalize sd (prt g C.1 th) = v at *
      simp [f_p_built, runG_eq, b_p_built, td_maybe, pos, r1, a0, a2, hq, hp, hput]
    | many t g =>
      rw [hi] at h
      rw [bld] at hB ⊢
      have g1 := bld_grow t s.length (s ++ [none])
      have hl1 := g1.le
      rw [List.length_append, List.length_singleton] at hl1
      simp only [List.length_set] at hB
      have hq := ih t (by omega) (wf_many hw).1 m (by omega) s.length (s ++ [none]) (by simpa using hB)
      have a2 := app_L (s.map osd) (osd none) (by simp; omega) (free_osd none)
      have a3 : s.map osd ++ [osd none] = (s ++ [none]).map osd := by simp
      rw [a3] at a2
      have r1 := rz_L (s.map osd)
      generalize hC : bld t s.length (s ++ [none]) = C at *
      have hp := p_parted C.1 th g
      have hput := put_L (C.2.map osd) s.length (sd (prt g C.1 th)) (by rw [List.length_map]; omega) (free_sd _)
      generalize hS : (s ++ [none]).map osd = S1 at *
      have e9 : osd none = .non := rfl
      rw [e9] at a2
      have hset : (C.2.set s.length (some (prt g C.1 th))).map osd = (C.2.map osd).set s.length (sd (prt g C.1 th)) := by rw [List.map_set]; rfl
      rw [hset]
      generalize sd (prt g C.1 th) = v at *
      simp [f_p_built, runG_eq, b_p_built, td_many, pos, r1, a0, a2, hq, hp, hput]
theorem fill_osd (s : List (Option St)) (h : Grow [some .fin] s) : s.map osd = (fill s).map sd := by
  unfold fill
  rw [List.map_map]
  apply List.map_congr_left
  intro o ho
  obtain ⟨i, hi, rfl⟩ := List.getElem_of_mem ho
  have e : s[i]? = some s[i] := List.getElem?_eq_getElem hi
  by_cases h0 : i = 0
  · have := h.old i (by simp; omega)
    rw [e] at this
    subst h0
    simp at this
    simp [this, osd]
  · obtain ⟨x, hx⟩ := h.new i (by simp; omega) hi
    rw [e] at hx
    simp at hx
    simp [hx, osd]
theorem freeL_sd : ∀ N : List St, freeL (N.map sd) = true
  | [] => rfl
  | x :: N => by rw [List.map_cons, freeL, free_sd, freeL_sd N]; rfl
/-- a net as it stands -/
def netD (n : Nat × List St) : D := .tup [.int (n.1 : Int), .lst (n.2.map sd)]
theorem net_of (t : Tr) (h : hi t ≤ 100) (hw : wf t = true) (hB : (netOf t).2.length ≤ 1000000) : f_p_net_of [td t] = .ok (netD (netOf t)) := by
  have hB' : (bld t 0 [some .fin]).2.length ≤ 1000000 := by unfold netOf fill at hB; simpa using hB
  have hq := built_all 100 t h hw 200 (by omega) 0 [some .fin] hB'
  have g := bld_grow t 0 [some .fin]
  have ef := fill_osd _ g
  have e0 : [some St.fin].map osd = [.tup [.str [101, 110, 100]]] := rfl
  rw [e0, ef] at hq
  have hfr := freeL_sd (netOf t).2
  unfold netOf at hfr ⊢
  simp only at hfr
  unfold netD
  simp only
  generalize bld t 0 [some .fin] = C at *
  have hq : f_p_built 200 [td t, .int 0, .own 0] [.L [.tup [.str [101, 110, 100]]]] = .ok (.int (C.1 : Int), [.L ((fill C.2).map sd)]) := hq
  simp [f_p_net_of, run_eq, b_p_net_of, hq]
end Mt
end
section
namespace Mt
open Mini Bd
theorem least (P : Nat → Prop) : (∃ n, P n) → ∃ n, P n ∧ ∀ m, m < n → ¬ P m := by
  rintro ⟨n, h⟩
  induction n using Nat.strongRecOn with
  | ind n ih =>
    by_cases hx : ∃ m, m < n ∧ P m
    · obtain ⟨m, h1, h2⟩ := hx
      exact ih m h1 h2
    · exact ⟨n, h, fun m hm hp => hx ⟨m, hm, hp⟩⟩
section
variable (N : List St) (w : List Nat)
/-- a place in the net from which every try ends -/
def Dv (v : Nat × Nat) : Prop := ∃ h xs, LN N w h v.1 v.2 xs
open Classical in
noncomputable def Lf (v : Nat × Nat) : List Nat := if h : Dv N w v then h.choose_spec.choose else []
open Classical in
noncomputable def rk (v : Nat × Nat) : Nat := if h : ∃ m, ∃ xs, LN N w m v.1 v.2 xs then (least (fun m => ∃ xs, LN N w m v.1 v.2 xs) h).choose else 0
variable {N w}
theorem Lf_eq {h s p : Nat} {xs : List Nat} (d : LN N w h s p xs) : Lf N w (s, p) = xs := by
  have hD : Dv N w (s, p) := ⟨h, xs, d⟩
  unfold Lf
  rw [dif_pos hD]
  exact LN.det hD.choose_spec.choose_spec d
theorem rk_spec {v : Nat × Nat} (h : Dv N w v) : (∃ xs, LN N w (rk N w v) v.1 v.2 xs) ∧ ∀ m xs, LN N w m v.1 v.2 xs → rk N w v ≤ m := by
  have hx : ∃ m, ∃ xs, LN N w m v.1 v.2 xs := h
  have e : rk N w v = (least (fun m => ∃ xs, LN N w m v.1 v.2 xs) hx).choose := by unfold rk; rw [dif_pos hx]
  have hs := (least (fun m => ∃ xs, LN N w m v.1 v.2 xs) hx).choose_spec
  rw [← e] at hs
  refine ⟨hs.1, fun m xs d => ?_⟩
  by_cases hm : m < rk N w v
  · exact absurd ⟨xs, d⟩ (hs.2 m hm)
  · omega
theorem Dv.fin {s p : Nat} (e : N[s]? = some .fin) : Lf N w (s, p) = [p] := Lf_eq (.fin (h := 0) e)
theorem Dv.part {s p a b : Nat} (h : Dv N w (s, p)) (e : N[s]? = some (.part a b)) : Dv N w (a, p) ∧ Dv N w (b, p) ∧ rk N w (a, p) < rk N w (s, p) ∧ rk N w (b, p) < rk N w (s, p) ∧ Lf N w (s, p) = Lf N w (a, p) ++ Lf N w (b, p) := by
  obtain ⟨⟨xs, d⟩, _⟩ := rk_spec h
  generalize hm : rk N w (s, p) = m at d
  have hL := Lf_eq d
  cases d with
  | fin f => rw [e] at f; cases f
  | go f => rw [e] at f; cases f
  | no f => rw [e] at f; cases f
  | part f d1 d2 =>
    rw [e] at f; cases f
    have h1 : Dv N w (a, p) := ⟨_, _, d1⟩
    have h2 : Dv N w (b, p) := ⟨_, _, d2⟩
    have := (rk_spec h1).2 _ _ d1
    have := (rk_spec h2).2 _ _ d2
    exact ⟨h1, h2, by omega, by omega, by rw [hL, Lf_eq d1, Lf_eq d2]⟩
theorem Dv.go {s p n c : Nat} {b : Bool} {z : List Nat} (h : Dv N w (s, p)) (e : N[s]? = some (.take b z n)) (hc : w[p]? = some c) (ht : takes b z c = true) : Dv N w (n, p + 1) ∧ rk N w (n, p + 1) < rk N w (s, p) ∧ Lf N w (s, p) = Lf N w (n, p + 1) := by
  obtain ⟨⟨xs, d⟩, _⟩ := rk_spec h
  generalize hm : rk N w (s, p) = m at d
  have hL := Lf_eq d
  cases d with
  | fin f => rw [e] at f; cases f
  | go f f2 f3 d1 =>
    rw [e] at f; cases f
    have h1 : Dv N w (n, p + 1) := ⟨_, _, d1⟩
    have := (rk_spec h1).2 _ _ d1
    exact ⟨h1, by omega, by rw [hL, Lf_eq d1]⟩
  | no f f2 => rw [e] at f; cases f; rw [f2 _ hc] at ht; cases ht
  | part f d1 d2 => rw [e] at f; cases f
theorem Dv.no {s p n : Nat} {b : Bool} {z : List Nat} (h : Dv N w (s, p)) (e : N[s]? = some (.take b z n)) (hc : ∀ c, w[p]? = some c → takes b z c = false) : Lf N w (s, p) = [] := Lf_eq (.no (h := 0) e hc)
theorem Dv.lt {s p : Nat} (h : Dv N w (s, p)) : s < N.length := by
  obtain ⟨m, xs, d⟩ := h
  cases d with
  | fin f => exact (List.getElem?_eq_some_iff.mp f).1
  | go f => exact (List.getElem?_eq_some_iff.mp f).1
  | no f => exact (List.getElem?_eq_some_iff.mp f).1
  | part f => exact (List.getElem?_eq_some_iff.mp f).1
variable (N w)
/-- what is known needs no second look -/
def Inv2 (K W : List (Nat × Nat)) : Prop := ∀ m ∈ K, ∃ A B, W = A ++ B ∧ (∀ a ∈ A, rk N w a < rk N w m) ∧ ((∀ a ∈ A, Lf N w a = []) → Lf N w m = [])
variable {N w}
theorem Inv2.skip {K W : List (Nat × Nat)} {v : Nat × Nat} (h : Inv2 N w K (v :: W)) (hv : v ∈ K) : Lf N w v = [] ∧ Inv2 N w K W := by
  have h0 : Lf N w v = [] := by
    obtain ⟨A, B, e, h1, h2⟩ := h v hv
    cases A with
    | nil => exact h2 (by simp)
    | cons a A =>
      simp only [List.cons_append, List.cons.injEq] at e
      obtain ⟨rfl, _⟩ := e
      have := h1 v List.mem_cons_self
      omega
  refine ⟨h0, fun m hm => ?_⟩
  obtain ⟨A, B, e, h1, h2⟩ := h m hm
  cases A with
  | nil => exact ⟨[], W, rfl, by simp, fun _ => h2 (by simp)⟩
  | cons a A =>
    simp only [List.cons_append, List.cons.injEq] at e
    obtain ⟨rfl, rfl⟩ := e
    refine ⟨A, B, rfl, fun a ha => h1 a (List.mem_cons_of_mem _ ha), fun hA => h2 fun a ha => ?_⟩
    rcases List.mem_cons.mp ha with rfl | ha
    · exact h0
    · exact hA a ha
theorem Inv2.push {K W : List (Nat × Nat)} {v : Nat × Nat} (ch : List (Nat × Nat)) (h : Inv2 N w K (v :: W)) (hr : ∀ a ∈ ch, rk N w a < rk N w v) (hL : (∀ a ∈ ch, Lf N w a = []) → Lf N w v = []) : Inv2 N w (K ++ [v]) (ch ++ W) := by
  intro m hm
  rcases List.mem_append.mp hm with hm | hm
  · obtain ⟨A, B, e, h1, h2⟩ := h m hm
    cases A with
    | nil => exact ⟨[], ch ++ W, rfl, by simp, fun _ => h2 (by simp)⟩
    | cons a A =>
      simp only [List.cons_append, List.cons.injEq] at e
      obtain ⟨rfl, rfl⟩ := e
      have hv := h1 v List.mem_cons_self
      refine ⟨ch ++ A, B, by simp, fun a ha => ?_, fun hA => h2 fun a ha => ?_⟩
      · rcases List.mem_append.mp ha with ha | ha
        · have := hr a ha; omega
        · exact h1 a (List.mem_cons_of_mem _ ha)
      · rcases List.mem_cons.mp ha with rfl | ha
        · exact hL fun b hb => hA b (List.mem_append_left _ hb)
        · exact hA a (List.mem_append_right _ ha)
  · rw [List.mem_singleton.mp hm]
    exact ⟨ch, W, rfl, hr, hL⟩
end
/-- the nodes -/
def nodes (n m : Nat) : List (Nat × Nat) := (List.range n).flatMap fun i => (List.range (m + 1)).map fun q => (i, q)
theorem mem_nodes {n m s p : Nat} (h1 : s < n) (h2 : p ≤ m) : (s, p) ∈ nodes n m := by
  unfold nodes
  exact List.mem_flatMap.mpr ⟨s, List.mem_range.mpr h1, List.mem_map.mpr ⟨p, List.mem_range.mpr (by omega), rfl⟩⟩
theorem nodes_len (n m : Nat) : (nodes n m).length = n * (m + 1) := by
  unfold nodes
  rw [List.length_flatMap]
  have : (List.range n).map (fun i => ((List.range (m + 1)).map fun q => (i, q)).length) = (List.range n).map fun _ => m + 1 := by
    apply List.map_congr_left; intro i _; simp
  rw [this]
  induction n with
  | zero => simp
  | succ n ih => rw [List.range_succ, List.map_append, List.sum_append, ih (by apply List.map_congr_left; intro i _; simp)]; simp [Nat.succ_mul]
def unk (V K : List (Nat × Nat)) : List (Nat × Nat) := V.filter fun v => decide (v ∉ K)
theorem unk_add (K : List (Nat × Nat)) (v : Nat × Nat) (hk : v ∉ K) : ∀ V : List (Nat × Nat), (unk V (K ++ [v])).length ≤ (unk V K).length ∧ (v ∈ V → (unk V (K ++ [v])).length + 1 ≤ (unk V K).length)
  | [] => by simp [unk]
  | u :: V => by
    obtain ⟨h1, h2⟩ := unk_add K v hk V
    unfold unk at *
    by_cases hu : u ∈ K
    · have e1 : ¬ (u ∉ K ++ [v]) := fun h => h (List.mem_append_left _ hu)
      simp only [List.filter_cons, decide_eq_true_eq, hu, not_true, if_false, e1, decide_false, Bool.false_eq_true]
      refine ⟨h1, fun hv => ?_⟩
      rcases List.mem_cons.mp hv with rfl | hv
      · exact absurd hu hk
      · exact h2 hv
    · by_cases hv : u = v
      · subst hv
        have e1 : ¬ (u ∉ K ++ [u]) := fun h => h (by simp)
        simp only [List.filter_cons, hu, not_false_eq_true, decide_true, if_true, e1, decide_false, Bool.false_eq_true, if_false, List.length_cons]
        exact ⟨by omega, fun _ => by omega⟩
      · have e1 : u ∉ K ++ [v] := by simp [hu, hv]
        simp only [List.filter_cons, hu, not_false_eq_true, decide_true, if_true, e1, List.length_cons]
        refine ⟨by omega, fun h => ?_⟩
        rcases List.mem_cons.mp h with rfl | h
        · exact absurd rfl hv
        · have := h2 h; omega
end Mt
end
section
namespace Mt
open Mini Bd
/-! once -/
def Dd : List Nat → List Nat → List Nat
  | _, [] => []
  | k, x :: xs => if x ∈ k then Dd k xs else x :: Dd (k ++ [x]) xs
def onc (xs : List Nat) : List Nat := Dd [] xs
theorem Dd_congr : ∀ (xs k k' : List Nat), (∀ x, x ∈ k ↔ x ∈ k') → Dd k xs = Dd k' xs
  | [], _, _, _ => rfl
  | x :: xs, k, k', h => by
    rw [Dd, Dd]
    by_cases hx : x ∈ k
    · rw [if_pos hx, if_pos ((h x).mp hx), Dd_congr xs k k' h]
    · rw [if_neg hx, if_neg fun h2 => hx ((h x).mpr h2), Dd_congr xs (k ++ [x]) (k' ++ [x]) fun y => by simp [h y]]
theorem Dd_mem : ∀ (xs k : List Nat) (y : Nat), y ∈ k ++ Dd k xs ↔ y ∈ k ++ xs
  | [], k, y => by simp [Dd]
  | x :: xs, k, y => by
    rw [Dd]
    by_cases hx : x ∈ k
    · rw [if_pos hx]
      have := Dd_mem xs k y
      simp only [List.mem_append, List.mem_cons] at this ⊢
      rw [this]
      constructor
      · rintro (h | h) <;> simp [h]
      · rintro (h | rfl | h)
        · exact .inl h
        · exact .inl hx
        · exact .inr h
    · rw [if_neg hx]
      have := Dd_mem xs (k ++ [x]) y
      simp only [List.mem_append, List.mem_cons, List.not_mem_nil, or_false] at this ⊢
      constructor
      · intro h
        have := this.mp (by rcases h with h | rfl | h <;> simp [*])
        rcases this with (h | rfl) | h <;> simp [*]
      · intro h
        have := this.mpr (by rcases h with h | rfl | h <;> simp [*])
        rcases this with (h | rfl) | h <;> simp [*]
theorem Dd_app : ∀ (xs ys k : List Nat), Dd k (xs ++ ys) = Dd k xs ++ Dd (k ++ xs) ys
  | [], ys, k => by simp [Dd]
  | x :: xs, ys, k => by
    rw [List.cons_append, Dd, Dd]
    by_cases hx : x ∈ k
    · rw [if_pos hx, if_pos hx, Dd_app xs ys k]
      congr 1
      exact Dd_congr _ _ _ fun y => by
        simp only [List.mem_append, List.mem_cons]
        constructor
        · rintro (h | h) <;> simp [h]
        · rintro (h | rfl | h)
          · exact .inl h
          · exact .inl hx
          · exact .inr h
    · rw [if_neg hx, if_neg hx, Dd_app xs ys (k ++ [x])]
      simp
theorem Dd_nil : ∀ (xs k : List Nat), (∀ x ∈ xs, x ∈ k) → Dd k xs = []
  | [], _, _ => rfl
  | x :: xs, k, h => by rw [Dd, if_pos (h x List.mem_cons_self), Dd_nil xs k fun y hy => h y (List.mem_cons_of_mem _ hy)]
theorem Dd_Dd : ∀ (xs j k : List Nat), Dd k (Dd j xs) = Dd (k ++ j) xs
  | [], _, _ => rfl
  | x :: xs, j, k => by
    rw [Dd, Dd]
    by_cases hj : x ∈ j
    · rw [if_pos hj, if_pos (List.mem_append_right _ hj), Dd_Dd xs j k]
    · rw [if_neg hj, Dd]
      by_cases hk : x ∈ k
      · rw [if_pos hk, if_pos (List.mem_append_left _ hk), Dd_Dd xs (j ++ [x]) k]
        exact Dd_congr _ _ _ fun y => by
          simp only [List.mem_append, List.mem_cons, List.not_mem_nil, or_false]
          constructor
          · rintro (h | h | rfl)
            · exact .inl h
            · exact .inr h
            · exact .inl hk
          · rintro (h | h) <;> simp [h]
      · rw [if_neg hk, if_neg (by simp [hj, hk]), Dd_Dd xs (j ++ [x]) (k ++ [x])]
        congr 1
        exact Dd_congr _ _ _ fun y => by
          simp only [List.mem_append, List.mem_cons, List.not_mem_nil, or_false]
          constructor
          · rintro ((h | h) | (h | h)) <;> simp [h]
          · rintro ((h | h) | h) <;> simp [h]
theorem Dd_onc (xs k : List Nat) : Dd k (onc xs) = Dd k xs := by
  unfold onc; rw [Dd_Dd, List.append_nil]
theorem mem_onc {xs : List Nat} {x : Nat} : x ∈ onc xs ↔ x ∈ xs := by
  have := Dd_mem xs [] x
  simpa [onc] using this
theorem Dd_flat1 (f : Nat → List Nat) : ∀ (xs k : List Nat), Dd k (xs.flatMap fun q => onc (f q)) = Dd k (xs.flatMap f)
  | [], k => rfl
  | x :: xs, k => by
    rw [List.flatMap_cons, List.flatMap_cons, Dd_app, Dd_app, Dd_onc, Dd_congr _ (k ++ onc (f x)) (k ++ f x) (fun y => by simp [mem_onc]), Dd_flat1 f xs]
theorem Dd_flat2 (f : Nat → List Nat) : ∀ (xs j k : List Nat), (∀ x ∈ j, ∀ y ∈ f x, y ∈ k) → Dd k ((Dd j xs).flatMap f) = Dd k (xs.flatMap f)
  | [], j, k, _ => rfl
  | x :: xs, j, k, h => by
    rw [Dd, List.flatMap_cons, Dd_app]
    by_cases hx : x ∈ j
    · rw [if_pos hx, Dd_nil (f x) k (h x hx), List.nil_append, Dd_flat2 f xs j k h]
      exact Dd_congr _ _ _ fun y => by
        simp only [List.mem_append]
        constructor
        · exact fun h => .inl h
        · rintro (h' | h')
          · exact h'
          · exact h x hx y h'
    · rw [if_neg hx, List.flatMap_cons, Dd_app]
      congr 1
      refine Dd_flat2 f xs (j ++ [x]) (k ++ f x) fun u hu y hy => ?_
      rcases List.mem_append.mp hu with hu | hu
      · exact List.mem_append_left _ (h u hu y hy)
      · rw [List.mem_singleton.mp hu] at hy; exact List.mem_append_right _ hy
/-- the ends behind the ends -/
theorem onc_flat (f : Nat → List Nat) (xs : List Nat) : onc ((onc xs).flatMap fun q => onc (f q)) = onc (xs.flatMap f) := by
  unfold onc
  have h1 := Dd_flat1 f (Dd [] xs) []
  unfold onc at h1
  rw [h1, Dd_flat2 f xs [] [] (by simp)]
theorem onc_app (xs ys : List Nat) : onc (onc xs ++ onc ys) = onc (xs ++ ys) := by
  unfold onc
  have h1 := Dd_onc xs []
  have h2 := Dd_onc ys
  unfold onc at h1 h2
  rw [Dd_app, Dd_app, h1, h2]
  congr 1
  exact Dd_congr _ _ _ fun y => by
    have := @mem_onc xs y
    unfold onc at this
    simp [this]
theorem onc_head (xs : List Nat) : (onc xs).head? = xs.head? := by
  cases xs with
  | nil => rfl
  | cons x xs => unfold onc; rw [Dd, if_neg (by simp)]; rfl
theorem onc_onc (xs : List Nat) : onc (onc xs) = onc xs := by
  have := Dd_onc xs []
  unfold onc at this ⊢
  exact this
theorem Dd_len : ∀ (xs k : List Nat), (Dd k xs).length ≤ xs.length
  | [], _ => Nat.le_refl _
  | x :: xs, k => by
    rw [Dd, List.length_cons]
    split
    · have := Dd_len xs k; omega
    · have := Dd_len xs (k ++ [x]); rw [List.length_cons]; omega
end Mt
end
section
namespace Mt
open Mini Bd
/-- places, as data -/
def iD (x : Nat) : D := .int (x : Int)
def il (xs : List Nat) : D := .lst (xs.map iD)
theorem freeL_iD : ∀ xs : List Nat, freeL (xs.map iD) = true
  | [] => rfl
  | x :: xs => by rw [List.map_cons, freeL, freeL_iD xs]; rfl
theorem flat_iD (xs : List Nat) : (xs.map iD).all flat = true := by
  rw [List.all_eq_true]; intro d hd; obtain ⟨x, _, rfl⟩ := List.mem_map.mp hd; rfl
theorem in_iD (s : Sto) (x : Nat) (xs : List Nat) : opInB s (.int (x : Int)) (.lst (xs.map iD)) = some (decide (x ∈ xs)) := by
  rw [opInB_lst s _ _ rfl (flat_iD xs)]
  congr 1
  unfold inD
  induction xs with
  | nil => rfl
  | cons y ys ih =>
    rw [List.map_cons, List.any_cons, ih]
    by_cases h : y = x
    · subst h; simp [iD, deq]
    · have h2 : ¬ ((y : Int) = (x : Int)) := by omega
      have h3 : ¬ x = y := fun h3 => h h3.symm
      simp [iD, deq, h2, h3]
theorem once_loop (a : Option D) : ∀ (xs k : List Nat) (x2 : Option D), k.length + xs.length ≤ 1000000 → ∃ x2', forF 2 c_l_once_1 (xs.map iD) [a, some (.own 0), x2] [.L (k.map iD)] = .ok (.nx [a, some (.own 0), x2'], [.L ((k ++ Dd k xs).map iD)])
  | [], k, x2, _ => ⟨x2, by simp [forF, Dd]⟩
  | x :: xs, k, x2, h => by
    rw [List.length_cons] at h
    have r := rz_L (k.map iD)
    have a0 := app_L0 (k.map iD)
    have a2 := app_L (k.map iD) (.int (x : Int)) (by simp; omega) rfl
    have hin := in_iD [Ob.L (k.map iD)] x k
    by_cases hx : x ∈ k
    · obtain ⟨x2', ih⟩ := once_loop a xs k (some (iD x)) (by omega)
      have hb : c_l_once_1 [a, some (.own 0), some (iD x)] [.L (k.map iD)] = .ok (.nx [a, some (.own 0), some (iD x)], [.L (k.map iD)]) := by
        simp [c_l_once_1, iD, r] at *
        simp [hin, hx]
      refine ⟨x2', ?_⟩
      rw [Dd, if_pos hx, List.map_cons, forF]
      simp only [List.set, hb, R.bind_ok, ih]
    · obtain ⟨x2', ih⟩ := once_loop a xs (k ++ [x]) (some (iD x)) (by simp; omega)
      have hb : c_l_once_1 [a, some (.own 0), some (iD x)] [.L (k.map iD)] = .ok (.nx [a, some (.own 0), some (iD x)], [.L ((k ++ [x]).map iD)]) := by
        simp only [List.map_append, List.map_cons, List.map_nil]
        have e : iD x = .int (x : Int) := rfl
        rw [e]
        generalize k.map iD = kd at *
        simp [c_l_once_1, r, hin, hx, a0, a2]
      refine ⟨x2', ?_⟩
      rw [Dd, if_neg hx, List.map_cons, forF]
      simp only [List.set, hb, R.bind_ok, ih]
      simp
theorem l_once (xs : List Nat) (h : xs.length ≤ 1000000) : f_l_once [il xs] = .ok (il (onc xs)) := by
  obtain ⟨x2', e⟩ := once_loop (some (il xs)) xs [] none (by simpa using h)
  have r := rz_L ((Dd [] xs).map iD)
  simp only [List.map_nil, List.nil_append] at e
  unfold il onc at *
  simp [f_l_once, run_eq, b_l_once, e]
/-- a table of places -/
def tb (m : Nat → List Nat) (n : Nat) : D := .lst ((List.range n).map fun k => il (m k))
theorem ix_tb (s : Sto) (m : Nat → List Nat) (n k : Nat) (h : k < n) : opIx s (tb m n) (.int (k : Int)) = some (il (m k)) := by
  unfold tb
  rw [opIx_lst]
  simp [pos_nat, h]
theorem behind_loop (a : Option D) (m : Nat → List Nat) (n : Nat) : ∀ (xs far : List Nat) (x3 : Option D), (∀ x ∈ xs, x < n) → far.length + (xs.flatMap m).length ≤ 1000000 → ∃ x3', forF 3 c_l_behind_1 (xs.map iD) [a, some (tb m n), some (il far), x3] [] = .ok (.nx [a, some (tb m n), some (il (far ++ xs.flatMap m)), x3'], [])
  | [], far, x3, _, _ => ⟨x3, by simp [forF]⟩
  | x :: xs, far, x3, hx, h => by
    rw [List.flatMap_cons, List.length_append] at h
    have hi := ix_tb [] m n x (hx x List.mem_cons_self)
    obtain ⟨x3', ih⟩ := behind_loop a m n xs (far ++ m x) (some (iD x)) (fun y hy => hx y (List.mem_cons_of_mem _ hy)) (by rw [List.length_append]; omega)
    have hb : c_l_behind_1 [a, some (tb m n), some (il far), some (iD x)] [] = .ok (.nx [a, some (tb m n), some (il (far ++ m x)), some (iD x)], []) := by
      have hz : rz [] (tb m n) = tb m n := rfl
      have e : iD x = .int (x : Int) := rfl
      rw [e]
      generalize tb m n = t at *
      simp [c_l_behind_1, hz, hi, il, show far.length + (m x).length ≤ 16777216 by omega]
    refine ⟨x3', ?_⟩
    rw [List.map_cons, forF]
    simp only [List.set, hb, R.bind_ok, ih]
    simp
theorem l_behind (xs : List Nat) (m : Nat → List Nat) (n : Nat) (hx : ∀ x ∈ xs, x < n) (h : (xs.flatMap m).length ≤ 1000000) : f_l_behind [il xs, tb m n] = .ok (il (onc (xs.flatMap m))) := by
  obtain ⟨x3', e⟩ := behind_loop (some (il xs)) m n xs [] none hx (by simpa using h)
  have ho := l_once (xs.flatMap m) h
  simp only [il, List.map_nil, List.nil_append] at e ho ⊢
  simp [f_l_behind, run_eq, b_l_behind, e, ho]
theorem Dd_bound (n : Nat) : ∀ (xs k : List Nat), (∀ x ∈ xs, x < n) → (Dd k xs).length ≤ ((List.range n).filter fun v => decide (v ∉ k)).length
  | [], _, _ => Nat.zero_le _
  | x :: xs, k, h => by
    rw [Dd]
    split
    · exact Dd_bound n xs k fun y hy => h y (List.mem_cons_of_mem _ hy)
    · rename_i hk
      have ih := Dd_bound n xs (k ++ [x]) fun y hy => h y (List.mem_cons_of_mem _ hy)
      have key : ∀ V : List Nat, (V.filter fun v => decide (v ∉ k ++ [x])).length ≤ (V.filter fun v => decide (v ∉ k)).length ∧ (x ∈ V → (V.filter fun v => decide (v ∉ k ++ [x])).length + 1 ≤ (V.filter fun v => decide (v ∉ k)).length) := by
        intro V
        induction V with
        | nil => simp
        | cons u V ihV =>
          obtain ⟨h1, h2⟩ := ihV
          by_cases hu : u ∈ k
          · have e1 : ¬ (u ∉ k ++ [x]) := fun h => h (List.mem_append_left _ hu)
            simp only [List.filter_cons, decide_eq_true_eq, hu, not_true, if_false, e1, decide_false, Bool.false_eq_true]
            refine ⟨h1, fun hv => ?_⟩
            rcases List.mem_cons.mp hv with rfl | hv
            · exact absurd hu hk
            · exact h2 hv
          · by_cases hv : u = x
            · subst hv
              have e1 : ¬ (u ∉ k ++ [u]) := fun h => h (by simp)
              simp only [List.filter_cons, hu, not_false_eq_true, decide_true, if_true, e1, decide_false, Bool.false_eq_true, if_false, List.length_cons]
              exact ⟨by omega, fun _ => by omega⟩
            · have e1 : u ∉ k ++ [x] := by simp [hu, hv]
              simp only [List.filter_cons, hu, not_false_eq_true, decide_true, if_true, e1, List.length_cons]
              refine ⟨by omega, fun h => ?_⟩
              rcases List.mem_cons.mp h with rfl | h
              · exact absurd rfl hv
              · have := h2 h; omega
      have := (key (List.range n)).2 (List.mem_range.mpr (h x List.mem_cons_self))
      rw [List.length_cons]; omega
theorem onc_len {n : Nat} {xs : List Nat} (h : ∀ x ∈ xs, x < n) : (onc xs).length ≤ n := by
  have := Dd_bound n xs [] h
  have e := List.length_filter_le (fun v => decide (v ∉ ([] : List Nat))) (List.range n)
  rw [List.length_range] at e
  unfold onc; omega
theorem flat_len {m : Nat → List Nat} {n : Nat} (h : ∀ x, (m x).length ≤ n) : ∀ xs : List Nat, (xs.flatMap m).length ≤ xs.length * n
  | [] => by simp
  | x :: xs => by
    have := flat_len h xs
    have := h x
    rw [List.flatMap_cons, List.length_append, List.length_cons, Nat.succ_mul]; omega
theorem l_taken (b : Bool) (z w : List Nat) (p : Nat) (hl : w.length ≤ 16777216) : f_l_taken [td (.take b z), .str w, .int (p : Int)] = .ok (il (LT w (.take b z) p)) := by
  rw [LT]
  by_cases hp : p < w.length
  · have hix := opIx_str_nat [] w p hp hl
    have hat : at0 w p = w[p] := by simp [at0, hp]
    rw [hat] at hix
    have e : w[p]? = some w[p] := List.getElem?_eq_getElem hp
    rw [e]
    by_cases ht : takes b z w[p] = true
    · have ht' : decide (w[p] ∈ z) = b := by simpa [takes] using ht
      simp [f_l_taken, run_eq, b_l_taken, td_take, pos, hl, hp, hix, ht, ht', il, iD]
    · have ht' : ¬ decide (w[p] ∈ z) = b := by simpa [takes] using ht
      simp [f_l_taken, run_eq, b_l_taken, td_take, pos, hl, hp, hix, ht, ht', il, iD]
  · have e : w[p]? = none := List.getElem?_eq_none (by omega)
    rw [e]
    simp [f_l_taken, run_eq, b_l_taken, td_take, hl, hp, il]
end Mt
end
section
namespace Mt
open Mini Bd
def tg : Tr → List Nat
  | .take _ _ => [116, 97, 107, 101]
  | .row _ => [114, 111, 119]
  | .pick _ => [112, 105, 99, 107]
  | .maybe _ _ => [109, 97, 121, 98, 101]
  | .many _ _ => [109, 97, 110, 121]
theorem rz_td (s : Sto) (t : Tr) : rz s (td t) = td t := by cases t <;> simp [td]
theorem ix_td0 (s : Sto) (t : Tr) : opIx s (td t) (.int 0) = some (.str (tg t)) := by cases t <;> simp [td, tg, pos]
theorem tb_congr {m m' : Nat → List Nat} {n : Nat} (h : ∀ k, k < n → m k = m' k) : tb m n = tb m' n := by
  unfold tb
  congr 1
  apply List.map_congr_left
  intro k hk
  rw [h k (List.mem_range.mp hk)]
def el (E : Nat → List Nat) (n j : Nat) : List D := (List.range j).map fun i => il (E (n - j + i))
theorem el_succ (E : Nat → List Nat) (n j : Nat) (h : j < n) : el E n (j + 1) = il (E (n - 1 - j)) :: el E n j := by
  unfold el
  rw [List.range_succ_eq_map, List.map_cons, List.map_map]
  congr 1
  · rw [show n - (j + 1) + 0 = n - 1 - j by omega]
  · apply List.map_congr_left
    intro i _
    show il (E (n - (j + 1) + (i + 1))) = _
    rw [show n - (j + 1) + (i + 1) = n - j + i by omega]
theorem el_tb (E : Nat → List Nat) (n j : Nat) (h : j < n) : .lst (List.replicate (n - 1 - j + 1) (.lst []) ++ el E n j) = tb (fun q => if q ≤ n - 1 - j then [] else E q) n := by
  unfold tb el
  congr 1
  have e : List.range n = List.range (n - 1 - j + 1) ++ (List.range j).map (n - 1 - j + 1 + ·) := by
    rw [← List.range_add]; congr 1; omega
  rw [e, List.map_append, List.map_map]
  congr 1
  · refine (List.eq_replicate_iff.mpr ?_).symm
    refine ⟨by simp, fun d hd => ?_⟩
    obtain ⟨k, hk, rfl⟩ := List.mem_map.mp hd
    have := List.mem_range.mp hk
    show il (if k ≤ n - 1 - j then [] else E k) = _
    rw [if_pos (by omega)]; rfl
  · apply List.map_congr_left
    intro i _
    show _ = il (if n - 1 - j + 1 + i ≤ n - 1 - j then [] else E (n - 1 - j + 1 + i))
    rw [if_neg (by omega), show n - j + i = n - 1 - j + 1 + i by omega]
theorem onc_one (x : Nat) : onc [x] = [x] := rfl
theorem onc_snoc (xs : List Nat) (p : Nat) : onc (onc xs ++ [p]) = onc (xs ++ [p]) := onc_app xs [p]
theorem onc_cons (xs : List Nat) (p : Nat) : onc (p :: onc xs) = onc (p :: xs) := onc_app [p] xs
theorem ix_tag_many (s : Sto) (t : Tr) : opIx s (td t) (.int 0) = some (.str (tg t)) := by cases t <;> simp [td, tg, pos]
theorem rz_tb (s : Sto) (m : Nat → List Nat) (n : Nat) : rz s (tb m n) = tb m n := rfl
theorem l_rep (w : List Nat) (t : Tr) (g mn : Bool) (u : Tr) (hu : u = if mn = true then Tr.many t g else .maybe t g) (hw : wf u = true) (hwl : w.length ≤ 100) :
    f_l_repeated [td u, tb (fun p => onc (LT w t p)) (w.length + 1)] = .ok (tb (fun p => onc (LT w u p)) (w.length + 1)) := by
  have hwt : wf t = true := by
    cases mn with
    | true => rw [hu] at hw; exact (wf_many hw).1
    | false => rw [hu] at hw; exact wf_maybe hw
  have hlt : ∀ v, wf v = true → ∀ p, p ≤ w.length → (onc (LT w v p)).length ≤ w.length + 1 := fun v hv p hp => onc_len fun x hx => by have := LT_le hv p x hp hx; omega
  generalize hE : (fun p => onc (LT w u p)) = E
  generalize hM : (fun p => onc (LT w t p)) = m
  have hl := forF_inv (i := 3) (b := c_l_repeated_1)
    (fun j e s => s = [] ∧ j ≤ w.length + 1 ∧ ∃ x3 x4 x5, e = [some (td u), some (tb m (w.length + 1)), some (.lst (el E (w.length + 1) j)), x3, x4, x5])
    (rng 0 (w.length + 1)) 0 [some (td u), some (tb m (w.length + 1)), some (.lst []), none, none, none] [] ⟨rfl, Nat.zero_le _, none, none, none, rfl⟩ (fun j e s d hi' hd => by
      obtain ⟨rfl, _, x3, x4, x5, rfl⟩ := hi'
      obtain ⟨hj, rfl⟩ := rng_at hd
      simp only [Nat.zero_add] at *
      have eat : ((w.length + 1 : Nat) : Int) - 1 - (j : Int) = ((w.length - j : Nat) : Int) := by omega
      have eat2 : (w.length : Int) + 1 - 1 - (j : Int) = ((w.length - j : Nat) : Int) := by omega
      have eat3 : (w.length : Int) - (j : Int) = ((w.length - j : Nat) : Int) := by omega
      have hix := ix_tb [] m (w.length + 1) (w.length - j) (by omega)
      have hlen : bLen (tb m (w.length + 1)) = some (.int ((w.length + 1 : Nat) : Int)) := by simp [tb]
      have hsucc := el_succ E (w.length + 1) j hj
      rw [show w.length + 1 - 1 - j = w.length - j by omega] at hsucc
      generalize hat : w.length - j = at' at *
      have hml : (m at').length ≤ w.length + 1 := by rw [← hM]; exact hlt t hwt at' (by omega)
      have hEl : (el E (w.length + 1) j).length = j := by simp [el]
      have hzm := rz_tb [] m (w.length + 1)
      have hzu := rz_td [] u
      have i2 : opIx [] (td u) (.int 2) = some (.bl g) := by rw [hu]; cases mn <;> simp [td_many, td_maybe, pos]
      have hLe : ∀ q ∈ m at', at' ≤ q ∧ q < w.length + 1 := fun q hq => by
        rw [← hM] at hq
        have hq := mem_onc.mp hq
        have h1 := (LT_ge_aux w _ t (Nat.le_refl _) hwt).1 at' q hq
        have h2 := LT_le hwt at' q (by omega) hq
        omega
      cases mn with
      | false =>
        have hu' : u = .maybe t g := hu
        have i0 : opIx [] (td u) (.int 0) = some (.str [109, 97, 121, 98, 101]) := by rw [hu', ix_td0]; rfl
        have hE' : E at' = onc (if g = true then m at' ++ [at'] else at' :: m at') := by
          rw [← hE, ← hM, hu']
          simp only [LT]
          cases g with
          | true => simp only [if_true]; rw [onc_snoc]
          | false => simp only [Bool.false_eq_true, if_false]; rw [onc_cons]
        have ho := l_once (if g = true then m at' ++ [at'] else at' :: m at') (by split <;> simp <;> omega)
        rw [← hE'] at ho
        generalize tb m (w.length + 1) = T at *
        generalize td u = U at *
        rw [hsucc]
        generalize el E (w.length + 1) j = EL at *
        refine ⟨_, _, .inl ?_, rfl, by omega, some (.int (j : Int)), some (.int (at' : Int)), some (il (if g = true then m at' ++ [at'] else at' :: m at')), rfl⟩
        cases g with
        | true =>
          simp only [if_true] at ho ⊢
          simp only [il, List.map_append, List.map_cons, List.map_nil, iD] at ho hix ⊢
          simp [c_l_repeated_1, hzm, hlen, eat2, eat3, hix, hzu, i0, i2, ho, -bLen, show (m at').length ≤ 16777215 by omega, show 1 + EL.length ≤ 16777216 by omega]
        | false =>
          simp only [Bool.false_eq_true, if_false] at ho ⊢
          simp only [il, List.map_append, List.map_cons, List.map_nil, iD] at ho hix ⊢
          simp [c_l_repeated_1, hzm, hlen, eat2, eat3, hix, hzu, i0, i2, ho, -bLen, show 1 + (m at').length ≤ 16777216 by omega, show 1 + EL.length ≤ 16777216 by omega]
      | true =>
        have hu' : u = .many t g := hu
        have i0 : opIx [] (td u) (.int 0) = some (.str [109, 97, 110, 121]) := by rw [hu', ix_td0]; rfl
        have hgt : ∀ q ∈ m at', at' < q := fun q hq => by
          rw [← hM] at hq
          rw [hu'] at hw
          exact LT_gt (wf_many hw).1 (wf_many hw).2 at' q (mem_onc.mp hq)
        have hm' : (m at').flatMap (fun q => if q ≤ at' then [] else E q) = (m at').flatMap E := by
          have : ∀ xs : List Nat, (∀ q ∈ xs, at' < q) → xs.flatMap (fun q => if q ≤ at' then [] else E q) = xs.flatMap E := by
            intro xs
            induction xs with
            | nil => intro _; rfl
            | cons x xs ih =>
              intro h
              have := h x List.mem_cons_self
              rw [List.flatMap_cons, List.flatMap_cons, ih fun q hq => h q (List.mem_cons_of_mem _ hq), if_neg (by omega)]
          exact this _ hgt
        have hEl2 : ∀ q, q ≤ w.length → (E q).length ≤ w.length + 1 := fun q hq => by rw [← hE]; exact hlt u hw q hq
        have hfl : ((m at').flatMap (fun q => if q ≤ at' then [] else E q)).length ≤ 1000000 := by
          rw [hm']
          have : ∀ xs : List Nat, (∀ q ∈ xs, q < w.length + 1) → (xs.flatMap E).length ≤ xs.length * (w.length + 1) := by
            intro xs
            induction xs with
            | nil => intro _; simp
            | cons x xs ih =>
              intro h
              have h1 := hEl2 x (by have := h x List.mem_cons_self; omega)
              have h2 := ih fun q hq => h q (List.mem_cons_of_mem _ hq)
              rw [List.flatMap_cons, List.length_append, List.length_cons, Nat.succ_mul]; omega
          have h1 := this (m at') fun q hq => (hLe q hq).2
          have h2 : (m at').length * (w.length + 1) ≤ 101 * 101 := Nat.mul_le_mul (by omega) (by omega)
          omega
        have hbeh := l_behind (m at') (fun q => if q ≤ at' then [] else E q) (w.length + 1) (fun q hq => (hLe q hq).2) hfl
        rw [hm'] at hbeh hfl
        have htb := el_tb E (w.length + 1) j hj
        rw [show w.length + 1 - 1 - j = at' by omega] at htb
        rw [← htb] at hbeh
        have hFl : (onc ((m at').flatMap E)).length ≤ w.length + 1 := onc_len fun x hx => by
          obtain ⟨q, hq, hx⟩ := List.mem_flatMap.mp hx
          rw [← hE] at hx
          have := LT_le hw q x (by have := (hLe q hq).2; omega) (mem_onc.mp hx)
          omega
        have hE' : E at' = onc (if g = true then onc ((m at').flatMap E) ++ [at'] else at' :: onc ((m at').flatMap E)) := by
          have e1 : onc ((m at').flatMap E) = onc ((LT w t at').flatMap (LT w u)) := by
            rw [← hE, ← hM]; exact onc_flat (LT w u) (LT w t at')
          rw [e1]
          rw [← hE]
          show onc (LT w u at') = _
          conv => lhs; rw [hu', LT_many w t g (hu' ▸ hw) at' (by omega), ← hu']
          cases g with
          | true => simp only [if_true]; rw [onc_snoc]
          | false => simp only [Bool.false_eq_true, if_false]; rw [onc_cons]
        generalize hF : onc ((m at').flatMap E) = F at *
        have ho := l_once (if g = true then F ++ [at'] else at' :: F) (by split <;> simp <;> omega)
        rw [← hE'] at ho
        generalize tb m (w.length + 1) = T at *
        generalize td u = U at *
        rw [hsucc]
        generalize el E (w.length + 1) j = EL at *
        refine ⟨_, _, .inl ?_, rfl, by omega, some (.int (j : Int)), some (.int (at' : Int)), some (il (if g = true then F ++ [at'] else at' :: F)), rfl⟩
        have hrep : ((List.replicate ((at' : Int) + 1).toNat [D.lst []]).flatten) = List.replicate (at' + 1) (.lst []) := by
          rw [show ((at' : Int) + 1).toNat = at' + 1 by omega]; simp
        have hmul : ∀ s, opMul s (.lst [.lst []]) (.int ((at' : Int) + 1)) = some (.lst (List.replicate (at' + 1) (.lst []))) := fun s => by
          simp only [opMul, hrep, List.length_cons, List.length_nil, line_eq]
          rw [if_pos (by omega)]
        cases g with
        | true =>
          simp only [if_true] at ho ⊢
          simp only [il, List.map_append, List.map_cons, List.map_nil, iD] at ho hix hbeh ⊢
          simp [c_l_repeated_1, hzm, hlen, eat2, eat3, hix, hzu, i0, i2, ho, -bLen, hmul, -opMul, hbeh, show at' + 1 + EL.length ≤ 16777216 by omega, show F.length ≤ 16777215 by omega, show 1 + EL.length ≤ 16777216 by omega]
        | false =>
          simp only [Bool.false_eq_true, if_false] at ho ⊢
          simp only [il, List.map_append, List.map_cons, List.map_nil, iD] at ho hix hbeh ⊢
          simp [c_l_repeated_1, hzm, hlen, eat2, eat3, hix, hzu, i0, i2, ho, -bLen, hmul, -opMul, hbeh, show at' + 1 + EL.length ≤ 16777216 by omega, show 1 + F.length ≤ 16777216 by omega, show 1 + EL.length ≤ 16777216 by omega])
  obtain ⟨e', s', hf, rfl, _, x3, x4, x5, rfl⟩ := hl
  rw [rng_len, Nat.zero_add] at hf
  have hlen : bLen (tb m (w.length + 1)) = some (.int ((w.length + 1 : Nat) : Int)) := by simp [tb]
  have hfin : .lst (el E (w.length + 1) (w.length + 1)) = tb E (w.length + 1) := by
    unfold el tb
    congr 1
    apply List.map_congr_left
    intro i _
    rw [show w.length + 1 - (w.length + 1) + i = i by omega]
  have hzm := rz_tb [] m (w.length + 1)
  rw [← hfin]
  generalize tb m (w.length + 1) = T at *
  have hk := kR1_nat (j := w.length + 1) (s := []) (by omega)
  simp only [Int.natCast_add, Int.cast_ofNat_Int] at hk
  simp [f_l_repeated, run_eq, b_l_repeated, hzm, hlen, -bLen, hk, hf]
end Mt
end
section
namespace Mt
open Mini Bd
theorem lc_tb {i : Nat} {m : M} {e : Env} (f : Nat → List Nat) (n : Nat) (h : ∀ k, k < n → m (e.set i (some (.int (k : Int)))) [] = .ok (il (f k), [])) : lcF i tYes m e (rng 0 n) [] = .ok ((List.range n).map fun k => il (f k), []) := by
  unfold rng
  refine lcF_idx _ _ _ fun k hk => ⟨?_, rfl⟩
  have := h k (List.mem_range.mp hk)
  simpa using this
theorem LT_lt {w : List Nat} {t : Tr} (hw : wf t = true) {p x : Nat} (hp : p ≤ w.length) (hx : x ∈ onc (LT w t p)) : x < w.length + 1 := by
  have := LT_le hw p x hp (mem_onc.mp hx); omega
theorem LR_snoc (w : List Nat) : ∀ (ps : List Tr) (t : Tr) (p : Nat), LR w (ps ++ [t]) p = (LR w ps p).flatMap (LT w t)
  | [], t, p => by
    rw [List.nil_append, LR, LR]
    have : ∀ xs : List Nat, xs.flatMap (LR w []) = xs := fun xs => by
      induction xs with
      | nil => rfl
      | cons x xs ih => rw [List.flatMap_cons, ih, LR]; rfl
    rw [this]; simp
  | q :: ps, t, p => by
    rw [List.cons_append, LR, LR, List.flatMap_assoc]
    congr 1
    funext r
    exact LR_snoc w ps t r
theorem LP_snoc (w : List Nat) : ∀ (ps : List Tr) (t : Tr) (p : Nat), LP' w (ps ++ [t]) p = LP' w ps p ++ LT w t p
  | [], t, p => by rw [List.nil_append, LP', LP']; simp [LP']
  | q :: ps, t, p => by rw [List.cons_append, LP', LP', LP_snoc w ps t p, List.append_assoc]
theorem l_ends_all (w : List Nat) (hwl : w.length ≤ 100) : ∀ (k : Nat) (t : Tr), hi t ≤ k → wf t = true → ∀ n, k ≤ n → f_l_ends n [td t, .str w] = .ok (tb (fun p => onc (LT w t p)) (w.length + 1)) := by
  intro k
  induction k with
  | zero => intro t h; cases t <;> rw [hi] at h <;> omega
  | succ k ih =>
    intro t h hw n hn
    obtain ⟨n, rfl⟩ : ∃ m, n = m + 1 := ⟨n - 1, by omega⟩
    have hk := kR1_nat (j := w.length + 1) (s := []) (by omega)
    simp only [Int.natCast_add, Int.cast_ofNat_Int] at hk
    have hrl : (rng 0 (w.length + 1)).length ≤ 16777216 := by rw [rng_len]; omega
    cases t with
    | take b z =>
      have hlc := lc_tb (i := 3) (m := mCall f_l_taken (aCons (mV 0) (aCons (mV 1) (aCons (mV 3) aNil)))) (e := [some (td (.take b z)), some (.str w), some (.int ((w.length : Int) + 1)), none, none, none, none]) (LT w (.take b z)) (w.length + 1) fun p hp => by
        have := l_taken b z w p (by omega)
        simp [this]
      have hone : tb (fun p => onc (LT w (.take b z) p)) (w.length + 1) = tb (LT w (.take b z)) (w.length + 1) := tb_congr fun p _ => by
        rw [LT]
        split
        · split <;> rfl
        · rfl
      rw [hone]
      have h0 := ix_td0 [] (.take b z)
      have hz := rz_td [] (.take b z)
      simp only [tg] at h0
      generalize td (.take b z) = U at *
      unfold tb
      simp [f_l_ends, run_eq, b_l_ends, show w.length ≤ 16777216 by omega, h0, hz, hk, hrl, hlc, rng_len, show w.length + 1 ≤ 16777216 by omega]
    | maybe t g =>
      rw [hi] at h
      have e := ih t (by omega) (wf_maybe hw) n (by omega)
      have hr := l_rep w t g false (.maybe t g) rfl hw hwl
      have h0 := ix_td0 [] (.maybe t g)
      have hz := rz_td [] (.maybe t g)
      have h1 : opIx [] (td (.maybe t g)) (.int 1) = some (td t) := by simp [td_maybe, pos]
      simp only [tg] at h0
      have hfz : frz 0 [] (tb (fun p => onc (LT w (.maybe t g) p)) (w.length + 1)) = some (tb (fun p => onc (LT w (.maybe t g) p)) (w.length + 1)) := by simp [tb]
      generalize td (.maybe t g) = U at *
      generalize tb (fun p => onc (LT w (.maybe t g) p)) (w.length + 1) = T at *
      generalize tb (fun p => onc (LT w t p)) (w.length + 1) = T1 at *
      simp [f_l_ends, run_eq, b_l_ends, show w.length ≤ 16777216 by omega, h0, h1, hz, e, hr, hfz]
    | many t g =>
      rw [hi] at h
      have e := ih t (by omega) (wf_many hw).1 n (by omega)
      have hr := l_rep w t g true (.many t g) rfl hw hwl
      have h0 := ix_td0 [] (.many t g)
      have hz := rz_td [] (.many t g)
      have h1 : opIx [] (td (.many t g)) (.int 1) = some (td t) := by simp [td_many, pos]
      simp only [tg] at h0
      have hfz : frz 0 [] (tb (fun p => onc (LT w (.many t g) p)) (w.length + 1)) = some (tb (fun p => onc (LT w (.many t g) p)) (w.length + 1)) := by simp [tb]
      generalize td (.many t g) = U at *
      generalize tb (fun p => onc (LT w (.many t g) p)) (w.length + 1) = T at *
      generalize tb (fun p => onc (LT w t p)) (w.length + 1) = T1 at *
      simp [f_l_ends, run_eq, b_l_ends, show w.length ≤ 16777216 by omega, h0, h1, hz, e, hr, hfz]
    | row ps =>
      rw [hi] at h
      have hw2 := wf_row hw
      have step : ∀ (j : Nat) (t : Tr), ps[j]? = some t → ∀ x2 x3 x5 x6 : Option D, x2 = some (.int ((w.length : Int) + 1)) →
          (sCons (sSet 6 (mCall (f_l_ends n) (aCons (mV 5) (aCons (mV 1) aNil)))) (sSet 4 (mLc 3 (iR1 (mV 2)) tYes (mCall f_l_behind (aCons (mOp opIx (mV 4) (mV 3)) (aCons (mV 6) aNil))))))
            [some (td (.row ps)), some (.str w), x2, x3, some (tb (fun p => onc (LR w (ps.take j) p)) (w.length + 1)), some (td t), x6] [] =
          .ok (.nx [some (td (.row ps)), some (.str w), x2, x3, some (tb (fun p => onc (LR w (ps.take (j + 1)) p)) (w.length + 1)), some (td t), some (tb (fun p => onc (LT w t p)) (w.length + 1))], []) := by
        rintro j t hj x2 x3 x5 x6 rfl
        have htm : t ∈ ps := List.mem_of_getElem? hj
        have hwt := hw2.2 t htm
        have e := ih t (by have := hi_mem htm; omega) hwt n (by omega)
        have hRle : ∀ p, p ≤ w.length → ∀ x ∈ LR w (ps.take j) p, x ≤ w.length := by
          have : ∀ qs : List Tr, (∀ q ∈ qs, wf q = true) → ∀ p, p ≤ w.length → ∀ x ∈ LR w qs p, x ≤ w.length := by
            intro qs
            induction qs with
            | nil => intro _ p hp x hx; rw [LR] at hx; rw [List.mem_singleton.mp hx]; exact hp
            | cons q qs ihq =>
              intro hq p hp x hx
              rw [LR] at hx
              obtain ⟨r, hr, hx⟩ := List.mem_flatMap.mp hx
              exact ihq (fun y hy => hq y (List.mem_cons_of_mem _ hy)) r (LT_le (hq q List.mem_cons_self) p r hp hr) x hx
          exact this _ fun q hq => hw2.2 q (List.mem_of_mem_take hq)
        have hlc := lc_tb (i := 3) (m := mCall f_l_behind (aCons (mOp opIx (mV 4) (mV 3)) (aCons (mV 6) aNil))) (e := [some (td (.row ps)), some (.str w), some (.int ((w.length : Int) + 1)), x3, some (tb (fun p => onc (LR w (ps.take j) p)) (w.length + 1)), some (td t), some (tb (fun p => onc (LT w t p)) (w.length + 1))]) (fun p => onc (LR w (ps.take (j + 1)) p)) (w.length + 1) fun p hp => by
          have hx : ∀ x ∈ onc (LR w (ps.take j) p), x < w.length + 1 := fun x hx => by have := hRle p (by omega) x (mem_onc.mp hx); omega
          have hb : ((onc (LR w (ps.take j) p)).flatMap fun q => onc (LT w t q)).length ≤ 1000000 := by
            have aux : ∀ xs : List Nat, (∀ x ∈ xs, x < w.length + 1) → (xs.flatMap fun q => onc (LT w t q)).length ≤ xs.length * (w.length + 1) := by
              intro xs
              induction xs with
              | nil => intro _; simp
              | cons x xs ihx =>
                intro h
                have h1 : (onc (LT w t x)).length ≤ w.length + 1 := onc_len fun y hy => LT_lt hwt (by have := h x List.mem_cons_self; omega) (mem_onc.mpr hy)
                have h2 := ihx fun q hq => h q (List.mem_cons_of_mem _ hq)
                rw [List.flatMap_cons, List.length_append, List.length_cons, Nat.succ_mul]; omega
            have h1 := aux _ hx
            have h2 := onc_len (n := w.length + 1) (xs := LR w (ps.take j) p) fun x hx2 => hx x (mem_onc.mpr hx2)
            have h3 : (onc (LR w (ps.take j) p)).length * (w.length + 1) ≤ 101 * 101 := Nat.mul_le_mul (by omega) (by omega)
            omega
          have hbe := l_behind _ (fun q => onc (LT w t q)) (w.length + 1) hx hb
          rw [onc_flat] at hbe
          have hts : ps.take (j + 1) = ps.take j ++ [t] := by rw [List.take_add_one, hj]; rfl
          rw [hts, LR_snoc]
          have hix := ix_tb [] (fun p => onc (LR w (ps.take j) p)) (w.length + 1) p hp
          have hz := rz_tb [] (fun p => onc (LR w (ps.take j) p)) (w.length + 1)
          generalize tb (fun p => onc (LR w (ps.take j) p)) (w.length + 1) = T1 at *
          generalize tb (fun p => onc (LT w t p)) (w.length + 1) = T2 at *
          simp [hz, hix, hbe]
        unfold tb at hlc ⊢
        unfold tb at e
        simp [e, hk, rng_len, show w.length + 1 ≤ 16777216 by omega, hlc]
      have hl := forF_inv (i := 5) (b := (sCons (sSet 6 (mCall (f_l_ends n) (aCons (mV 5) (aCons (mV 1) aNil)))) (sSet 4 (mLc 3 (iR1 (mV 2)) tYes (mCall f_l_behind (aCons (mOp opIx (mV 4) (mV 3)) (aCons (mV 6) aNil)))))))
        (fun j e s => s = [] ∧ j ≤ ps.length ∧ ∃ x5 x6, e = [some (td (.row ps)), some (.str w), some (.int ((w.length : Int) + 1)), none, some (tb (fun p => onc (LR w (ps.take j) p)) (w.length + 1)), x5, x6])
        (ps.map td) 0 [some (td (.row ps)), some (.str w), some (.int ((w.length : Int) + 1)), none, some (tb (fun p => onc (LR w [] p)) (w.length + 1)), none, none] [] ⟨rfl, Nat.zero_le _, none, none, by rw [List.take_zero]⟩ (fun j e s d hi' hd => by
          obtain ⟨rfl, _, x5, x6, rfl⟩ := hi'
          rw [Nat.zero_add] at *
          rw [List.getElem?_map] at hd
          obtain ⟨t, ht, rfl⟩ := Option.map_eq_some_iff.mp hd
          have hj := (List.getElem?_eq_some_iff.mp ht).1
          exact ⟨_, _, .inl (step j t ht _ none x5 x6 rfl), rfl, by omega, some (td t), _, rfl⟩)
      obtain ⟨e', s', hf, rfl, _, x5, x6, rfl⟩ := hl
      rw [Nat.zero_add, List.length_map, List.take_length] at hf
      have hlc0 := lc_tb (i := 3) (m := mLst (aCons (mV 3) aNil)) (e := [some (td (.row ps)), some (.str w), some (.int ((w.length : Int) + 1)), none, none, none, none]) (fun p => onc (LR w [] p)) (w.length + 1) fun p hp => by
        simp [LR, onc, Dd, il, iD]
      have h0 := ix_td0 [] (.row ps)
      have hz := rz_td [] (.row ps)
      have h1 : opIx [] (td (.row ps)) (.int 1) = some (.tup (ps.map td)) := by simp [td_row, pos]
      simp only [tg] at h0
      have eLT : LT w (.row ps) = LR w ps := by funext p; rw [LT]
      rw [eLT]
      generalize td (.row ps) = U at *
      unfold tb at hf ⊢
      simp [f_l_ends, run_eq, b_l_ends, show w.length ≤ 16777216 by omega, h0, h1, hz, hk, rng_len, show w.length + 1 ≤ 16777216 by omega, hlc0, hf]
    | pick ps =>
      rw [hi] at h
      have hw2 := wf_pick hw
      have hPle : ∀ qs : List Tr, (∀ q ∈ qs, wf q = true) → ∀ p, p ≤ w.length → ∀ x ∈ LP' w qs p, x ≤ w.length := by
        intro qs
        induction qs with
        | nil => intro _ p hp x hx; simp [LP'] at hx
        | cons q qs ihq =>
          intro hq p hp x hx
          rw [LP'] at hx
          rcases List.mem_append.mp hx with hx | hx
          · exact LT_le (hq q List.mem_cons_self) p x hp hx
          · exact ihq (fun y hy => hq y (List.mem_cons_of_mem _ hy)) p hp x hx
      have step : ∀ (j : Nat) (t : Tr), ps[j]? = some t → ∀ x2 x3 x5 x6 : Option D, x2 = some (.int ((w.length : Int) + 1)) →
          (sCons (sSet 6 (mCall (f_l_ends n) (aCons (mV 5) (aCons (mV 1) aNil)))) (sSet 4 (mLc 3 (iR1 (mV 2)) tYes (mCall f_l_once (aCons (mOp opAdd (mOp opIx (mV 4) (mV 3)) (mOp opIx (mV 6) (mV 3))) aNil)))))
            [some (td (.pick ps)), some (.str w), x2, x3, some (tb (fun p => onc (LP' w (ps.take j) p)) (w.length + 1)), some (td t), x6] [] =
          .ok (.nx [some (td (.pick ps)), some (.str w), x2, x3, some (tb (fun p => onc (LP' w (ps.take (j + 1)) p)) (w.length + 1)), some (td t), some (tb (fun p => onc (LT w t p)) (w.length + 1))], []) := by
        rintro j t hj x2 x3 x5 x6 rfl
        have htm : t ∈ ps := List.mem_of_getElem? hj
        have hwt := hw2.2 t htm
        have e := ih t (by have := hi_mem htm; omega) hwt n (by omega)
        have hlc := lc_tb (i := 3) (m := mCall f_l_once (aCons (mOp opAdd (mOp opIx (mV 4) (mV 3)) (mOp opIx (mV 6) (mV 3))) aNil)) (e := [some (td (.pick ps)), some (.str w), some (.int ((w.length : Int) + 1)), x3, some (tb (fun p => onc (LP' w (ps.take j) p)) (w.length + 1)), some (td t), some (tb (fun p => onc (LT w t p)) (w.length + 1))]) (fun p => onc (LP' w (ps.take (j + 1)) p)) (w.length + 1) fun p hp => by
          have h1 := onc_len (n := w.length + 1) (xs := LP' w (ps.take j) p) fun x hx => by have := hPle _ (fun q hq => hw2.2 q (List.mem_of_mem_take hq)) p (by omega) x hx; omega
          have h2 := onc_len (n := w.length + 1) (xs := LT w t p) fun x hx => by have := LT_le hwt p x (by omega) hx; omega
          have ho := l_once (onc (LP' w (ps.take j) p) ++ onc (LT w t p)) (by rw [List.length_append]; omega)
          rw [onc_app] at ho
          have hts : ps.take (j + 1) = ps.take j ++ [t] := by rw [List.take_add_one, hj]; rfl
          rw [hts, LP_snoc]
          have hix := ix_tb [] (fun p => onc (LP' w (ps.take j) p)) (w.length + 1) p hp
          have hz := rz_tb [] (fun p => onc (LP' w (ps.take j) p)) (w.length + 1)
          have hix2 := ix_tb [] (fun p => onc (LT w t p)) (w.length + 1) p hp
          have hz2 := rz_tb [] (fun p => onc (LT w t p)) (w.length + 1)
          generalize tb (fun p => onc (LP' w (ps.take j) p)) (w.length + 1) = T1 at *
          generalize tb (fun p => onc (LT w t p)) (w.length + 1) = T2 at *
          simp only [il, List.map_append] at ho hix hix2 ⊢
          simp [hz, hix, hz2, hix2, ho, show (onc (LP' w (ps.take j) p)).length + (onc (LT w t p)).length ≤ 16777216 by omega]
        unfold tb at hlc ⊢
        unfold tb at e
        simp [e, hk, rng_len, show w.length + 1 ≤ 16777216 by omega, hlc]
      have hl := forF_inv (i := 5) (b := (sCons (sSet 6 (mCall (f_l_ends n) (aCons (mV 5) (aCons (mV 1) aNil)))) (sSet 4 (mLc 3 (iR1 (mV 2)) tYes (mCall f_l_once (aCons (mOp opAdd (mOp opIx (mV 4) (mV 3)) (mOp opIx (mV 6) (mV 3))) aNil))))))
        (fun j e s => s = [] ∧ j ≤ ps.length ∧ ∃ x5 x6, e = [some (td (.pick ps)), some (.str w), some (.int ((w.length : Int) + 1)), none, some (tb (fun p => onc (LP' w (ps.take j) p)) (w.length + 1)), x5, x6])
        (ps.map td) 0 [some (td (.pick ps)), some (.str w), some (.int ((w.length : Int) + 1)), none, some (tb (fun p => onc (LP' w [] p)) (w.length + 1)), none, none] [] ⟨rfl, Nat.zero_le _, none, none, by rw [List.take_zero]⟩ (fun j e s d hi' hd => by
          obtain ⟨rfl, _, x5, x6, rfl⟩ := hi'
          rw [Nat.zero_add] at *
          rw [List.getElem?_map] at hd
          obtain ⟨t, ht, rfl⟩ := Option.map_eq_some_iff.mp hd
          have hj := (List.getElem?_eq_some_iff.mp ht).1
          exact ⟨_, _, .inl (step j t ht _ none x5 x6 rfl), rfl, by omega, some (td t), _, rfl⟩)
      obtain ⟨e', s', hf, rfl, _, x5, x6, rfl⟩ := hl
      rw [Nat.zero_add, List.length_map, List.take_length] at hf
      have hlc0 := lc_tb (i := 3) (m := mLst aNil) (e := [some (td (.pick ps)), some (.str w), some (.int ((w.length : Int) + 1)), none, none, none, none]) (fun p => onc (LP' w [] p)) (w.length + 1) fun p hp => by
        simp [LP', onc, Dd, il]
      have h0 := ix_td0 [] (.pick ps)
      have hz := rz_td [] (.pick ps)
      have h1 : opIx [] (td (.pick ps)) (.int 1) = some (.tup (ps.map td)) := by simp [td_pick, pos]
      simp only [tg] at h0
      have eLT : LT w (.pick ps) = LP' w ps := by funext p; rw [LT]
      rw [eLT]
      generalize td (.pick ps) = U at *
      unfold tb at hf ⊢
      simp [f_l_ends, run_eq, b_l_ends, show w.length ≤ 16777216 by omega, h0, h1, hz, hk, rng_len, show w.length + 1 ≤ 16777216 by omega, hlc0, hf]
end Mt
end
section
namespace Mt
open Mini Bd
theorem text_loop (x0 : Option D) (z : List Nat) (hz : isThree z) : ∀ (cs : List Int) (w : List Nat) (x3 x4 : Option D), w.length + cs.length ≤ 10000 → (∀ c ∈ w, c ∈ tbl) → ∃ w' x3' x4', forF 3 c_l_text_by_1 (cs.map .int) [x0, some (.str z), some (.str w), x3, x4] [] = .ok (.nx [x0, some (.str z), some (.str w'), x3', x4'], []) ∧ w'.length = w.length + cs.length ∧ ∀ c ∈ w', c ∈ tbl
  | [], w, x3, x4, _, hw => ⟨w, x3, x4, by simp [forF], by simp, hw⟩
  | c :: cs, w, x3, x4, hl, hw => by
    rw [List.length_cons] at hl
    have e1 := opIx_str [] z (c % 3) (by omega) (by have := hz.1; omega) (by have := hz.1; show _ ≤ 16777216; omega)
    have m1 : at0 z (c % 3).toNat ∈ tbl := hz.2 _ (at0_mem (by have := hz.1; omega))
    have key : ∃ g, g ∈ tbl ∧ c_l_text_by_1 [x0, some (.str z), some (.str w), some (.int c), x4] [] = .ok (.nx [x0, some (.str z), some (.str (w ++ [g])), some (.int c), some (.str [g])], []) := by
      by_cases h : c % 11 = 10
      · exact ⟨sg (c / 11), sg_mem _, by simp [c_l_text_by_1, e1, h, sign_by, show w.length + 1 ≤ 16777216 by omega]⟩
      · exact ⟨_, m1, by simp [c_l_text_by_1, e1, h, show w.length + 1 ≤ 16777216 by omega]⟩
    obtain ⟨g, hg, hb⟩ := key
    obtain ⟨w', x3', x4', h1, h2, h3⟩ := text_loop x0 z hz cs (w ++ [g]) (some (.int c)) (some (.str [g])) (by simp; omega) (by
      intro d hd
      rcases List.mem_append.mp hd with hd | hd
      · exact hw d hd
      · rw [List.mem_singleton.mp hd]; exact hg)
    refine ⟨w', x3', x4', ?_, by rw [h2]; simp; omega, h3⟩
    rw [List.map_cons, forF]
    simp only [List.set, hb, R.bind_ok, h1]
theorem text_by (cs : List Int) (z : List Nat) (hz : isThree z) (hl : cs.length ≤ 1000) : ∃ w, f_l_text_by [.lst (cs.map .int), .str z] = .ok (.str w) ∧ w.length = cs.length ∧ ∀ c ∈ w, c ∈ tbl := by
  obtain ⟨w, x3, x4, h1, h2, h3⟩ := text_loop (some (.lst (cs.map .int))) z hz cs [] none none (by simp; omega) (by simp)
  exact ⟨w, by simp [f_l_text_by, run_eq, b_l_text_by, h1], by simpa using h2, h3⟩
end Mt
end
section
namespace Mt
open Mini Bd
/-- all targets lie below m -/
def Cl (m : Nat) : St → Prop
  | .fin => True
  | .take _ _ n => n < m
  | .part a b => a < m ∧ b < m
theorem Cl.mono {m m' : Nat} (h : m ≤ m') : ∀ {x : St}, Cl m x → Cl m' x
  | .fin, _ => trivial
  | .take _ _ n, c => by unfold Cl at c ⊢; omega
  | .part a b, c => by unfold Cl at c ⊢; omega
theorem Cl.prt {m a b : Nat} (g : Bool) (h1 : a < m) (h2 : b < m) : Cl m (prt g a b) := by
  cases g
  · exact ⟨h2, h1⟩
  · exact ⟨h1, h2⟩
/-- what is new from lo on has its targets within -/
def ClS (lo : Nat) (s : List (Option St)) : Prop := ∀ i x, lo ≤ i → s[i]? = some (some x) → Cl s.length x
theorem ClS.trans {a : Nat} {b c : List (Option St)} (h1 : ClS a b) (g : Grow b c) (h2 : ClS b.length c) : ClS a c := fun i x hi he => by
  by_cases hb : i < b.length
  · rw [g.old i hb] at he
    exact (h1 i x hi he).mono g.le
  · exact h2 i x (by omega) he
theorem ClS.add (s : List (Option St)) (x : St) (h : Cl (s.length + 1) x) : ClS s.length (s ++ [some x]) := fun i y hi he => by
  have hl := (List.getElem?_eq_some_iff.mp he).1
  rw [List.length_append, List.length_singleton] at hl ⊢
  have : i = s.length := by omega
  subst this
  simp at he
  rw [← he]; exact h
theorem chain_closed : ∀ (es : List Nat) (s : List (Option St)), es ≠ [] → (∀ e ∈ es, e < s.length) → (chain es s).1 < (chain es s).2.length ∧ ClS s.length (chain es s).2
  | [], s, h, _ => absurd rfl h
  | [e], s, _, h => ⟨h e List.mem_cons_self, fun i x hi he => by have := (List.getElem?_eq_some_iff.mp he).1; simp only [chain] at this; omega⟩
  | e :: f :: es, s, _, h => by
    obtain ⟨h1, h2⟩ := chain_closed (f :: es) s (by simp) fun x hx => h x (List.mem_cons_of_mem _ hx)
    have g := chain_grow (f :: es) s
    have he := h e List.mem_cons_self
    rw [chain]
    refine ⟨by simp, h2.trans (Grow.add _ _) (ClS.add _ _ ⟨?_, ?_⟩)⟩
    · have := g.le; omega
    · omega
theorem hole_closed {s s1 : List (Option St)} {x : St} (g : Grow (s ++ [none]) s1) (h : ClS (s.length + 1) s1) (hx : Cl s1.length x) : ClS s.length (s1.set s.length (some x)) := fun i y hi he => by
  rw [List.length_set]
  by_cases h3 : i = s.length
  · subst h3
    have hl := g.le
    rw [List.length_append, List.length_singleton] at hl
    rw [List.getElem?_set_self (by omega)] at he
    cases he
    exact hx
  · rw [List.getElem?_set_ne (by omega)] at he
    exact h i y (by omega) he
theorem bld_closed_aux : ∀ n t, hi t ≤ n → wf t = true → ∀ th s, th < s.length → (bld t th s).1 < (bld t th s).2.length ∧ ClS s.length (bld t th s).2 := by
  intro n
  induction n with
  | zero => intro t h; cases t <;> rw [hi] at h <;> omega
  | succ n ih =>
    have row : ∀ ps : List Tr, hiL ps ≤ n → (∀ t ∈ ps, wf t = true) → ∀ th s, th < s.length → (bldR ps th s).1 < (bldR ps th s).2.length ∧ ClS s.length (bldR ps th s).2 := by
      intro ps
      induction ps with
      | nil => intro _ _ th s h; rw [bldR]; exact ⟨h, fun i x hi he => by have := (List.getElem?_eq_some_iff.mp he).1; simp only at this; omega⟩
      | cons t ts ih2 =>
        intro h hw th s hth
        rw [hiL] at h
        rw [bldR]
        obtain ⟨h1, h2⟩ := ih2 (by omega) (fun x hx => hw x (List.mem_cons_of_mem _ hx)) th s hth
        obtain ⟨h3, h4⟩ := ih t (by omega) (hw t List.mem_cons_self) _ _ h1
        exact ⟨h3, h2.trans (bld_grow _ _ _) h4⟩
    have pick : ∀ ps : List Tr, hiL ps ≤ n → (∀ t ∈ ps, wf t = true) → ∀ th s, th < s.length → (∀ e ∈ (bldP ps th s).1, e < (bldP ps th s).2.length) ∧ ClS s.length (bldP ps th s).2 := by
      intro ps
      induction ps with
      | nil => intro _ _ th s h; rw [bldP]; exact ⟨by simp, fun i x hi he => by have := (List.getElem?_eq_some_iff.mp he).1; simp only at this; omega⟩
      | cons t ts ih2 =>
        intro h hw th s hth
        rw [hiL] at h
        rw [bldP]
        obtain ⟨h3, h4⟩ := ih t (by omega) (hw t List.mem_cons_self) th s hth
        have g1 := bld_grow t th s
        obtain ⟨h1, h2⟩ := ih2 (by omega) (fun x hx => hw x (List.mem_cons_of_mem _ hx)) th (bld t th s).2 (by have := g1.le; omega)
        have g2 := bldP_grow ts th (bld t th s).2
        refine ⟨fun e he => ?_, h4.trans g2 h2⟩
        rcases List.mem_cons.mp he with rfl | he
        · have := g2.le; simp only; omega
        · exact h1 e he
    intro t h hw th s hth
    cases t with
    | take b z => rw [bld]; exact ⟨by simp, ClS.add _ _ (by unfold Cl; omega)⟩
    | row ps => rw [hi] at h; rw [bld]; exact row ps (by omega) (wf_row hw).2 th s hth
    | pick ps =>
      rw [hi] at h
      rw [bld]
      obtain ⟨h1, h2⟩ := pick ps (by omega) (wf_pick hw).2 th s hth
      have hne : (bldP ps th s).1 ≠ [] := by
        have h2 := (wf_pick hw).1.1
        cases ps with
        | nil => simp at h2
        | cons _ _ => rw [bldP]; simp
      obtain ⟨h3, h4⟩ := chain_closed _ _ hne h1
      exact ⟨h3, h2.trans (chain_grow _ _) h4⟩
    | maybe t g =>
      rw [hi] at h
      rw [bld]
      have g1 := bld_grow t th (s ++ [none])
      have hl := g1.le
      rw [List.length_append, List.length_singleton] at hl
      obtain ⟨h1, h2⟩ := ih t (by omega) (wf_maybe hw) th (s ++ [none]) (by simp; omega)
      rw [List.length_append, List.length_singleton] at h2
      exact ⟨by simp only [List.length_set]; omega, hole_closed g1 h2 (Cl.prt g h1 (by omega))⟩
    | many t g =>
      rw [hi] at h
      rw [bld]
      have g1 := bld_grow t s.length (s ++ [none])
      have hl := g1.le
      rw [List.length_append, List.length_singleton] at hl
      obtain ⟨h1, h2⟩ := ih t (by omega) (wf_many hw).1 s.length (s ++ [none]) (by simp)
      rw [List.length_append, List.length_singleton] at h2
      exact ⟨by simp only [List.length_set]; omega, hole_closed g1 h2 (Cl.prt g h1 (by omega))⟩
theorem net_closed {t : Tr} (hw : wf t = true) : (netOf t).1 < (netOf t).2.length ∧ ∀ x ∈ (netOf t).2, Cl (netOf t).2.length x := by
  obtain ⟨h1, h2⟩ := bld_closed_aux _ t (Nat.le_refl _) hw 0 [some .fin] (by simp)
  have g := bld_grow t 0 [some .fin]
  unfold netOf fill
  simp only [List.length_map]
  refine ⟨h1, fun x hx => ?_⟩
  obtain ⟨o, ho, rfl⟩ := List.mem_map.mp hx
  obtain ⟨i, hi, rfl⟩ := List.getElem_of_mem ho
  by_cases h0 : i = 0
  · have := g.old i (by simp; omega)
    rw [List.getElem?_eq_getElem hi] at this
    subst h0
    simp at this
    rw [this]; exact trivial
  · obtain ⟨y, hy⟩ := g.new i (by simp; omega) hi
    have := h2 i y (by simp; omega) hy
    rw [List.getElem?_eq_getElem hi] at hy
    simp at hy
    rw [hy]; exact this
end Mt
end
section
namespace Mt
open Mini Bd
def ren (L : Nat) : St → St
  | .fin => .fin
  | .take b z n => .take b z (L - n)
  | .part a b => .part (L - a) (L - b)
def turn (N : List St) : List St := (N.map (ren (N.length - 1))).reverse
theorem turn_at (N : List St) (s : Nat) (x : St) (h : N[s]? = some x) : (turn N)[N.length - 1 - s]? = some (ren (N.length - 1) x) := by
  have hs := (List.getElem?_eq_some_iff.mp h).1
  unfold turn
  rw [List.getElem?_reverse (by rw [List.length_map]; omega), List.length_map, List.getElem?_map]
  rw [show N.length - 1 - (N.length - 1 - s) = s by omega, h]
  rfl
theorem LN_turn {N : List St} {w : List Nat} {h s p : Nat} {xs : List Nat} (d : LN N w h s p xs) : LN (turn N) w h (N.length - 1 - s) p xs := by
  induction d with
  | fin e => exact .fin (turn_at N _ _ e)
  | go e1 e2 e3 _ ih => exact .go (turn_at N _ _ e1) e2 e3 ih
  | no e1 e2 => exact .no (turn_at N _ _ e1) e2
  | part e1 _ _ ih1 ih2 => exact .part (turn_at N _ _ e1) ih1 ih2
end Mt
end
section
namespace Mt
open Mini Bd
theorem chain_len : ∀ (es : List Nat) (s : List (Option St)), (chain es s).2.length = s.length + (es.length - 1)
  | [], s => by simp [chain]
  | [e], s => by simp [chain]
  | e :: f :: es, s => by
    have := chain_len (f :: es) s
    rw [chain, List.length_append, this]
    simp
    omega
theorem bldP_es : ∀ (qs : List Tr) (th : Nat) (s : List (Option St)), (bldP qs th s).1.length = qs.length
  | [], th, s => by rw [bldP]; rfl
  | q :: qs, th, s => by rw [bldP, List.length_cons, List.length_cons, bldP_es qs]
mutual
theorem bld_len : ∀ (t : Tr), wf t = true → ∀ (th : Nat) (s : List (Option St)), ((bld t th s).2.length : Int) = s.length + sz t
  | .take b z, _, th, s => by rw [bld, sz]; simp
  | .row ps, h, th, s => by rw [bld, sz]; exact bldR_len ps (by rw [wf, Bool.and_eq_true] at h; exact h.2) th s
  | .pick ps, h, th, s => by
    rw [wf, Bool.and_eq_true, decide_eq_true_eq] at h
    have h1 := bldP_len ps h.2 th s
    have h2 := chain_len (bldP ps th s).1 (bldP ps th s).2
    have h3 := bldP_es ps th s
    rw [bld, sz]
    omega
  | .maybe t g, h, th, s => by
    have h1 := bld_len t (wf_maybe h) th (s ++ [none])
    rw [bld, sz]
    simp at h1 ⊢
    omega
  | .many t g, h, th, s => by
    have h1 := bld_len t (wf_many h).1 s.length (s ++ [none])
    rw [bld, sz]
    simp at h1 ⊢
    omega
theorem bldR_len : ∀ (ts : List Tr), wfL ts = true → ∀ (th : Nat) (s : List (Option St)), ((bldR ts th s).2.length : Int) = s.length + szL ts
  | [], _, th, s => by rw [bldR, szL]; simp
  | t :: ts, h, th, s => by
    rw [wfL, Bool.and_eq_true] at h
    have h1 := bldR_len ts h.2 th s
    have h2 := bld_len t h.1 (bldR ts th s).1 (bldR ts th s).2
    rw [bldR, szL]
    omega
theorem bldP_len : ∀ (ts : List Tr), wfL ts = true → ∀ (th : Nat) (s : List (Option St)), ((bldP ts th s).2.length : Int) = s.length + szL ts
  | [], _, th, s => by rw [bldP, szL]; simp
  | t :: ts, h, th, s => by
    rw [wfL, Bool.and_eq_true] at h
    have h1 := bld_len t h.1 th s
    have h2 := bldP_len ts h.2 th (bld t th s).2
    rw [bldP, szL]
    simp only
    omega
end
theorem net_len {t : Tr} (h : wf t = true) : ((netOf t).2.length : Int) = 1 + sz t := by
  have := bld_len t h 0 [some .fin]
  unfold netOf fill
  simpa using this
/-- the signs of a step are such as there are -/
def Zt : St → Prop
  | .take _ z _ => z.length ≤ 100 ∧ ∀ c ∈ z, c ∈ tbl
  | _ => True
def ZS (s : List (Option St)) : Prop := ∀ x, some x ∈ s → Zt x
theorem ZS.add {s : List (Option St)} {x : St} (h : ZS s) (hx : Zt x) : ZS (s ++ [some x]) := fun y hy => by
  rcases List.mem_append.mp hy with hy | hy
  · exact h y hy
  · simp at hy; rw [hy]; exact hx
theorem ZS.hole {s : List (Option St)} (h : ZS s) : ZS (s ++ [none]) := fun y hy => by
  rcases List.mem_append.mp hy with hy | hy
  · exact h y hy
  · simp at hy
theorem ZS.set {s : List (Option St)} {x : St} (h : ZS s) (hx : Zt x) (i : Nat) : ZS (s.set i (some x)) := fun y hy => by
  rcases List.mem_or_eq_of_mem_set hy with hy | hy
  · exact h y hy
  · simp at hy; rw [hy]; exact hx
theorem Zt.prt (g : Bool) (a b : Nat) : Zt (prt g a b) := by cases g <;> trivial
theorem chain_z : ∀ (es : List Nat) (s : List (Option St)), ZS s → ZS (chain es s).2
  | [], s, h => h
  | [e], s, h => h
  | e :: f :: es, s, h => by rw [chain]; exact (chain_z (f :: es) s h).add trivial
mutual
theorem bld_z : ∀ (t : Tr), wf t = true → ∀ (th : Nat) (s : List (Option St)), ZS s → ZS (bld t th s).2
  | .take b z, h, th, s, hs => by rw [bld]; exact hs.add (wf_take h)
  | .row ps, h, th, s, hs => by rw [bld]; exact bldR_z ps (by rw [wf, Bool.and_eq_true] at h; exact h.2) th s hs
  | .pick ps, h, th, s, hs => by rw [bld]; exact chain_z _ _ (bldP_z ps (by rw [wf, Bool.and_eq_true] at h; exact h.2) th s hs)
  | .maybe t g, h, th, s, hs => by rw [bld]; exact (bld_z t (wf_maybe h) th _ hs.hole).set (Zt.prt _ _ _) _
  | .many t g, h, th, s, hs => by rw [bld]; exact (bld_z t (wf_many h).1 _ _ hs.hole).set (Zt.prt _ _ _) _
theorem bldR_z : ∀ (ts : List Tr), wfL ts = true → ∀ (th : Nat) (s : List (Option St)), ZS s → ZS (bldR ts th s).2
  | [], _, th, s, hs => by rw [bldR]; exact hs
  | t :: ts, h, th, s, hs => by
    rw [wfL, Bool.and_eq_true] at h
    rw [bldR]; exact bld_z t h.1 _ _ (bldR_z ts h.2 th s hs)
theorem bldP_z : ∀ (ts : List Tr), wfL ts = true → ∀ (th : Nat) (s : List (Option St)), ZS s → ZS (bldP ts th s).2
  | [], _, th, s, hs => by rw [bldP]; exact hs
  | t :: ts, h, th, s, hs => by
    rw [wfL, Bool.and_eq_true] at h
    rw [bldP]; exact bldP_z ts h.2 _ _ (bld_z t h.1 th s hs)
end
theorem net_z {t : Tr} (h : wf t = true) : ∀ x ∈ (netOf t).2, Zt x := fun x hx => by
  have := bld_z t h 0 [some .fin] (fun y hy => by simp at hy; rw [hy]; trivial)
  unfold netOf fill at hx
  obtain ⟨o, ho, rfl⟩ := List.mem_map.mp hx
  cases o with
  | none => trivial
  | some y => exact this y ho
/-- a net that takes what a tree takes, from every place -/
structure NetFor (w : List Nat) (t : Tr) (n0 : Nat) (N : List St) : Prop where
  dv : ∀ p, p ≤ w.length → Dv N w (n0, p)
  lf : ∀ p, p ≤ w.length → Lf N w (n0, p) = LT w t p
  len : (N.length : Int) = 1 + sz t
  lt : n0 < N.length
  cl : ∀ x ∈ N, Cl N.length x
  zt : ∀ x ∈ N, Zt x
theorem net_for {t : Tr} (hw : wf t = true) (w : List Nat) : NetFor w t (netOf t).1 (netOf t).2 := by
  obtain ⟨h1, h2⟩ := net_closed hw
  refine ⟨fun p hp => ?_, fun p hp => ?_, net_len hw, h1, h2, net_z hw⟩
  · obtain ⟨m, hm⟩ := net_LN (w := w) hw p hp
    exact ⟨m, _, hm⟩
  · obtain ⟨m, hm⟩ := net_LN (w := w) hw p hp
    exact Lf_eq hm
theorem turn_len (N : List St) : (turn N).length = N.length := by unfold turn; simp
theorem turn_cl {N : List St} (hc : ∀ x ∈ N, Cl N.length x) (h0 : 0 < N.length) : ∀ x ∈ turn N, Cl (turn N).length x := by
  intro x hx
  rw [turn_len]
  unfold turn at hx
  rw [List.mem_reverse] at hx
  obtain ⟨y, hy, rfl⟩ := List.mem_map.mp hx
  have := hc y hy
  cases y with
  | fin => trivial
  | take b z n => unfold Cl ren at *; omega
  | part a b => unfold Cl ren at *; omega
theorem turn_zt {N : List St} (hc : ∀ x ∈ N, Zt x) : ∀ x ∈ turn N, Zt x := by
  intro x hx
  unfold turn at hx
  rw [List.mem_reverse] at hx
  obtain ⟨y, hy, rfl⟩ := List.mem_map.mp hx
  have := hc y hy
  cases y with
  | fin => trivial
  | take b z n => exact this
  | part a b => trivial
theorem NetFor.turn {w : List Nat} {t : Tr} {n0 : Nat} {N : List St} (h : NetFor w t n0 N) : NetFor w t (N.length - 1 - n0) (turn N) := by
  have h0 := h.lt
  refine ⟨fun p hp => ?_, fun p hp => ?_, by rw [turn_len]; exact h.len, by rw [turn_len]; omega, turn_cl h.cl (by omega), turn_zt h.zt⟩
  · obtain ⟨m, xs, hm⟩ := h.dv p hp
    exact ⟨m, xs, LN_turn hm⟩
  · obtain ⟨m, xs, hm⟩ := h.dv p hp
    have e : Lf N w (n0, p) = xs := Lf_eq hm
    rw [← h.lf p hp, e]
    exact Lf_eq (LN_turn hm)
theorem plainL_sd : ∀ N : List St, (∀ x ∈ N, Zt x) → plainL (N.map sd) = true ∧ depL (N.map sd) ≤ 1 ∧ deqL (N.map sd) (N.map sd) = true
  | [], _ => by simp [depL, deqL]
  | x :: N, h => by
    obtain ⟨h1, h2, h3⟩ := plainL_sd N fun y hy => h y (List.mem_cons_of_mem _ hy)
    have hx := h x List.mem_cons_self
    have key : plain (sd x) = true ∧ dep (sd x) ≤ 1 ∧ deq (sd x) (sd x) = true := by
      cases x with
      | fin => simp [sd, dep, depL, deq, deqL]
      | take b z n =>
        have := hx.2
        have hb : ∀ c ∈ tbl, c < 1114112 := by decide
        refine ⟨?_, by simp [sd, dep, depL], by simp [sd, deq, deqL]⟩
        simp [sd]
        exact fun c hc => hb c (this c hc)
      | part a b => simp [sd, dep, depL, deq, deqL]
    refine ⟨by simp [h1, key.1], by rw [List.map_cons, depL]; exact Nat.max_le.mpr ⟨key.2.1, h2⟩, by simp [deqL, key.2.2, h3]⟩
end Mt
end
section
namespace Mt
open Mini Bd
theorem whole (i : Int) : f_l_whole [.int i] = .ok (.bl true) := by simp [f_l_whole, run_eq, b_l_whole]
theorem whole_non : f_l_whole [.non] = .ok (.bl false) := by simp [f_l_whole, run_eq, b_l_whole]
theorem plainL_iD : ∀ xs : List Nat, plainL (xs.map iD) = true
  | [] => rfl
  | x :: xs => by rw [List.map_cons, plainL, plainL_iD xs]; rfl
theorem depL_iD : ∀ xs : List Nat, depL (xs.map iD) = 0
  | [] => rfl
  | x :: xs => by rw [List.map_cons, depL, depL_iD xs]; rfl
theorem eq_il_nil (xs : List Nat) : eqB (.lst (xs.map iD)) (.lst []) = some (decide (xs = [])) := by
  rw [eqB_lst, if_pos ⟨plainL_iD xs, rfl, by rw [depL_iD]; omega, by simp [depL]⟩]
  cases xs <;> simp [deqL]
theorem onc_is_nil {xs : List Nat} (h : xs = []) : onc xs = [] := by subst h; rfl
theorem onc_is_cons {xs : List Nat} {q : Nat} {qs : List Nat} (h : xs = q :: qs) : ∃ r, onc xs = q :: r := by
  have := onc_head xs
  rw [h] at this ⊢
  cases ho : onc (q :: qs) with
  | nil => rw [ho] at this; simp at this
  | cons y ys => rw [ho] at this; simp at this; rw [this]; exact ⟨ys, rfl⟩
end Mt
end
section
namespace Mt
open Mini Bd
theorem wf_one (b : Bool) (c : Nat) (h : c ∈ tbl) : wf (.take b [c]) = true := by simp [wf, h]
theorem pick_by (c : Int) (m : Nat) (h8 : 8 ≤ m) (h68 : m ≤ 100) : ∃ ps, f_l_pick_by [.int c, .int (m : Int)] = .ok (td (.pick ps)) ∧ wf (.pick ps) = true ∧ hi (.pick ps) ≤ 3 ∧ nd (.pick ps) ≤ 1000 ∧ bare (.pick ps) = false ∧ sz (.pick ps) = 2 * (m : Int) + 1 + ((m : Int) + 1) / 3 := by
  have hl := forF_inv (i := 3) (b := c_l_pick_by_1)
    (fun j e s => ∃ ps x y, e = [some (.int c), some (.int (m : Int)), some (.own 0), x, y, none] ∧ s = [.L (ps.map td)] ∧ ps.length = j ∧ (∀ t ∈ ps, wf t = true ∧ hi t ≤ 2 ∧ bare t = false) ∧ ndL ps ≤ 3 * j ∧ szL ps = (j : Int) + ((j : Int) + 1) / 3)
    (rng 0 m) 0 [some (.int c), some (.int (m : Int)), some (.own 0), none, none, none] [.L []] ⟨[], none, none, rfl, rfl, rfl, by simp, by simp [ndL], by simp [szL]⟩ (fun k e s d hi' hd => by
      obtain ⟨ps, x, y, rfl, rfl, hlen, hall, hnd, hsz⟩ := hi'
      obtain ⟨h4, rfl⟩ := rng_at hd
      simp only [Nat.zero_add] at *
      have z7 : small64 7 := by unfold small64; omega
      have z11 : small64 11 := by unfold small64; omega
      have a1 : ∀ a e, kApp a e (.ok (.own 0, [.L (ps.map td)])) = kApp2 0 (a e [.L (ps.map td)]) := fun a e => kApp_ok rfl
      by_cases h3 : (k : Int) % 3 = 1
      · have a2 := kApp2_ok (s := [.L (ps.map td)]) (ds := ps.map td) (k := 0) (d := td (.row [.take true [sg (c + 7 * k)], .take (decide ((k : Int) % 2 = 0)) [sg (c + 11 * k)]])) rfl (by simp; omega) (free_td _)
        have e2 : td (.row [.take true [sg (c + 7 * k)], .take (decide ((k : Int) % 2 = 0)) [sg (c + 11 * k)]]) = .tup [.str [114, 111, 119], .tup [.tup [.str [116, 97, 107, 101], .bl true, .str [sg (c + 7 * k)]], .tup [.str [116, 97, 107, 101], .bl (decide ((k : Int) % 2 = 0)), .str [sg (c + 11 * k)]]]] := by simp [td_row, td_take]
        rw [e2] at a2
        refine ⟨_, _, .inl ?_, ps ++ [.row [.take true [sg (c + 7 * k)], .take (decide ((k : Int) % 2 = 0)) [sg (c + 11 * k)]]], some (.int k), some (td (.row [.take true [sg (c + 7 * k)], .take (decide ((k : Int) % 2 = 0)) [sg (c + 11 * k)]])), rfl, rfl, by simp [hlen], ?_, ?_, ?_⟩
        · simp [c_l_pick_by_1, sign_by, z7, z11, h3, a1, a2, e2]
        · intro t ht
          rcases List.mem_append.mp ht with ht | ht
          · exact hall t ht
          · rw [List.mem_singleton.mp ht]
            exact ⟨mk_row (by simp) (by simp) (by simp [wfL, wf_one, sg_mem]), by simp [hi, hiL], by simp [bare, bareA]⟩
        · rw [ndL_app]; simp [ndL, nd]; omega
        · rw [szL_app]; simp [szL, sz]; omega
      · have a2 := kApp2_ok (s := [.L (ps.map td)]) (ds := ps.map td) (k := 0) (d := td (.take true [sg (c + 7 * k)])) rfl (by simp; omega) (free_td _)
        have e2 : td (.take true [sg (c + 7 * k)]) = .tup [.str [116, 97, 107, 101], .bl true, .str [sg (c + 7 * k)]] := by simp [td_take]
        rw [e2] at a2
        refine ⟨_, _, .inl ?_, ps ++ [.take true [sg (c + 7 * k)]], some (.int k), some (td (.take true [sg (c + 7 * k)])), rfl, rfl, by simp [hlen], ?_, ?_, ?_⟩
        · simp [c_l_pick_by_1, sign_by, z7, z11, h3, a1, a2, e2]
        · intro t ht
          rcases List.mem_append.mp ht with ht | ht
          · exact hall t ht
          · rw [List.mem_singleton.mp ht]
            exact ⟨wf_one _ _ (sg_mem _), by simp [hi], by simp [bare]⟩
        · rw [ndL_app]; simp [ndL, nd]; omega
        · rw [szL_app]; simp [szL, sz]; omega)
  obtain ⟨e', s', hf, ps, x, y, rfl, rfl, hlen, hall, hnd, hsz⟩ := hl
  rw [rng_len, Nat.zero_add] at hlen hnd hsz
  obtain ⟨q, hq⟩ := Int.eq_ofNat_of_zero_le (show 0 ≤ 15 + c / 96 % 75 by omega)
  have hq2 : q ≤ 89 := by omega
  have z5 : small64 5 := by unfold small64; omega
  have hlc : ∀ y x s, lcF 3 tYes (mCall f_l_sign_by (aCons (mOp opAdd (mV 0) (mOp opMul (mC (.int 5)) (mV 3))) aNil)) [some (.int c), some (.int (m : Int)), some (.own 0), x, y, none] (rng 0 q) [.L s] =
      .ok ((List.range q).map fun (k : Nat) => .str [sg (c + 5 * k)], [.L s]) := by
    intro y x s
    unfold rng
    refine lcF_idx _ _ _ fun k hk => ⟨?_, by simp⟩
    simp [sign_by, z5]
  have hj : joinD [] (.lst ((List.range q).map fun (k : Nat) => .str [sg (c + 5 * k)])) = some (.str ((List.range q).map fun (k : Nat) => sg (c + 5 * k))) := join_signs _ _ (by simp; omega)
  have hw : wf (.take (decide (c % 2 = 0)) ((List.range q).map fun (k : Nat) => sg (c + 5 * k))) = true := by
    simp [wf]
    exact ⟨by omega, fun _ _ => sg_mem _⟩
  generalize ((List.range q).map fun (k : Nat) => sg (c + 5 * k)) = zz at *
  have hrz : rz [.L (ps.map td)] (.own 0) = .lst (ps.map td) := rz_own rfl
  have hfz : frzL 0 [.L (ps.map td)] (ps.map td) = some (ps.map td) := frzL_free _ _ _ (by rw [← tdL_eq]; exact free_tdL ps)
  have hfz2 : frzL 0 [.L (ps.map td)] (ps.map td ++ [.tup [.str [116, 97, 107, 101], .bl (decide (c % 2 = 0)), .str zz]]) = some (ps.map td ++ [.tup [.str [116, 97, 107, 101], .bl (decide (c % 2 = 0)), .str zz]]) := frzL_free _ _ _ (by
    have := free_tdL (ps ++ [.take (decide (c % 2 = 0)) zz])
    rw [tdL_eq, List.map_append, List.map_cons, List.map_nil, td_take] at this
    exact this)
  refine ⟨ps ++ [.take (decide (c % 2 = 0)) zz], ?_, mk_pick (by simp; omega) (by simp; omega) ?_, ?_, ?_, ?_, ?_⟩
  · simp [f_l_pick_by, run_eq, b_l_pick_by, show (m : Int) < 4611686018427387904 by omega, hf, hq, rng_len, show (q : Int) < 4611686018427387904 by omega, show q ≤ 16777216 by omega, hlc, hj, hrz, show ps.length ≤ 16777215 by omega, td_pick, td_take, hfz2, -joinD]
  · rw [wfL_app, wfL, wfL, hw, wfL_eq, List.all_eq_true.mpr fun t ht => (hall t ht).1]; rfl
  · rw [hi]
    have : hiL (ps ++ [.take (decide (c % 2 = 0)) zz]) ≤ 2 := hiL_le fun t ht => by
      rcases List.mem_append.mp ht with ht | ht
      · exact (hall t ht).2.1
      · rw [List.mem_singleton.mp ht, hi]; omega
    omega
  · rw [nd, ndL_app, ndL, ndL, nd]; omega
  · rw [bare, bareE_eq, List.any_eq_false]
    intro b hb
    obtain ⟨t, ht, rfl⟩ := List.mem_map.mp hb
    rcases List.mem_append.mp ht with ht | ht
    · simp [(hall t ht).2.2]
    · rw [List.mem_singleton.mp ht]; simp [bare]
  · rw [sz, szL_app, szL, szL, sz, hsz, List.length_append, List.length_singleton, hlen]; omega
end Mt
end
section
namespace Mt
open Mini Bd
/-- the net, handed over -/
theorem net_ofK (t : Tr) (h : hi t ≤ 100) (hw : wf t = true) (hB : (netOf t).2.length ≤ 1000000) : f_p_net_of__K [td t] [] = .ok (.tup [.int ((netOf t).1 : Int), .own 0], [.L ((netOf t).2.map sd)]) := by
  have hB' : (bld t 0 [some .fin]).2.length ≤ 1000000 := by unfold netOf fill at hB; simpa using hB
  have hq := built_all 100 t h hw 200 (by omega) 0 [some .fin] hB'
  have g := bld_grow t 0 [some .fin]
  have ef := fill_osd _ g
  have e0 : [some St.fin].map osd = [.tup [.str [101, 110, 100]]] := rfl
  rw [e0, ef] at hq
  unfold netOf
  simp only
  generalize bld t 0 [some .fin] = C at *
  have hq : f_p_built 200 [td t, .int 0, .own 0] [.L [.tup [.str [101, 110, 100]]]] = .ok (.int (C.1 : Int), [.L ((fill C.2).map sd)]) := hq
  simp [f_p_net_of__K, runK_eq, b_p_net_of__K, hq]
/-- just one end, the first -/
def F0 (s : List (Option St)) : Prop := 0 < s.length ∧ ∀ i : Nat, s[i]? = some (some .fin) → i = 0
theorem F0.add {s : List (Option St)} {x : St} (h : F0 s) (hx : x ≠ .fin) : F0 (s ++ [some x]) := by
  refine ⟨by simp, fun i hi => ?_⟩
  by_cases hl : i < s.length
  · rw [List.getElem?_append_left hl] at hi; exact h.2 i hi
  · rw [List.getElem?_append_right (by omega)] at hi
    have : i - s.length = 0 := by
      have := (List.getElem?_eq_some_iff.mp hi).1
      simp at this; omega
    rw [this] at hi
    simp at hi
    exact absurd hi hx
theorem F0.hole {s : List (Option St)} (h : F0 s) : F0 (s ++ [none]) := by
  refine ⟨by simp, fun i hi => ?_⟩
  by_cases hl : i < s.length
  · rw [List.getElem?_append_left hl] at hi; exact h.2 i hi
  · rw [List.getElem?_append_right (by omega)] at hi
    have : i - s.length = 0 := by
      have := (List.getElem?_eq_some_iff.mp hi).1
      simp at this; omega
    rw [this] at hi
    simp at hi
theorem F0.set {s : List (Option St)} {x : St} (h : F0 s) (hx : x ≠ .fin) (k : Nat) : F0 (s.set k (some x)) := by
  refine ⟨by simp [h.1], fun i hi => ?_⟩
  by_cases hk : k = i
  · subst hk
    rw [List.getElem?_set] at hi
    simp only [if_true] at hi
    split at hi
    · simp at hi; exact absurd hi hx
    · cases hi
  · rw [List.getElem?_set_ne hk] at hi; exact h.2 i hi
theorem prt_nf (g : Bool) (a b : Nat) : prt g a b ≠ .fin := by cases g <;> simp [prt]
theorem chain_f0 : ∀ (es : List Nat) (s : List (Option St)), F0 s → F0 (chain es s).2
  | [], s, h => h
  | [e], s, h => h
  | e :: f :: es, s, h => by rw [chain]; exact (chain_f0 (f :: es) s h).add (by simp)
mutual
theorem bld_f0 : ∀ (t : Tr) (th : Nat) (s : List (Option St)), F0 s → F0 (bld t th s).2
  | .take b z, th, s, hs => by rw [bld]; exact hs.add (by simp)
  | .row ps, th, s, hs => by rw [bld]; exact bldR_f0 ps th s hs
  | .pick ps, th, s, hs => by rw [bld]; exact chain_f0 _ _ (bldP_f0 ps th s hs)
  | .maybe t g, th, s, hs => by rw [bld]; exact (bld_f0 t th _ hs.hole).set (prt_nf _ _ _) _
  | .many t g, th, s, hs => by rw [bld]; exact (bld_f0 t _ _ hs.hole).set (prt_nf _ _ _) _
theorem bldR_f0 : ∀ (ts : List Tr) (th : Nat) (s : List (Option St)), F0 s → F0 (bldR ts th s).2
  | [], th, s, hs => by rw [bldR]; exact hs
  | t :: ts, th, s, hs => by rw [bldR]; exact bld_f0 t _ _ (bldR_f0 ts th s hs)
theorem bldP_f0 : ∀ (ts : List Tr) (th : Nat) (s : List (Option St)), F0 s → F0 (bldP ts th s).2
  | [], th, s, hs => by rw [bldP]; exact hs
  | t :: ts, th, s, hs => by rw [bldP]; exact bldP_f0 ts _ _ (bld_f0 t th s hs)
end
theorem net_f0 (t : Tr) : ∃ R, (netOf t).2 = .fin :: R ∧ ∀ x ∈ R, x ≠ .fin := by
  have g := bld_grow t 0 [some .fin]
  have hf := bld_f0 t 0 [some .fin] ⟨by simp, fun i hi => by
    have := (List.getElem?_eq_some_iff.mp hi).1
    simp at this; exact this⟩
  have h0 := g.old 0 (by simp)
  unfold netOf fill
  simp only
  generalize (bld t 0 [some .fin]).2 = B at *
  cases B with
  | nil => simp at h0
  | cons o B =>
    simp at h0
    subst h0
    refine ⟨B.map fun o => o.getD .fin, rfl, fun x hx => ?_⟩
    obtain ⟨o, ho, rfl⟩ := List.mem_map.mp hx
    obtain ⟨i, hi, rfl⟩ := List.getElem_of_mem ho
    obtain ⟨y, hy⟩ := g.new (i + 1) (by simp) (by simp; omega)
    rw [List.getElem?_cons_succ, List.getElem?_eq_getElem hi] at hy
    have hy : B[i] = some y := by simpa using hy
    rw [hy]
    intro hc
    have hc : y = .fin := hc
    have := hf.2 (i + 1) (by rw [List.getElem?_cons_succ, List.getElem?_eq_getElem hi, hy, hc])
    omega
end Mt
end
section
namespace Mt
open Mini Bd
theorem l_step_right {m : Nat} {x : St} (hc : Cl m x) : f_l_step_right [sd x, .int (m : Int)] = .ok (.bl true) := by
  cases x with
  | fin => simp [f_l_step_right, run_eq, b_l_step_right, sd, pos]
  | take q z n =>
    have hc : n < m := hc
    have hcut : cut [D.str [116, 97, 107, 101], .bl q, .str z, .int (n : Int)] (some 1) none = [.bl q, .str z, .int (n : Int)] := by simp [cut, six]
    have hcut3 : cut [D.str [116, 97, 107, 101], .bl q, .str z, .int (n : Int)] (some 3) none = [.int (n : Int)] := by simp [cut, six]
    have hlc : ∀ x0 x1 x2, lcF 3 tYes (mAnd (mCall f_l_whole (aCons (mV 3) aNil)) (mChain opLe opLt (mC (.int 0)) (mV 3) (mV 1))) [x0, some (.int (m : Int)), x2, x1] [.int (n : Int)] [] = .ok ([.bl true], []) := fun x0 x1 x2 => by
      simp [lcF, whole, hc]
    simp [f_l_step_right, run_eq, b_l_step_right, sd, pos, hcut, hcut3, hlc]
  | part a b =>
    have hc : a < m ∧ b < m := hc
    have hcut : cut [D.str [112, 97, 114, 116], .int (a : Int), .int (b : Int)] (some 1) none = [.int (a : Int), .int (b : Int)] := by simp [cut, six]
    have hlc : ∀ x0 x1 x2, lcF 3 tYes (mAnd (mCall f_l_whole (aCons (mV 3) aNil)) (mChain opLe opLt (mC (.int 0)) (mV 3) (mV 1))) [x0, some (.int (m : Int)), x2, x1] [.int (a : Int), .int (b : Int)] [] = .ok ([.bl true, .bl true], []) := fun x0 x1 x2 => by
      simp [lcF, whole, hc.1, hc.2]
    simp [f_l_step_right, run_eq, b_l_step_right, sd, pos, hcut, hlc]
theorem l_net_right {N : List St} {n0 : Nat} (hc : ∀ x ∈ N, Cl N.length x) (h0 : n0 < N.length) (hN : N.length ≤ 1000000) (hf : ∃ R, N = .fin :: R ∧ ∀ x ∈ R, x ≠ .fin) : f_l_net_right [netD (n0, N), .int (N.length : Int)] = .ok (.bl true) := by
  have hlc1 : lcF 2 tYes (mCall f_l_step_right (aCons (mV 2) (aCons (mV 1) aNil))) [some (netD (n0, N)), some (.int (N.length : Int)), none] (N.map sd) [] = .ok (N.map fun _ => .bl true, []) :=
    lcF_idx _ _ _ fun x hx => ⟨by simp [l_step_right (hc x hx)], by simp⟩
  have hball : bAll (.lst (N.map fun _ => D.bl true)) = some (.bl true) := by
    simp only [bAll]
    have e : bls (N.map fun _ => D.bl true) = some (N.map fun _ => true) := bls_map (fun _ => true) _
    rw [e]
    simp
  have hlc2 : lcF 2 (tV (mOp opEq (mOp opIx (mV 2) (mC (.int 0))) (mC (.str [101, 110, 100])))) (mV 2) [some (netD (n0, N)), some (.int (N.length : Int)), none] (N.map sd) [] = .ok ([sd .fin], []) := by
    obtain ⟨R, hR, hRf⟩ := hf
    have key : ∀ R : List St, (∀ x ∈ R, x ≠ .fin) → lcF 2 (tV (mOp opEq (mOp opIx (mV 2) (mC (.int 0))) (mC (.str [101, 110, 100])))) (mV 2) [some (netD (n0, N)), some (.int (N.length : Int)), none] (R.map sd) [] = .ok ([], []) := by
      intro R
      induction R with
      | nil => intro _; rfl
      | cons x R ih =>
        intro h
        have ih := ih fun y hy => h y (List.mem_cons_of_mem _ hy)
        have hx := h x List.mem_cons_self
        rw [List.map_cons, lcF]
        cases x with
        | fin => exact absurd rfl hx
        | take q z n => simp [sd, pos, Mini.R.nox, ih]
        | part a b => simp [sd, pos, Mini.R.nox, ih]
    have hk := key R hRf
    have e : N.map sd = sd .fin :: R.map sd := by rw [hR]; rfl
    rw [e, lcF]
    have hk2 := hk
    generalize netD (n0, N) = ND at *
    simp [sd, pos, Mini.R.nox, hk2]
  have hI0 : ∀ S : Sto, opIx S (netD (n0, N)) (.int 0) = some (.int (n0 : Int)) := fun S => by simp [netD, pos]
  have hI1 : ∀ S : Sto, opIx S (netD (n0, N)) (.int 1) = some (.lst (N.map sd)) := fun S => by simp [netD, pos]
  have hty : isTy .tuple (netD (n0, N)) = some (.bl true) := rfl
  have hln : bLen (netD (n0, N)) = some (.int 2) := rfl
  have hrz : ∀ S : Sto, rz S (netD (n0, N)) = netD (n0, N) := fun S => rfl
  have hnl : (N.map sd).length = N.length := List.length_map ..
  have hbl : bLen (.lst (N.map sd)) = some (.int (N.length : Int)) := by simp
  have htl : ∀ ds : List D, isTy .list (.lst ds) = some (.bl true) := fun ds => rfl
  have hb1 : bLen (.lst [sd .fin]) = some (.int 1) := rfl
  generalize (N.map fun _ => D.bl true) = TB at *
  generalize netD (n0, N) = ND at *
  generalize N.map sd = NL at *
  simp [f_l_net_right, run_eq, b_l_net_right, hrz, hty, hln, hI0, hI1, htl, hbl, whole, h0, hnl, show N.length ≤ 16777216 by omega, hlc1, hball, hlc2, hb1, -opIx_lst, -opIx_tup, -bAll, -bLen, -isTy]
end Mt
end
section
namespace Mt
open Mini Bd
/-! the ends of all steps, round by round -/
theorem filter_lt {P Q : Nat → Bool} (h : ∀ x, P x = true → Q x = true) : ∀ V : List Nat, (V.filter P).length ≤ (V.filter Q).length ∧ ((∃ x ∈ V, Q x = true ∧ P x = false) → (V.filter P).length < (V.filter Q).length)
  | [] => by simp
  | v :: V => by
    obtain ⟨h1, h2⟩ := filter_lt h V
    rw [List.filter_cons, List.filter_cons]
    cases hP : P v with
    | true =>
      rw [h v hP]
      simp only [if_true, List.length_cons]
      refine ⟨by omega, ?_⟩
      rintro ⟨x, hx, hq, hp⟩
      rcases List.mem_cons.mp hx with rfl | hx
      · rw [hP] at hp; cases hp
      · have := h2 ⟨x, hx, hq, hp⟩; omega
    | false =>
      cases hQ : Q v with
      | true =>
        simp only [if_true, Bool.false_eq_true, if_false, List.length_cons]
        exact ⟨by omega, fun _ => by omega⟩
      | false =>
        simp only [Bool.false_eq_true, if_false]
        refine ⟨h1, ?_⟩
        rintro ⟨x, hx, hq, hp⟩
        rcases List.mem_cons.mp hx with rfl | hx
        · rw [hQ] at hq; cases hq
        · exact h2 ⟨x, hx, hq, hp⟩
section
variable (N : List St) (w : List Nat)
open Classical in
noncomputable def cnt (p r : Nat) : Nat := ((List.range N.length).filter fun u => decide (Dv N w (u, p) ∧ rk N w (u, p) < r)).length
variable {N w}
theorem cnt_le (p r : Nat) : cnt N w p r ≤ N.length := by
  unfold cnt
  exact Nat.le_trans (List.length_filter_le _ _) (by simp)
theorem cnt_lt {p a r : Nat} (hD : Dv N w (a, p)) (hr : rk N w (a, p) < r) : cnt N w p (rk N w (a, p)) < cnt N w p r := by
  classical
  unfold cnt
  refine (filter_lt (fun x hx => ?_) _).2 ⟨a, List.mem_range.mpr hD.lt, ?_, ?_⟩
  · simp only [decide_eq_true_eq] at hx ⊢
    exact ⟨hx.1, by omega⟩
  · simp only [decide_eq_true_eq]
    exact ⟨hD, hr⟩
  · simp
end
def Bnd (n : Nat) (T : List (List Nat)) : Prop := ∀ x ∈ T, x.length ≤ n ∧ ∀ v ∈ x, v < n
structure TOk (N : List St) (w : List Nat) (p j : Nat) (T : List (List Nat)) : Prop where
  len : T.length = N.length
  bnd : Bnd (w.length + 1) T
  ok : ∀ s, Dv N w (s, p) → cnt N w p (rk N w (s, p)) < j → T[s]? = some (onc (Lf N w (s, p)))
structure FuOk (N : List St) (w : List Nat) (p : Nat) (T : List (List Nat)) : Prop where
  len : T.length = N.length
  bnd : Bnd (w.length + 1) T
  ok : ∀ s, Dv N w (s, p) → T[s]? = some (onc (Lf N w (s, p)))
theorem TOk.fin {N : List St} {w : List Nat} {p : Nat} {T : List (List Nat)} (h : TOk N w p (N.length + 1) T) : FuOk N w p T :=
  ⟨h.len, h.bnd, fun s hD => h.ok s hD (by have := cnt_le (N := N) (w := w) p (rk N w (s, p)); omega)⟩
def rd (N : List St) (w : List Nat) (p : Nat) (fu T : List (List Nat)) (s : Nat) : List Nat := match N[s]? with
  | some .fin => [p]
  | some (.part a b) => onc (T.getD a [] ++ T.getD b [])
  | some (.take q z n) => match w[p]? with
    | some c => if takes q z c = true then fu.getD n [] else []
    | none => []
  | none => []
def rdL (N : List St) (w : List Nat) (p : Nat) (fu T : List (List Nat)) : List (List Nat) := (List.range N.length).map (rd N w p fu T)
theorem rdL_at {N : List St} {w : List Nat} {p : Nat} {fu T : List (List Nat)} {s : Nat} (hs : s < N.length) : (rdL N w p fu T)[s]? = some (rd N w p fu T s) := by
  unfold rdL
  rw [List.getElem?_map, List.getElem?_range hs]
  rfl
theorem bnd_getD {n : Nat} {T : List (List Nat)} (h : Bnd n T) (a : Nat) : (T.getD a []).length ≤ n ∧ ∀ v ∈ T.getD a [], v < n := by
  rw [List.getD_eq_getElem?_getD]
  cases ha : T[a]? with
  | none => simp
  | some x => exact h x (List.mem_of_getElem? ha)
theorem rd_bnd {N : List St} {w : List Nat} {p : Nat} {fu T : List (List Nat)} (hp : p ≤ w.length) (hT : Bnd (w.length + 1) T) (hfu : p < w.length → Bnd (w.length + 1) fu) (s : Nat) : (rd N w p fu T s).length ≤ w.length + 1 ∧ ∀ v ∈ rd N w p fu T s, v < w.length + 1 := by
  unfold rd
  split
  · exact ⟨by simp, fun v hv => by rw [List.mem_singleton.mp hv]; omega⟩
  · rename_i a b _
    have hm : ∀ v ∈ T.getD a [] ++ T.getD b [], v < w.length + 1 := fun v hv => by
      rcases List.mem_append.mp hv with hv | hv
      · exact (bnd_getD hT a).2 v hv
      · exact (bnd_getD hT b).2 v hv
    exact ⟨onc_len hm, fun v hv => hm v (mem_onc.mp hv)⟩
  · split
    · rename_i c hc
      split
      · exact bnd_getD (hfu (List.getElem?_eq_some_iff.mp hc).1) _
      · simp
    · simp
  · simp
theorem TOk.next {N : List St} {w : List Nat} {p j : Nat} {fu T : List (List Nat)} (hp : p ≤ w.length) (hfu : p < w.length → FuOk N w (p + 1) fu) (h : TOk N w p j T) : TOk N w p (j + 1) (rdL N w p fu T) := by
  refine ⟨by unfold rdL; simp, fun x hx => ?_, fun s hD hc => ?_⟩
  · unfold rdL at hx
    obtain ⟨s, _, rfl⟩ := List.mem_map.mp hx
    exact rd_bnd hp h.bnd (fun h2 => (hfu h2).bnd) s
  · rw [rdL_at hD.lt]
    congr 1
    obtain ⟨x, hx⟩ : ∃ x, N[s]? = some x := ⟨_, List.getElem?_eq_getElem hD.lt⟩
    unfold rd
    rw [hx]
    cases x with
    | fin => rw [Dv.fin hx]; rfl
    | part a b =>
      obtain ⟨d1, d2, r1, r2, hL⟩ := hD.part hx
      have c1 := cnt_lt d1 r1
      have c2 := cnt_lt d2 r2
      have e1 := h.ok a d1 (by omega)
      have e2 := h.ok b d2 (by omega)
      simp only
      rw [List.getD_eq_getElem?_getD, List.getD_eq_getElem?_getD, e1, e2, hL]
      exact onc_app _ _
    | take q z n =>
      simp only
      cases hc2 : w[p]? with
      | none => rw [hD.no hx fun c h => by rw [hc2] at h; cases h]; rfl
      | some c =>
        simp only
        by_cases ht : takes q z c = true
        · obtain ⟨d1, _, hL⟩ := hD.go hx hc2 ht
          have e1 := (hfu (List.getElem?_eq_some_iff.mp hc2).1).ok n d1
          rw [if_pos ht, List.getD_eq_getElem?_getD, e1, hL]
          rfl
        · rw [if_neg ht, hD.no hx fun c' h => by rw [hc2] at h; cases h; simpa using ht]
          rfl
theorem TOk.all {N : List St} {w : List Nat} {p j : Nat} {fu T : List (List Nat)} (hp : p ≤ w.length) (hfu : p < w.length → FuOk N w (p + 1) fu) (h : TOk N w p j T) (he : rdL N w p fu T = T) : ∀ i, TOk N w p i T
  | 0 => ⟨h.len, h.bnd, fun s _ hc => by omega⟩
  | i + 1 => by
    have := (TOk.all hp hfu h he i).next hp hfu
    rw [he] at this
    exact this
end Mt
end
section
namespace Mt
open Mini Bd
theorem a_get (s : Sto) (ds : List D) : (s ++ [Ob.L ds])[s.length]? = some (.L ds) := by simp
theorem a_set (s : Sto) (ds ds' : List D) : (s ++ [Ob.L ds]).set s.length (.L ds') = s ++ [.L ds'] := by simp
theorem a_app (s : Sto) (ds : List D) (a : M) (e : Env) : kApp a e (.ok (.own s.length, s ++ [Ob.L ds])) = kApp2 s.length (a e (s ++ [.L ds])) := kApp_ok (a_get s ds)
theorem a_app2 (s : Sto) (ds : List D) (d : D) (h : ds.length < 16777216) (hf : free d = true) : kApp2 s.length (.ok (d, s ++ [Ob.L ds])) = .ok (.non, s ++ [.L (ds ++ [d])]) := by
  rw [kApp2_ok (a_get s ds) h hf, a_set]
theorem sd_j0 (s : Sto) (x : St) : opIx s (sd x) (.int 0) = some (.str (match x with | .fin => [101, 110, 100] | .take _ _ _ => [116, 97, 107, 101] | .part _ _ => [112, 97, 114, 116])) := by
  cases x <;> simp [sd, pos]
theorem sd_rz (s : Sto) (x : St) : rz s (sd x) = sd x := by cases x <;> rfl
theorem il_deq : ∀ xs ys : List Nat, deqL (xs.map iD) (ys.map iD) = decide (xs = ys)
  | [], [] => rfl
  | [], _ :: _ => rfl
  | _ :: _, [] => rfl
  | x :: xs, y :: ys => by
    rw [List.map_cons, List.map_cons, deqL, il_deq xs ys]
    by_cases h : x = y
    · subst h; simp [iD, deq]
    · have h2 : ¬ ((x : Int) = (y : Int)) := by omega
      have hb : deq (iD x) (iD y) = false := by simp only [iD, deq, beq_eq_false_iff_ne]; exact h2
      rw [hb]
      simp [h]
theorem ill_deq : ∀ xs ys : List (List Nat), deqL (xs.map il) (ys.map il) = decide (xs = ys)
  | [], [] => rfl
  | [], _ :: _ => rfl
  | _ :: _, [] => rfl
  | x :: xs, y :: ys => by
    rw [List.map_cons, List.map_cons, deqL, ill_deq xs ys]
    have : deq (il x) (il y) = decide (x = y) := by unfold il; rw [deq]; exact il_deq x y
    rw [this]
    by_cases h : x = y
    · subst h; simp
    · simp [h]
theorem ill_plain : ∀ xs : List (List Nat), plainL (xs.map il) = true ∧ depL (xs.map il) ≤ 1
  | [] => by simp [depL]
  | x :: xs => by
    obtain ⟨h1, h2⟩ := ill_plain xs
    rw [List.map_cons]
    refine ⟨by simp [h1, il, plainL_iD], ?_⟩
    rw [depL]
    have : dep (il x) = 1 := by simp [il, dep, depL_iD]
    omega
theorem ill_eq (xs ys : List (List Nat)) : eqB (.lst (xs.map il)) (.lst (ys.map il)) = some (decide (xs = ys)) := by
  obtain ⟨h1, h2⟩ := ill_plain xs
  obtain ⟨h3, h4⟩ := ill_plain ys
  rw [eqB_lst, if_pos ⟨h1, h3, by omega, by omega⟩, ill_deq]
theorem il_free (x : List Nat) : free (il x) = true := by simp [il, freeL_iD]
theorem ill_free : ∀ xs : List (List Nat), freeL (xs.map il) = true
  | [] => rfl
  | x :: xs => by rw [List.map_cons, freeL, il_free, ill_free xs]; rfl
theorem ill_ix (s : Sto) (xs : List (List Nat)) (i : Nat) (h : i < xs.length) : opIx s (.lst (xs.map il)) (.int (i : Int)) = some (il (xs.getD i [])) := by
  rw [opIx_lst, List.length_map, pos_nat h]
  simp [h]
theorem frz_rz {S : Sto} {x : D} {ds : List D} (h : rz S x = .lst ds) : frz 0 S x = some (.lst ds) := by
  cases x with
  | own k =>
    cases hk : S[k]? with
    | none => simp [rz, hk] at h
    | some o =>
      cases o with
      | L es =>
        rw [rz_own hk] at h
        have h : es = ds := by simpa using h
        subst h
        simp [frz, hk]
      | DI ks => rw [rz_ownI hk] at h; cases h
      | DT ks => rw [rz_ownT hk] at h; cases h
  | lst es => simp only [rz_lst] at h; rw [← h]; rfl
  | non => simp at h
  | bl b => simp at h
  | int i => simp at h
  | str z => simp at h
  | tup es => simp at h
  | scr ns => simp at h
  | dic n => simp at h
theorem led1_step {N : List St} {w : List Nat} {p : Nat} {fu T : List (List Nat)} {x4 x6 : D} {b : Sto} (hc : ∀ x ∈ N, Cl N.length x) (hN : N.length ≤ 1000000) (hl : w.length ≤ 100000) (hT : T.length = N.length) (hTb : Bnd (w.length + 1) T) (hfl : p < w.length → fu.length = N.length) (hx : ∀ ds, rz (b ++ [Ob.L ds]) x4 = .lst (T.map il)) (k : Nat) (hk : k < N.length) (x5 : Option D) (xs : List (List Nat)) (hxs : xs.length ≤ 1000000) :
    c_l_led_1 [some (.lst (N.map sd)), some (.str w), some (.int (p : Int)), some (.lst (fu.map il)), some x4, some (sd N[k]), some x6, some (.own b.length)] (b ++ [.L (xs.map il)]) =
      .ok (.nx [some (.lst (N.map sd)), some (.str w), some (.int (p : Int)), some (.lst (fu.map il)), some x4, some (sd N[k]), some x6, some (.own b.length)], b ++ [.L ((xs ++ [rd N w p fu T k]).map il)]) := by
  have a0 := a_app b (xs.map il)
  have a1 := a_app2 b (xs.map il) (il (rd N w p fu T k)) (by simp; omega) (il_free _)
  have e1 : xs.map il ++ [il (rd N w p fu T k)] = (xs ++ [rd N w p fu T k]).map il := by simp
  rw [e1] at a1
  have hxk : N[k]? = some N[k] := List.getElem?_eq_getElem hk
  have hx1 := hx (xs.map il)
  have hchk : ∀ S : Sto, chk S [D.int (p : Int)] = true := fun S => by simp
  generalize hX : N[k] = X at *
  have hj := fun S => sd_j0 S X
  have hr := fun S => sd_rz S X
  cases X with
  | fin =>
    have e : rd N w p fu T k = [p] := by unfold rd; rw [hxk]
    rw [e] at a1 ⊢
    have hj : ∀ S : Sto, opIx S (sd .fin) (.int 0) = some (.str [101, 110, 100]) := hj
    simp only [il, List.map_cons, List.map_nil, iD] at a1 ⊢
    generalize N.map sd = NL at *
    generalize sd .fin = SX at *
    generalize b ++ [Ob.L (xs.map fun xs => D.lst (xs.map iD))] = S0 at *
    generalize hS1 : b ++ [Ob.L ((xs ++ [[p]]).map fun xs => D.lst (xs.map iD))] = S1 at *
    simp [c_l_led_1, hj, hr, a0, a1, -opIx_tup]
  | part a c =>
    have hcl : a < N.length ∧ c < N.length := hc _ (List.mem_of_getElem? hxk)
    have e : rd N w p fu T k = onc (T.getD a [] ++ T.getD c []) := by unfold rd; rw [hxk]
    rw [e] at a1 ⊢
    have hj : ∀ S : Sto, opIx S (sd (.part a c)) (.int 0) = some (.str [112, 97, 114, 116]) := hj
    have j1 : ∀ S : Sto, opIx S (sd (.part a c)) (.int 1) = some (.int (a : Int)) := fun S => by simp [sd, pos]
    have j2 : ∀ S : Sto, opIx S (sd (.part a c)) (.int 2) = some (.int (c : Int)) := fun S => by simp [sd, pos]
    have k1 := fun S => ill_ix S T a (by omega)
    have k2 := fun S => ill_ix S T c (by omega)
    have b1 := (bnd_getD hTb a).1
    have b2 := (bnd_getD hTb c).1
    have ho := l_once (T.getD a [] ++ T.getD c []) (by rw [List.length_append]; omega)
    generalize T.getD a [] = A at *
    generalize T.getD c [] = C at *
    have hcat : ∀ S : Sto, opAdd S (il A) (il C) = some (il (A ++ C)) := fun S => by
      simp only [il, opAdd, List.length_map, line_eq]
      rw [if_pos (by omega), List.map_append]
    have hrzA : ∀ S : Sto, rz S (il A) = il A := fun S => rfl
    have hrzC : ∀ S : Sto, rz S (il C) = il C := fun S => rfl
    have hfr := il_free (A ++ C)
    have hrzAC : ∀ S : Sto, rz S (il (A ++ C)) = il (A ++ C) := fun S => rfl
    generalize il (onc (A ++ C)) = OA at *
    generalize il (A ++ C) = AC at *
    generalize il A = IA at *
    generalize il C = IC at *
    generalize (xs ++ [onc (A ++ C)]).map il = XS1 at *
    generalize xs.map il = XS at *
    generalize T.map il = TL at *
    generalize N.map sd = NL at *
    generalize sd (.part a c) = SX at *
    simp [c_l_led_1, hj, hr, a0, hx1, j1, j2, k1, k2, hrzA, hrzC, hcat, hfr, ho, a1, -opIx_tup, -opIx_lst, -opAdd]
  | take q z n =>
    have hn : n < N.length := hc _ (List.mem_of_getElem? hxk)
    have hj : ∀ S : Sto, opIx S (sd (.take q z n)) (.int 0) = some (.str [116, 97, 107, 101]) := hj
    have j1 : ∀ S : Sto, opIx S (sd (.take q z n)) (.int 1) = some (.bl q) := fun S => by simp [sd, pos]
    have j2 : ∀ S : Sto, opIx S (sd (.take q z n)) (.int 2) = some (.str z) := fun S => by simp [sd, pos]
    have j3 : ∀ S : Sto, opIx S (sd (.take q z n)) (.int 3) = some (.int (n : Int)) := fun S => by simp [sd, pos]
    by_cases hp : p < w.length
    · have hix := fun S => opIx_str_nat S w p hp (by omega)
      have hat : at0 w p = w[p] := by simp [at0, hp]
      have hgo : w[p]? = some w[p] := List.getElem?_eq_getElem hp
      simp only [hat] at hix
      cases ht : takes q z w[p] with
      | true =>
        have ht' : decide (w[p] ∈ z) = q := by simpa [takes] using ht
        have e : rd N w p fu T k = fu.getD n [] := by unfold rd; rw [hxk]; simp [hgo, ht]
        rw [e] at a1 ⊢
        have k3 := fun S => ill_ix S fu n (by rw [hfl hp]; exact hn)
        generalize fu.getD n [] = FN at *
        have hrz3 : ∀ S : Sto, rz S (il FN) = il FN := fun S => rfl
        generalize (xs ++ [FN]).map il = XS1 at *
        generalize il FN = IFN at *
        generalize xs.map il = XS at *
        generalize fu.map il = FL at *
        generalize N.map sd = NL at *
        generalize sd (.take q z n) = SX at *
        simp [c_l_led_1, hj, hr, j1, j2, j3, show w.length ≤ 16777216 by omega, hp, hix, ht', k3, a0, a1, -opIx_tup, -opIx_lst]
      | false =>
        have ht' : ¬ decide (w[p] ∈ z) = q := by simpa [takes] using ht
        have e : rd N w p fu T k = [] := by unfold rd; rw [hxk]; simp [hgo, ht]
        rw [e] at a1 ⊢
        generalize (xs ++ [[]]).map il = XS1 at *
        simp only [il, List.map_nil] at a1
        generalize (xs.map fun xs => D.lst (xs.map iD)) = XS at *
        generalize N.map sd = NL at *
        generalize sd (.take q z n) = SX at *
        simp [c_l_led_1, hj, hr, j1, j2, show w.length ≤ 16777216 by omega, hp, hix, ht', a0, a1, -opIx_tup, -opIx_lst]
    · have e : rd N w p fu T k = [] := by unfold rd; rw [hxk]; simp [List.getElem?_eq_none (show w.length ≤ p by omega)]
      rw [e] at a1 ⊢
      generalize (xs ++ [[]]).map il = XS1 at *
      simp only [il, List.map_nil] at a1
      generalize (xs.map fun xs => D.lst (xs.map iD)) = XS at *
      generalize N.map sd = NL at *
      generalize sd (.take q z n) = SX at *
      simp [c_l_led_1, hj, hr, show w.length ≤ 16777216 by omega, hp, a0, a1, -opIx_tup, -opIx_lst]
end Mt
end
section
namespace Mt
open Mini Bd
abbrev ldEnv (N : List St) (w : List Nat) (p : Nat) (fu : List (List Nat)) (x4 x5 x6 x7 : Option D) : Env := [some (.lst (N.map sd)), some (.str w), some (.int (p : Int)), some (.lst (fu.map il)), x4, x5, x6, x7]
theorem led1_loop {N : List St} {w : List Nat} {p : Nat} {fu T : List (List Nat)} {x4 x6 : D} {b : Sto} (hc : ∀ x ∈ N, Cl N.length x) (hN : N.length ≤ 1000000) (hl : w.length ≤ 100000) (hT : T.length = N.length) (hTb : Bnd (w.length + 1) T) (hfl : p < w.length → fu.length = N.length) (hx : ∀ ds, rz (b ++ [Ob.L ds]) x4 = .lst (T.map il)) (x5 : Option D) :
    ∃ x5', forF 5 c_l_led_1 (N.map sd) (ldEnv N w p fu (some x4) x5 (some x6) (some (.own b.length))) (b ++ [.L []]) = .ok (.nx (ldEnv N w p fu (some x4) x5' (some x6) (some (.own b.length))), b ++ [.L ((rdL N w p fu T).map il)]) := by
  obtain ⟨e', s', hf, ⟨x5', rfl⟩, rfl⟩ := forF_inv (i := 5) (b := c_l_led_1)
    (fun j e s => (∃ x5, e = ldEnv N w p fu (some x4) x5 (some x6) (some (.own b.length))) ∧ s = b ++ [.L (((List.range j).map (rd N w p fu T)).map il)])
    (N.map sd) 0 (ldEnv N w p fu (some x4) x5 (some x6) (some (.own b.length))) (b ++ [.L []]) ⟨⟨x5, rfl⟩, rfl⟩ (fun k e s d hi' hd => by
      obtain ⟨⟨x5, rfl⟩, rfl⟩ := hi'
      rw [Nat.zero_add] at *
      have hk : k < N.length := by have := (List.getElem?_eq_some_iff.mp hd).1; simpa using this
      have hd2 : d = sd N[k] := by
        rw [List.getElem?_map, List.getElem?_eq_getElem hk] at hd
        simpa using hd.symm
      subst hd2
      have h := led1_step (x6 := x6) hc hN hl hT hTb hfl hx k hk x5 ((List.range k).map (rd N w p fu T)) (by simp; omega)
      refine ⟨_, _, .inl h, ⟨_, rfl⟩, ?_⟩
      simp only [List.range_succ, List.map_append, List.map_cons, List.map_nil])
  rw [Nat.zero_add, List.length_map] at hf
  exact ⟨x5', hf⟩
theorem led2_loop {N : List St} {w : List Nat} {p : Nat} {fu : List (List Nat)} (hc : ∀ x ∈ N, Cl N.length x) (hN : N.length ≤ 1000000) (hl : w.length ≤ 100000) (hp : p ≤ w.length) (hfu : p < w.length → FuOk N w (p + 1) fu) : ∀ (m k : Nat) (T : List (List Nat)) (x4 : D) (b : Sto) (x5 x6 x7 : Option D), k + m = N.length + 1 → TOk N w p k T → (∀ ds, rz (b ++ ds) x4 = .lst (T.map il)) →
    ∃ o S, forF 6 c_l_led_2 ((List.range m).map fun i => D.int ((k : Int) + (i : Nat))) (ldEnv N w p fu (some x4) x5 x6 x7) b = .ok (o, S) ∧
      ∃ y T', FuOk N w p T' ∧ rz S y = .lst (T'.map il) ∧ (o = .rt y ∨ ∃ z5 z6 z7, o = .nx (ldEnv N w p fu (some y) z5 z6 z7))
  | 0, k, T, x4, b, x5, x6, x7, h, hT, hx => by
    have hk : k = N.length + 1 := by omega
    subst hk
    have hx0 := hx []
    rw [List.append_nil] at hx0
    exact ⟨.nx (ldEnv N w p fu (some x4) x5 x6 x7), b, rfl, x4, T, hT.fin, hx0, .inr ⟨_, _, _, rfl⟩⟩
  | m + 1, k, T, x4, b, x5, x6, x7, h, hT, hx => by
    obtain ⟨x5', hin⟩ := led1_loop (x6 := .int ((k : Int) + ((0 : Nat) : Int))) (b := b) hc hN hl hT.len hT.bnd (fun h => (hfu h).len) (fun ds => hx [.L ds]) x5
    have heq := ill_eq (rdL N w p fu T) T
    have hx1 := hx [.L ((rdL N w p fu T).map il)]
    have hrz7 : rz (b ++ [.L ((rdL N w p fu T).map il)]) (.own b.length) = .lst ((rdL N w p fu T).map il) := rz_own (a_get b _)
    rw [List.range_succ_eq_map, List.map_cons, List.map_map, forF]
    by_cases he : rdL N w p fu T = T
    · have hb : c_l_led_2 (ldEnv N w p fu (some x4) x5 (some (.int ((k : Int) + ((0 : Nat) : Int)))) x7) b = .ok (.rt x4, b ++ [.L ((rdL N w p fu T).map il)]) := by
        simp only [he, decide_true] at heq
        rw [he] at hin hx1 hrz7 ⊢
        simp only [ldEnv] at hin ⊢
        generalize (k : Int) + ((0 : Nat) : Int) = J at *
        generalize T.map il = TL at *
        generalize fu.map il = FL at *
        generalize N.map sd = NL at *
        simp [c_l_led_2, hin, hrz7, hx1, heq, -eqB_lst]
      refine ⟨.rt x4, b ++ [.L ((rdL N w p fu T).map il)], ?_, x4, T, (hT.all hp hfu he (N.length + 1)).fin, hx1, .inl rfl⟩
      simp only [List.set, hb, R.bind_ok]
    · have hb : c_l_led_2 (ldEnv N w p fu (some x4) x5 (some (.int ((k : Int) + ((0 : Nat) : Int)))) x7) b = .ok (.nx (ldEnv N w p fu (some (.own b.length)) x5' (some (.int ((k : Int) + ((0 : Nat) : Int)))) (some (.own b.length))), b ++ [.L ((rdL N w p fu T).map il)]) := by
        simp only [he, decide_false] at heq
        simp only [ldEnv] at hin ⊢
        generalize (k : Int) + ((0 : Nat) : Int) = J at *
        generalize (rdL N w p fu T).map il = RL at *
        generalize T.map il = TL at *
        generalize fu.map il = FL at *
        generalize N.map sd = NL at *
        simp [c_l_led_2, hin, hrz7, hx1, heq, -eqB_lst]
      obtain ⟨o, S, ih, y, T', h1, h2, h3⟩ := led2_loop hc hN hl hp hfu m (k + 1) (rdL N w p fu T) (.own b.length) (b ++ [.L ((rdL N w p fu T).map il)]) x5' (some (.int ((k : Int) + ((0 : Nat) : Int)))) (some (.own b.length)) (by omega) (hT.next hp hfu) (fun ds => rz_own (by
        rw [List.getElem?_append_left (by simp)]; exact a_get b _))
      refine ⟨o, S, ?_, y, T', h1, h2, h3⟩
      simp only [List.set, hb, R.bind_ok]
      rw [← ih]
      congr 1
      apply List.map_congr_left
      intro i _
      show D.int ((k : Int) + ((i + 1 : Nat) : Int)) = D.int (((k + 1 : Nat) : Int) + (i : Int))
      congr 1
      omega
theorem l_led {N : List St} {w : List Nat} {p : Nat} {fu : List (List Nat)} (hc : ∀ x ∈ N, Cl N.length x) (hN : N.length ≤ 1000000) (hl : w.length ≤ 100000) (hp : p ≤ w.length) (hfu : p < w.length → FuOk N w (p + 1) fu) :
    ∃ T, f_l_led [.lst (N.map sd), .str w, .int (p : Int), .lst (fu.map il)] = .ok (.lst (T.map il)) ∧ FuOk N w p T := by
  have hT0 : TOk N w p 0 (N.map fun _ => []) := ⟨by simp, fun x hx => by
    obtain ⟨_, _, rfl⟩ := List.mem_map.mp hx
    simp, fun s _ h => by omega⟩
  have e0 : (N.map fun _ => il []) = ((N.map fun _ => ([] : List Nat)).map il) := by rw [List.map_map]; rfl
  have hlc : lcF 5 tYes (mLst aNil) [some (.lst (N.map sd)), some (.str w), some (.int (p : Int)), some (.lst (fu.map il)), none, none, none, none] (N.map sd) [] = .ok ((N.map fun _ => ([] : List Nat)).map il, []) := by
    rw [← e0]
    exact lcF_idx _ _ _ fun x _ => ⟨by simp [il], by simp [il]⟩
  have hk := kR1_nat (j := N.length + 1) (s := []) (by omega)
  simp only [Int.natCast_add, Int.cast_ofNat_Int] at hk
  obtain ⟨o, S, hf, y, T, h1, h2, h3⟩ := led2_loop hc hN hl hp hfu (N.length + 1) 0 (N.map fun _ => []) (.lst ((N.map fun _ => ([] : List Nat)).map il)) [] none none none (by omega) hT0 (fun ds => rfl)
  have e1 : ((List.range (N.length + 1)).map fun i => D.int (((0 : Nat) : Int) + (i : Nat))) = rng 0 (N.length + 1) := rfl
  rw [e1] at hf
  have hfz := frz_rz h2
  refine ⟨T, ?_, h1⟩
  simp only [ldEnv] at hf h3
  generalize T.map il = TL at *
  generalize (N.map fun _ => ([] : List Nat)).map il = T0 at *
  generalize fu.map il = FL at *
  have hnl : (N.map sd).length = N.length := List.length_map ..
  generalize N.map sd = NL at *
  rcases h3 with rfl | ⟨z5, z6, z7, rfl⟩
  · simp [f_l_led, run_eq, b_l_led, hnl, show N.length ≤ 16777216 by omega, hlc, hk, hf, hfz, -frz]
  · simp [f_l_led, run_eq, b_l_led, hnl, show N.length ≤ 16777216 by omega, hlc, hk, hf, hfz, -frz]
end Mt
end
section
namespace Mt
open Mini Bd
theorem free_tb (m : Nat → List Nat) (n : Nat) : free (tb m n) = true := by
  unfold tb
  simp only [free]
  induction (List.range n) with
  | nil => rfl
  | cons y ys ih => rw [List.map_cons, freeL, ih]; simp [il, freeL_iD]
theorem lr_loop {N : List St} {w : List Nat} {n0 : Nat} {t : Tr} (h : NetFor w t n0 N) (hN : N.length ≤ 1000000) (hl : w.length ≤ 1000) (x0 x2 x4 : Option D) : ∀ (m k : Nat) (fu : List (List Nat)) (x7 x8 : Option D) (S : Sto), k + m = w.length + 1 → (0 < k → k ≤ w.length → FuOk N w (w.length - k + 1) fu) →
    ∃ x6 x7' x8', forF 7 c_l_led_right_1 (rng (k : Int) (w.length + 1 - k)) [x0, some (.str w), x2, some (netD (n0, N)), x4, some (tb (fun p => onc (LT w t p)) (w.length + 1)), some (.lst (fu.map il)), x7, x8] S =
      .ok (.nx [x0, some (.str w), x2, some (netD (n0, N)), x4, some (tb (fun p => onc (LT w t p)) (w.length + 1)), x6, x7', x8'], S)
  | 0, k, fu, x7, x8, S, hk, _ => ⟨_, x7, x8, by rw [show w.length + 1 - k = 0 by omega]; rfl⟩
  | m + 1, k, fu, x7, x8, S, hk, hfu => by
    have hkl : k ≤ w.length := by omega
    obtain ⟨T, hT, hTok⟩ := l_led (w := w) (p := w.length - k) (fu := fu) h.cl hN (by omega) (by omega) (fun h2 => hfu (by omega) hkl)
    obtain ⟨y6, y7, y8, ih⟩ := lr_loop h hN hl x0 x2 x4 m (k + 1) T (some (.int (k : Int))) (some (.int ((w.length - k : Nat) : Int))) S (by omega) (fun _ _ => by
      rw [show w.length - (k + 1) + 1 = w.length - k by omega]; exact hTok)
    refine ⟨y6, y7, y8, ?_⟩
    have hD := h.dv (w.length - k) (by omega)
    have hok := hTok.ok n0 hD
    rw [h.lf _ (by omega)] at hok
    have hI0 : ∀ S : Sto, opIx S (netD (n0, N)) (.int 0) = some (.int (n0 : Int)) := fun S => by simp [netD, pos]
    have hI1 : ∀ S : Sto, opIx S (netD (n0, N)) (.int 1) = some (.lst (N.map sd)) := fun S => by simp [netD, pos]
    have hrz : ∀ S : Sto, rz S (netD (n0, N)) = netD (n0, N) := fun S => rfl
    have hrzt : ∀ S : Sto, rz S (tb (fun p => onc (LT w t p)) (w.length + 1)) = tb (fun p => onc (LT w t p)) (w.length + 1) := fun S => rfl
    have k1 : ∀ S : Sto, opIx S (.lst (T.map il)) (.int (n0 : Int)) = some (il (onc (LT w t (w.length - k)))) := fun S => by
      rw [ill_ix S T n0 (by rw [hTok.len]; exact h.lt), List.getD_eq_getElem?_getD, hok]
      rfl
    have k2 := fun S => ix_tb S (fun p => onc (LT w t p)) (w.length + 1) (w.length - k) (by omega)
    have e1 : (w.length : Int) - (k : Int) = ((w.length - k : Nat) : Int) := by omega
    have hfl := freeL_sd N
    have hfu2 := ill_free fu
    have hp := plainL_iD (onc (LT w t (w.length - k)))
    have hdp := depL_iD (onc (LT w t (w.length - k)))
    have hdq := il_deq (onc (LT w t (w.length - k))) (onc (LT w t (w.length - k)))
    have hrzil : ∀ S : Sto, rz S (il (onc (LT w t (w.length - k)))) = il (onc (LT w t (w.length - k))) := fun S => rfl
    have hne : ∀ S : Sto, opNe S (il (onc (LT w t (w.length - k)))) (il (onc (LT w t (w.length - k)))) = some (.bl false) := fun S => by
      simp [opNe, il, hp, hdp, hdq]
    have hb : c_l_led_right_1 [x0, some (.str w), x2, some (netD (n0, N)), x4, some (tb (fun p => onc (LT w t p)) (w.length + 1)), some (.lst (fu.map il)), some (.int (k : Int)), x8] S = .ok (.nx [x0, some (.str w), x2, some (netD (n0, N)), x4, some (tb (fun p => onc (LT w t p)) (w.length + 1)), some (.lst (T.map il)), some (.int (k : Int)), some (.int ((w.length - k : Nat) : Int))], S) := by
      generalize il (onc (LT w t (w.length - k))) = IL at *
      generalize tb (fun p => onc (LT w t p)) (w.length + 1) = TB at *
      generalize netD (n0, N) = ND at *
      generalize N.map sd = NL at *
      generalize fu.map il = FL at *
      generalize T.map il = TL at *
      simp [c_l_led_right_1, show w.length ≤ 16777216 by omega, e1, hrz, hI1, hfl, hfu2, hT, hI0, k1, hrzt, k2, hrzil, hne, -opIx_lst, -opIx_tup, -opNe]
    have hrs : rng (k : Int) (w.length + 1 - k) = .int (k : Int) :: rng ((k + 1 : Nat) : Int) (w.length + 1 - (k + 1)) := by
      unfold rng
      rw [show w.length + 1 - k = (w.length + 1 - (k + 1)) + 1 by omega, List.range_succ_eq_map, List.map_cons, List.map_map]
      congr 1
      apply List.map_congr_left
      intro i _
      show D.int ((k : Int) + ((i + 1 : Nat) : Int)) = D.int (((k + 1 : Nat) : Int) + (i : Int))
      congr 1
      omega
    rw [hrs, forF]
    simp only [List.set, hb, R.bind_ok]
    exact ih
theorem led_right (t : Tr) (w : List Nat) (hw : wf t = true) (hh : hi t ≤ 100) (hs : sz t ≤ 100000) (hl : w.length ≤ 100) : f_l_led_right [td t, .str w, .int (sz t + 1)] = .ok (.bl true) := by
  have hlen := net_len hw
  have hno : f_p_net_of [td t] = .ok (netD ((netOf t).1, (netOf t).2)) := net_of t hh hw (by omega)
  have hnK := net_ofK t hh hw (by omega)
  have hnf := net_for hw w
  have hnr := l_net_right hnf.cl hnf.lt (by omega) (net_f0 t)
  rw [show ((netOf t).2.length : Int) = sz t + 1 by omega] at hnr
  have hle := l_ends_all w hl 200 t (by omega) hw 200 (Nat.le_refl _)
  obtain ⟨x6, x7, x8, hf⟩ := lr_loop hnf (by omega) (by omega) (some (td t)) (some (.int (sz t + 1))) (some (.tup [.int ((netOf t).1 : Int), .own 0])) (w.length + 1) 0 [] none none [.L []] (by omega) (fun h _ => by omega)
  have e0 : rng ((0 : Nat) : Int) (w.length + 1 - 0) = rng 0 (w.length + 1) := rfl
  rw [e0] at hf
  have hk := kR1_nat (j := w.length + 1) (s := [Ob.L []]) (by omega)
  simp only [Int.natCast_add, Int.cast_ofNat_Int] at hk
  obtain ⟨q1, q2, q3⟩ := plainL_sd (netOf t).2 hnf.zt
  have hfn : free (netD ((netOf t).1, (netOf t).2)) = true := by simp [netD, freeL_sd]
  have hf1 := free_td t
  have hrz : ∀ S : Sto, rz S (netD ((netOf t).1, (netOf t).2)) = netD ((netOf t).1, (netOf t).2) := fun S => rfl
  have hne : ∀ S : Sto, opNe S (netD ((netOf t).1, (netOf t).2)) (netD ((netOf t).1, (netOf t).2)) = some (.bl false) := fun S => by
    simp only [opNe, netD, eqB_tup]
    rw [if_pos ⟨by simp [q1], by simp [q1], by simp only [depL, dep]; omega, by simp only [depL, dep]; omega⟩]
    simp [deqL, deq, q3]
  simp only [List.map_nil] at hf
  generalize tb (fun p => onc (LT w t p)) (w.length + 1) = TB at *
  generalize netD ((netOf t).1, (netOf t).2) = ND at *
  generalize (netOf t).2.map sd = NL at *
  generalize (netOf t).1 = n0 at *
  simp [f_l_led_right, run_eq, b_l_led_right, hf1, hno, b_l_led_right_1, hfn, hnr, b_l_led_right_2, hnK, b_l_led_right_3, pos, b_l_led_right_4, hrz, hne, b_l_led_right_5, hle, b_l_led_right_6, b_l_led_right_7, show w.length ≤ 16777216 by omega, hk, hf, b_l_led_right_8, -opNe]
theorem cut_map {α β : Type} (f : α → β) (xs : List α) (lo hi : Option Int) : cut (xs.map f) lo hi = (cut xs lo hi).map f := by
  unfold cut; simp
theorem cut_to {α : Type} (xs : List α) (n : Nat) : (cut xs none (some (n : Int))).length ≤ n := by
  rw [cut_hi]; simp; omega
theorem l9 (x0 x1 x2 x3 x5 x8 x9 : Option D) (t : Tr) (w : List Nat) (hw : wf t = true) (hh : hi t ≤ 100) (hs : sz t ≤ 100000) (hl : w.length ≤ 100) :
    b_l_law_9 [x0, x1, x2, x3, some (.str w), x5, some (td t), some (.int (sz t + 1)), x8, x9] [] = .ok (.rt (.bl true), []) := by
  have h := led_right t w hw hh hs hl
  have hf1 := free_td t
  simp [b_l_law_9, hf1, h]
theorem l8 (ns : List Int) (x1 x2 x3 x8 : Option D) (t : Tr) (w : List Nat) (hw : wf t = true) (hh : hi t ≤ 100) (hs : sz t ≤ 100000) (hl : w.length ≤ 99) :
    b_l_law_8 [some (.scr ns), x1, x2, x3, some (.str w), some (.int (cellAt ns 1)), some (td t), some (.int (sz t + 1)), x8, none] [] = .ok (.rt (.bl true), []) := by
  have c2 := cell_i ns 2 2 rfl
  by_cases hA : cellAt ns 1 % 6 = 1
  · obtain ⟨m, hm⟩ := Int.eq_ofNat_of_zero_le (show 0 ≤ 8 + cellAt ns 2 % 60 by omega)
    obtain ⟨ps, p1, p2, p3, p4, p5, p6⟩ := pick_by (cellAt ns 1 / 6) m (by omega) (by omega)
    have z7 : small64 7 := by unfold small64; omega
    have z2 : small64 2 := by unfold small64; omega
    have hc := cut_to w 1
    have r := fun (u : List Nat) (hu : u.length ≤ 100) => l9 (some (.scr ns)) x1 x2 x3 (some (.int (cellAt ns 1))) x8 (some (.int (m : Int))) (.pick ps) u p2 (by omega) (by omega) hu
    rw [p6] at r
    have e : 2 * (m : Int) + 1 + ((m : Int) + 1) / 3 + 1 = 2 * (m : Int) + 2 + ((m : Int) + 1) / 3 := by omega
    rw [e] at r
    have hr := r (sg (cellAt ns 1 / 6 + 7 * (cellAt ns 2 / 60 % (m : Int))) :: cut w none (some ((1 : Nat) : Int))) (by rw [List.length_cons]; omega)
    have hcl : 1 + (cut w none (some ((1 : Nat) : Int))).length ≤ 16777216 := by omega
    simp only [Int.cast_ofNat_Int] at hr hcl
    generalize td (.pick ps) = U at *
    simp [b_l_law_8, hA, c2, hm, p1, show 0 < m by omega, z7, z2, sign_by, show w.length ≤ 16777216 by omega, hcl, hr]
  · have r := l9 (some (.scr ns)) x1 x2 x3 (some (.int (cellAt ns 1))) x8 none t w hw hh hs (by omega)
    simp [b_l_law_8, hA, r]
theorem main (ns : List Int) (h63 : ns.length ≤ 63) : f_l_law [.scr ns] = .ok (.bl true) := by
  have c0 := cell_i ns 0 0 rfl
  have c1 := cell_i ns 1 1 rfl
  have c2 := cell_i ns 2 2 rfl
  have hz := three_is (cellAt ns 0)
  have h3 := three_by (cellAt ns 0)
  generalize [sg (cellAt ns 0), sg (cellAt ns 0 + 31), sg (cellAt ns 0 + 62)] = z at hz h3
  obtain ⟨H, hH⟩ : ∃ H : Nat, H = 2 + ns.length / 2 := ⟨_, rfl⟩
  have hH2 : (2 : Int) + (ns.length : Int) / 2 = (H : Int) := by omega
  have t1 := cut_to (cut ns (some 3) (some (H : Int))) 8
  have t2 := cut_to (cut ns (some (H : Int)) none) 5
  have t3 := cut_to (cut ns (some 3) (some (H : Int))) 2
  obtain ⟨w, g1, g2, _⟩ := text_by (cut (cut ns (some (H : Int)) none) none (some (5 : Nat))) _ hz (by omega)
  obtain ⟨t, h4, h5, h6, h7, _⟩ := tree_by (cut (cut ns (some 3) (some (H : Int))) none (some (8 : Nat))) z hz (by omega)
  obtain ⟨t', k4, k5, k6, k7, _⟩ := tree_by (cut (cut ns (some 3) (some (H : Int))) none (some (2 : Nat))) z hz (by omega)
  have hst : sz t ≤ 64 := by omega
  have hst' : sz t' ≤ 16 := by omega
  have hwl : w.length ≤ 5 := by omega
  rw [← cut_map] at h4 k4 g1
  simp only [Int.cast_ofNat_Int] at h4 k4 g1
  unfold entD at h4 k4
  by_cases hA : cellAt ns 1 % 6 = 3
  · obtain ⟨m, hm⟩ := Int.eq_ofNat_of_zero_le (show 0 ≤ 30 + cellAt ns 2 % 40 by omega)
    have hm2 : m ≤ 69 := by omega
    obtain ⟨e', s', hf, rfl, u, q, rfl, j2, j3, j4⟩ := forF_inv (i := 8) (b := c_l_law_1)
      (fun j e s => s = [] ∧ ∃ u q, e = [some (.scr ns), some (.str z), some (.int (H : Int)), some (.tup [td t', .bl (bare t'), .int (sz t'), .int (hi t')]), some (.str w), some (.int (cellAt ns 1)), some (td u), some (.int (sz u + 1)), q, none] ∧ wf u = true ∧ hi u ≤ 13 + j ∧ sz u ≤ 16 + j)
      (rng 0 m) 0 [some (.scr ns), some (.str z), some (.int (H : Int)), some (.tup [td t', .bl (bare t'), .int (sz t'), .int (hi t')]), some (.str w), some (.int (cellAt ns 1)), some (td t'), some (.int (sz t' + 1)), none, none] [] ⟨rfl, t', none, rfl, k5, by omega, by omega⟩ (fun k e s d hi' hd => by
        obtain ⟨rfl, u, q, rfl, j2, j3, j5⟩ := hi'
        obtain ⟨j4, rfl⟩ := rng_at hd
        simp only [Nat.zero_add, Int.zero_add] at *
        have hb : ∃ g : Bool, (mOr (mOp opGt (mOp opMod (mOp opDiv (mV 5) (mC (.int 6))) (mC (.int 3))) (mC (.int 0))) (mOp opEq (mOp opMod (mV 8) (mC (.int 9))) (mC (.int 4)))) [some (.scr ns), some (.str z), some (.int (H : Int)), some (.tup [td t', .bl (bare t'), .int (sz t'), .int (hi t')]), some (.str w), some (.int (cellAt ns 1)), some (td u), some (.int (sz u + 1)), some (.int (k : Int)), none] [] = .ok (.bl g, []) := by
          by_cases hq : 0 < cellAt ns 1 / 6 % 3
          · exact ⟨true, by simp [hq]⟩
          · exact ⟨decide ((k : Int) % 9 = 4), by simp [hq]⟩
        obtain ⟨g, hb⟩ := hb
        refine ⟨_, _, .inl ?_, rfl, Tr.maybe u g, some (.int (k : Int)), rfl, by rw [wf, j2], by rw [hi]; omega, by rw [sz]; omega⟩
        rw [td_maybe, sz]
        generalize hT : (D.tup [td t', .bl (bare t'), .int (sz t'), .int (hi t')]) = TT at *
        simp [c_l_law_1, hb, -mOr_eq])
    rw [rng_len, Nat.zero_add] at j3 j4
    have hcw := cut_to w 2
    have r := fun x8 => l8 ns (some (.str z)) (some (.int (H : Int))) (some (.tup [td t', .bl (bare t'), .int (sz t'), .int (hi t')])) x8 u (cut w none (some ((2 : Nat) : Int))) j2 (by omega) (by omega) (by omega)
    simp only [Int.cast_ofNat_Int] at r
    simp [f_l_law, run_eq, b_l_law, c0, h3, b_l_law_1, hH2, b_l_law_2, h4, b_l_law_3, g1, b_l_law_4, c1, b_l_law_5, pos, b_l_law_6, b_l_law_7, hA, k4, c2, hm, show (m : Int) < 4611686018427387904 by omega, hf, show w.length ≤ 16777216 by omega, r]
  · have r := fun x8 => l8 ns (some (.str z)) (some (.int (H : Int))) (some (.tup [td t, .bl (bare t), .int (sz t), .int (hi t)])) x8 t w h5 (by omega) (by omega) (by omega)
    simp [f_l_law, run_eq, b_l_law, c0, h3, b_l_law_1, hH2, b_l_law_2, h4, b_l_law_3, g1, b_l_law_4, c1, b_l_law_5, pos, b_l_law_6, b_l_law_7, hA, r]
end Mt
end
section
namespace Wk
open PySem L2 Snd
open PyProof.Rows (envOfC)
open Bd Mini
def topS (i : Nat) : Stmt := PySem.Challenge.pw_patternback_k07_nets.main.body.getD i (.Pass ⟨0, 0, 0, 0⟩)
abbrev cx : Nat → Addr := fun _ => 0
abbrev s_p_parted : Stmt := topS 1
abbrev s_p_picked : Stmt := topS 2
abbrev s_p_built : Stmt := topS 3
abbrev s_p_net_of : Stmt := topS 4
abbrev s_l_cell_at : Stmt := topS 6
abbrev s_l_sign_by : Stmt := topS 7
abbrev s_l_three_by : Stmt := topS 8
abbrev s_l_whole : Stmt := topS 9
abbrev s_l_take_by : Stmt := topS 10
abbrev s_l_joined_by : Stmt := topS 11
abbrev s_l_put_by : Stmt := topS 12
abbrev s_l_tree_by : Stmt := topS 13
abbrev s_l_text_by : Stmt := topS 14
abbrev s_l_once : Stmt := topS 15
abbrev s_l_behind : Stmt := topS 16
abbrev s_l_taken : Stmt := topS 17
abbrev s_l_repeated : Stmt := topS 18
abbrev s_l_ends : Stmt := topS 19
abbrev s_l_step_right : Stmt := topS 20
abbrev s_l_net_right : Stmt := topS 21
abbrev s_l_led : Stmt := topS 22
abbrev s_l_pick_by : Stmt := topS 23
abbrev s_l_led_right : Stmt := topS 24
abbrev s_l_law : Stmt := topS 25
theorem sc_p_parted : FnScope ["entry", "then", "eager"] ["entry", "then", "eager"] (defScope s_p_parted) := ⟨rfl, rfl, rfl, by decide +kernel, rfl, by decide +kernel, by decide +kernel⟩
theorem sc_p_picked : FnScope ["parts", "then", "steps", "entries", "part", "here", "entry"] ["parts", "then", "steps"] (defScope s_p_picked) := ⟨rfl, rfl, rfl, by decide +kernel, rfl, by decide +kernel, by decide +kernel⟩
theorem sc_p_built : FnScope ["tree", "then", "steps", "part", "here"] ["tree", "then", "steps"] (defScope s_p_built) := ⟨rfl, rfl, rfl, by decide +kernel, rfl, by decide +kernel, by decide +kernel⟩
theorem sc_p_net_of : FnScope ["tree", "steps", "start"] ["tree"] (defScope s_p_net_of) := ⟨rfl, rfl, rfl, by decide +kernel, rfl, by decide +kernel, by decide +kernel⟩
theorem sc_l_cell_at : FnScope ["_law_script", "_law_k"] ["_law_script", "_law_k"] (defScope s_l_cell_at) := ⟨rfl, rfl, rfl, by decide +kernel, rfl, by decide +kernel, by decide +kernel⟩
theorem sc_l_sign_by : FnScope ["_law_cell", "_law_some"] ["_law_cell"] (defScope s_l_sign_by) := ⟨rfl, rfl, rfl, by decide +kernel, rfl, by decide +kernel, by decide +kernel⟩
theorem sc_l_three_by : FnScope ["_law_cell"] ["_law_cell"] (defScope s_l_three_by) := ⟨rfl, rfl, rfl, by decide +kernel, rfl, by decide +kernel, by decide +kernel⟩
theorem sc_l_whole : FnScope ["_law_found"] ["_law_found"] (defScope s_l_whole) := ⟨rfl, rfl, rfl, by decide +kernel, rfl, by decide +kernel, by decide +kernel⟩
theorem sc_l_take_by : FnScope ["_law_cell", "_law_three", "_law_way", "_law_some", "_law_many", "_law_k"] ["_law_cell", "_law_three"] (defScope s_l_take_by) := ⟨rfl, rfl, rfl, by decide +kernel, rfl, by decide +kernel, by decide +kernel⟩
theorem sc_l_joined_by : FnScope ["_law_way", "_law_stack", "_law_many", "_law_parts", "_law_kept", "_law_tree", "_law_part", "_law_is_bare", "_law_count", "_law_deep"] ["_law_way", "_law_stack", "_law_many"] (defScope s_l_joined_by) := ⟨rfl, rfl, rfl, by decide +kernel, rfl, by decide +kernel, by decide +kernel⟩
theorem sc_l_put_by : FnScope ["_law_stack", "_law_cell", "_law_three", "_law_way", "_law_rest", "_law_high", "_law_last", "_law_many", "_law_part"] ["_law_stack", "_law_cell", "_law_three"] (defScope s_l_put_by) := ⟨rfl, rfl, rfl, by decide +kernel, rfl, by decide +kernel, by decide +kernel⟩
theorem sc_l_tree_by : FnScope ["_law_cells", "_law_three", "_law_stack", "_law_cell"] ["_law_cells", "_law_three"] (defScope s_l_tree_by) := ⟨rfl, rfl, rfl, by decide +kernel, rfl, by decide +kernel, by decide +kernel⟩
theorem sc_l_text_by : FnScope ["_law_cells", "_law_three", "_law_some", "_law_cell", "_law_sign"] ["_law_cells", "_law_three"] (defScope s_l_text_by) := ⟨rfl, rfl, rfl, by decide +kernel, rfl, by decide +kernel, by decide +kernel⟩
theorem sc_l_once : FnScope ["_law_ends_here", "_law_kept", "_law_end"] ["_law_ends_here"] (defScope s_l_once) := ⟨rfl, rfl, rfl, by decide +kernel, rfl, by decide +kernel, by decide +kernel⟩
theorem sc_l_behind : FnScope ["_law_ends_here", "_law_more", "_law_far", "_law_end"] ["_law_ends_here", "_law_more"] (defScope s_l_behind) := ⟨rfl, rfl, rfl, by decide +kernel, rfl, by decide +kernel, by decide +kernel⟩
theorem sc_l_taken : FnScope ["_law_tree", "_law_signs", "_law_at"] ["_law_tree", "_law_signs", "_law_at"] (defScope s_l_taken) := ⟨rfl, rfl, rfl, by decide +kernel, rfl, by decide +kernel, by decide +kernel⟩
theorem sc_l_repeated : FnScope ["_law_tree", "_law_more", "_law_ends_here", "_law_k", "_law_at", "_law_far"] ["_law_tree", "_law_more"] (defScope s_l_repeated) := ⟨rfl, rfl, rfl, by decide +kernel, rfl, by decide +kernel, by decide +kernel⟩
theorem sc_l_ends : FnScope ["_law_tree", "_law_signs", "_law_places", "_law_at", "_law_ends_here", "_law_part", "_law_more"] ["_law_tree", "_law_signs"] (defScope s_l_ends) := ⟨rfl, rfl, rfl, by decide +kernel, rfl, by decide +kernel, by decide +kernel⟩
theorem sc_l_step_right : FnScope ["_law_step", "_law_many", "_law_numbers", "_law_number"] ["_law_step", "_law_many"] (defScope s_l_step_right) := ⟨rfl, rfl, rfl, by decide +kernel, rfl, by decide +kernel, by decide +kernel⟩
theorem sc_l_net_right : FnScope ["_law_net", "_law_many", "_law_step"] ["_law_net", "_law_many"] (defScope s_l_net_right) := ⟨rfl, rfl, rfl, by decide +kernel, rfl, by decide +kernel, by decide +kernel⟩
theorem sc_l_led : FnScope ["_law_steps", "_law_signs", "_law_at", "_law_further", "_law_told", "_law_step", "_law_turn", "_law_more"] ["_law_steps", "_law_signs", "_law_at", "_law_further"] (defScope s_l_led) := ⟨rfl, rfl, rfl, by decide +kernel, rfl, by decide +kernel, by decide +kernel⟩
theorem sc_l_pick_by : FnScope ["_law_cell", "_law_many", "_law_parts", "_law_k", "_law_one", "_law_some"] ["_law_cell", "_law_many"] (defScope s_l_pick_by) := ⟨rfl, rfl, rfl, by decide +kernel, rfl, by decide +kernel, by decide +kernel⟩
theorem sc_l_led_right : FnScope ["_law_tree", "_law_signs", "_law_many", "_law_net", "_law_other", "_law_due", "_law_further", "_law_k", "_law_at"] ["_law_tree", "_law_signs", "_law_many"] (defScope s_l_led_right) := ⟨rfl, rfl, rfl, by decide +kernel, rfl, by decide +kernel, by decide +kernel⟩
theorem sc_l_law : FnScope ["_law_script", "_law_three", "_law_half", "_law_made", "_law_signs", "_law_cell", "_law_tree", "_law_many", "_law_k", "_law_some"] ["_law_script"] (defScope s_l_law) := ⟨rfl, rfl, rfl, by decide +kernel, rfl, by decide +kernel, by decide +kernel⟩
structure Tx (K : PySem.W.Frag) (mg : Str → Option Value) where
  a_p_parted : Addr
  d_p_parted : FuncData
  a_p_picked : Addr
  d_p_picked : FuncData
  a_p_built : Addr
  d_p_built : FuncData
  a_p_net_of : Addr
  d_p_net_of : FuncData
  a_l_cell_at : Addr
  d_l_cell_at : FuncData
  a_l_sign_by : Addr
  d_l_sign_by : FuncData
  a_l_three_by : Addr
  d_l_three_by : FuncData
  a_l_whole : Addr
  d_l_whole : FuncData
  a_l_take_by : Addr
  d_l_take_by : FuncData
  a_l_joined_by : Addr
  d_l_joined_by : FuncData
  a_l_put_by : Addr
  d_l_put_by : FuncData
  a_l_tree_by : Addr
  d_l_tree_by : FuncData
  a_l_text_by : Addr
  d_l_text_by : FuncData
  a_l_once : Addr
  d_l_once : FuncData
  a_l_behind : Addr
  d_l_behind : FuncData
  a_l_taken : Addr
  d_l_taken : FuncData
  a_l_repeated : Addr
  d_l_repeated : FuncData
  a_l_ends : Addr
  d_l_ends : FuncData
  a_l_step_right : Addr
  d_l_step_right : FuncData
  a_l_net_right : Addr
  d_l_net_right : FuncData
  a_l_led : Addr
  d_l_led : FuncData
  a_l_pick_by : Addr
  d_l_pick_by : FuncData
  a_l_led_right : Addr
  d_l_led_right : FuncData
  a_l_law : Addr
  d_l_law : FuncData
  F_p_parted : Fun K "parted" "parted" s_p_parted a_p_parted d_p_parted
  m_p_parted : mg "parted" = some (.ref a_p_parted)
  b_p_parted : Binds K d_p_parted ["entry", "then", "eager"] []
  F_p_picked : Fun K "picked" "picked" s_p_picked a_p_picked d_p_picked
  m_p_picked : mg "picked" = some (.ref a_p_picked)
  b_p_picked : Binds K d_p_picked ["parts", "then", "steps"] []
  F_p_built : Fun K "built" "built" s_p_built a_p_built d_p_built
  m_p_built : mg "built" = some (.ref a_p_built)
  b_p_built : Binds K d_p_built ["tree", "then", "steps"] []
  F_p_net_of : Fun K "net_of" "net_of" s_p_net_of a_p_net_of d_p_net_of
  m_p_net_of : mg "net_of" = some (.ref a_p_net_of)
  b_p_net_of : Binds K d_p_net_of ["tree"] []
  F_l_cell_at : Fun K "_law_cell_at" "_law_cell_at" s_l_cell_at a_l_cell_at d_l_cell_at
  m_l_cell_at : mg "_law_cell_at" = some (.ref a_l_cell_at)
  b_l_cell_at : Binds K d_l_cell_at ["_law_script", "_law_k"] []
  F_l_sign_by : Fun K "_law_sign_by" "_law_sign_by" s_l_sign_by a_l_sign_by d_l_sign_by
  m_l_sign_by : mg "_law_sign_by" = some (.ref a_l_sign_by)
  b_l_sign_by : Binds K d_l_sign_by ["_law_cell"] []
  F_l_three_by : Fun K "_law_three_by" "_law_three_by" s_l_three_by a_l_three_by d_l_three_by
  m_l_three_by : mg "_law_three_by" = some (.ref a_l_three_by)
  b_l_three_by : Binds K d_l_three_by ["_law_cell"] []
  F_l_whole : Fun K "_law_whole" "_law_whole" s_l_whole a_l_whole d_l_whole
  m_l_whole : mg "_law_whole" = some (.ref a_l_whole)
  b_l_whole : Binds K d_l_whole ["_law_found"] []
  F_l_take_by : Fun K "_law_take_by" "_law_take_by" s_l_take_by a_l_take_by d_l_take_by
  m_l_take_by : mg "_law_take_by" = some (.ref a_l_take_by)
  b_l_take_by : Binds K d_l_take_by ["_law_cell", "_law_three"] []
  F_l_joined_by : Fun K "_law_joined_by" "_law_joined_by" s_l_joined_by a_l_joined_by d_l_joined_by
  m_l_joined_by : mg "_law_joined_by" = some (.ref a_l_joined_by)
  b_l_joined_by : Binds K d_l_joined_by ["_law_way", "_law_stack", "_law_many"] []
  F_l_put_by : Fun K "_law_put_by" "_law_put_by" s_l_put_by a_l_put_by d_l_put_by
  m_l_put_by : mg "_law_put_by" = some (.ref a_l_put_by)
  b_l_put_by : Binds K d_l_put_by ["_law_stack", "_law_cell", "_law_three"] []
  F_l_tree_by : Fun K "_law_tree_by" "_law_tree_by" s_l_tree_by a_l_tree_by d_l_tree_by
  m_l_tree_by : mg "_law_tree_by" = some (.ref a_l_tree_by)
  b_l_tree_by : Binds K d_l_tree_by ["_law_cells", "_law_three"] []
  F_l_text_by : Fun K "_law_text_by" "_law_text_by" s_l_text_by a_l_text_by d_l_text_by
  m_l_text_by : mg "_law_text_by" = some (.ref a_l_text_by)
  b_l_text_by : Binds K d_l_text_by ["_law_cells", "_law_three"] []
  F_l_once : Fun K "_law_once" "_law_once" s_l_once a_l_once d_l_once
  m_l_once : mg "_law_once" = some (.ref a_l_once)
  b_l_once : Binds K d_l_once ["_law_ends_here"] []
  F_l_behind : Fun K "_law_behind" "_law_behind" s_l_behind a_l_behind d_l_behind
  m_l_behind : mg "_law_behind" = some (.ref a_l_behind)
  b_l_behind : Binds K d_l_behind ["_law_ends_here", "_law_more"] []
  F_l_taken : Fun K "_law_taken" "_law_taken" s_l_taken a_l_taken d_l_taken
  m_l_taken : mg "_law_taken" = some (.ref a_l_taken)
  b_l_taken : Binds K d_l_taken ["_law_tree", "_law_signs", "_law_at"] []
  F_l_repeated : Fun K "_law_repeated" "_law_repeated" s_l_repeated a_l_repeated d_l_repeated
  m_l_repeated : mg "_law_repeated" = some (.ref a_l_repeated)
  b_l_repeated : Binds K d_l_repeated ["_law_tree", "_law_more"] []
  F_l_ends : Fun K "_law_ends" "_law_ends" s_l_ends a_l_ends d_l_ends
  m_l_ends : mg "_law_ends" = some (.ref a_l_ends)
  b_l_ends : Binds K d_l_ends ["_law_tree", "_law_signs"] []
  F_l_step_right : Fun K "_law_step_right" "_law_step_right" s_l_step_right a_l_step_right d_l_step_right
  m_l_step_right : mg "_law_step_right" = some (.ref a_l_step_right)
  b_l_step_right : Binds K d_l_step_right ["_law_step", "_law_many"] []
  F_l_net_right : Fun K "_law_net_right" "_law_net_right" s_l_net_right a_l_net_right d_l_net_right
  m_l_net_right : mg "_law_net_right" = some (.ref a_l_net_right)
  b_l_net_right : Binds K d_l_net_right ["_law_net", "_law_many"] []
  F_l_led : Fun K "_law_led" "_law_led" s_l_led a_l_led d_l_led
  m_l_led : mg "_law_led" = some (.ref a_l_led)
  b_l_led : Binds K d_l_led ["_law_steps", "_law_signs", "_law_at", "_law_further"] []
  F_l_pick_by : Fun K "_law_pick_by" "_law_pick_by" s_l_pick_by a_l_pick_by d_l_pick_by
  m_l_pick_by : mg "_law_pick_by" = some (.ref a_l_pick_by)
  b_l_pick_by : Binds K d_l_pick_by ["_law_cell", "_law_many"] []
  F_l_led_right : Fun K "_law_led_right" "_law_led_right" s_l_led_right a_l_led_right d_l_led_right
  m_l_led_right : mg "_law_led_right" = some (.ref a_l_led_right)
  b_l_led_right : Binds K d_l_led_right ["_law_tree", "_law_signs", "_law_many"] []
  F_l_law : Fun K "law" "law" s_l_law a_l_law d_l_law
  m_l_law : mg "law" = some (.ref a_l_law)
  b_l_law : Binds K d_l_law ["_law_script"] []
  n_all : mg "all" = none
  n_any : mg "any" = none
  n_bool : mg "bool" = none
  n_int : mg "int" = none
  n_isinstance : mg "isinstance" = none
  n_len : mg "len" = none
  n_list : mg "list" = none
  n_max : mg "max" = none
  n_min : mg "min" = none
  n_range : mg "range" = none
  n_reversed : mg "reversed" = none
  n_str : mg "str" = none
  n_sum : mg "sum" = none
  n_tuple : mg "tuple" = none
section
variable {P : Program} {w : World} {K : PySem.W.Frag} {mg : Str → Option Value} {base : Heap}
theorem ok_p_parted (T : Tx K mg) : FnOk P w K mg base CX0 1 T.a_p_parted T.d_p_parted ["entry", "then", "eager"] (spP K cx 3 f_p_parted) :=
  fn_P (C := cx) (N := ["entry", "then", "eager"]) (ps := ["entry", "then", "eager"]) (k := 0) (m := b_p_parted) T.F_p_parted sc_p_parted fun cdv A outer s H E hr => by
    have hu := hr.units
    exact (ss_cons (sm_if (tm_truth (pm_v (pv 2))) (ss_one (sm_ret (pm_tup (am_cons pm_str (am_cons (pm_v (pv 0)) (am_cons (pm_v (pv 1)) am_nil)))))) ss_nil)
    (ss_one (sm_ret (pm_tup (am_cons pm_str (am_cons (pm_v (pv 1)) (am_cons (pm_v (pv 0)) am_nil)))))))
theorem st_p_picked (T : Tx K mg) {n : Nat} {r_p_built : F} (G_p_built : FnOk P w K mg base CX0 (1 + n) T.a_p_built T.d_p_built ["tree", "then", "steps"] (spG K cx 3 r_p_built)) : FnOk P w K mg base CX0 (1 + n + 1) T.a_p_picked T.d_p_picked ["parts", "then", "steps"] (spG K cx 3 fun ds s => (runG 7 (b_p_picked r_p_built) ds s).nox) :=
  fn_G (C := cx) (N := ["parts", "then", "steps", "entries", "part", "here", "entry"]) (ps := ["parts", "then", "steps"]) (k := 1 + n) (m := b_p_picked r_p_built) T.F_p_picked sc_p_picked fun cdv A outer s H E hr => by
    have hu := hr.units
    exact (ss_cons (sm_setLc (x := "part") (j := 3) rfl rfl (sw_true rfl rfl rfl (by decide +kernel)) rfl (sc_p_picked).nd (im_seq (pm_v (pv 0))) (blkOk_by (N := ["parts", "then", "steps", "entries", "part", "here", "entry"]) (sc := defScope s_p_picked) (by decide +kernel)) (fun _ _ _ _ _ => pg_name (i := 4) (sc_p_picked).nd rfl (Or.inl rfl)) (fun _ _ _ _ _ => sts_nil) (fun _ _ _ _ _ => (pm_callG (C := cx) G_p_built hr (by rfl) T.m_p_built T.F_p_built.kp T.b_p_built pass0 (fun _ _ _ z => z.elim) (am_cons (pm_v (pv 4)) (am_cons (pm_v (pv 1)) (am_cons (pm_v (pv 2)) am_nil))) (alen_cons (alen_cons (alen_cons alen_nil))))))
    (ss_cons (sm_set (i := 5) (sc_p_picked).nd rfl (.inl rfl) (pm_ix (pm_v (pv 3)) (pm_neg pm_int)))
    (ss_cons (sm_for PassesOwn.never rfl (im_rev (by rfl) T.n_reversed (pm_sl (pm_v (pv 3)) om_n (om_s (pm_neg pm_int)))) (pg_name (i := 6) (sc_p_picked).nd rfl (.inl rfl)) (ss_cons (sm_ex (pm_app (pm_v (pv 2)) (pm_tup (am_cons pm_str (am_cons (pm_v (pv 6)) (am_cons (pm_v (pv 5)) am_nil))))))
    (ss_one (sm_set (i := 5) (sc_p_picked).nd rfl (.inl rfl) (pm_op sem_sub (pm_b1 sem_len (by rfl) T.n_len (by decide +kernel) (pm_v (pv 2))) pm_int)))))
    (ss_one (sm_ret (pm_v (pv 5)))))))
theorem st_p_built (T : Tx K mg) {n : Nat} {r_p_picked : F} {r_p_built : F} (G_p_picked : FnOk P w K mg base CX0 (1 + n) T.a_p_picked T.d_p_picked ["parts", "then", "steps"] (spG K cx 3 r_p_picked)) (G_p_built : FnOk P w K mg base CX0 (1 + n) T.a_p_built T.d_p_built ["tree", "then", "steps"] (spG K cx 3 r_p_built)) : FnOk P w K mg base CX0 (1 + n + 1) T.a_p_built T.d_p_built ["tree", "then", "steps"] (spG K cx 3 fun ds s => (runG 5 (b_p_built r_p_picked r_p_built) ds s).nox) :=
  fn_G (C := cx) (N := ["tree", "then", "steps", "part", "here"]) (ps := ["tree", "then", "steps"]) (k := 1 + n) (m := b_p_built r_p_picked r_p_built) T.F_p_built sc_p_built fun cdv A outer s H E hr => by
    have hu := hr.units
    exact (ss_cons (sm_if (tm_cmp (sem_eq hu) (pm_ix (pm_v (pv 0)) pm_int) pm_str (nomark _)) (ss_cons (sm_ex (pm_app (pm_v (pv 2)) (pm_tup (am_cons pm_str (am_cons (pm_ix (pm_v (pv 0)) pm_int) (am_cons (pm_ix (pm_v (pv 0)) pm_int) (am_cons (pm_v (pv 1)) am_nil)))))))
    (ss_one (sm_ret (pm_op sem_sub (pm_b1 sem_len (by rfl) T.n_len (by decide +kernel) (pm_v (pv 2))) pm_int)))) ss_nil)
    (ss_cons (sm_if (tm_cmp (sem_eq hu) (pm_ix (pm_v (pv 0)) pm_int) pm_str (nomark _)) (ss_cons (sm_for PassesOwn.never rfl (im_rev (by rfl) T.n_reversed (pm_ix (pm_v (pv 0)) pm_int)) (pg_name (i := 3) (sc_p_built).nd rfl (.inl rfl)) (ss_one (sm_set (i := 1) (sc_p_built).nd rfl (.inl rfl) (pm_callG (C := cx) G_p_built hr (by rfl) T.m_p_built T.F_p_built.kp T.b_p_built pass0 (fun _ _ _ z => z.elim) (am_cons (pm_v (pv 3)) (am_cons (pm_v (pv 1)) (am_cons (pm_v (pv 2)) am_nil))) (alen_cons (alen_cons (alen_cons alen_nil)))))))
    (ss_one (sm_ret (pm_v (pv 1))))) ss_nil)
    (ss_cons (sm_if (tm_cmp (sem_eq hu) (pm_ix (pm_v (pv 0)) pm_int) pm_str (nomark _)) (ss_one (sm_ret (pm_callG (C := cx) G_p_picked hr (by rfl) T.m_p_picked T.F_p_picked.kp T.b_p_picked pass0 (fun _ _ _ z => z.elim) (am_cons (pm_ix (pm_v (pv 0)) pm_int) (am_cons (pm_v (pv 1)) (am_cons (pm_v (pv 2)) am_nil))) (alen_cons (alen_cons (alen_cons alen_nil)))))) ss_nil)
    (ss_cons (sm_set (i := 4) (sc_p_built).nd rfl (.inl rfl) (pm_b1 sem_len (by rfl) T.n_len (by decide +kernel) (pm_v (pv 2))))
    (ss_cons (sm_ex (pm_app (pm_v (pv 2)) pm_non))
    (ss_cons (sm_if (tm_cmp (sem_eq hu) (pm_ix (pm_v (pv 0)) pm_int) pm_str (nomark _)) (ss_one (sm_put hu (pm_v (pv 2)) (pm_v (pv 4)) (pm_call (C := cx) (ok_p_parted T) (hr.mono (by omega)) (by rfl) T.m_p_parted T.F_p_parted.kp T.b_p_parted pass0 (fun _ _ _ z => z.elim) (am_cons (pm_callG (C := cx) G_p_built hr (by rfl) T.m_p_built T.F_p_built.kp T.b_p_built pass0 (fun _ _ _ z => z.elim) (am_cons (pm_ix (pm_v (pv 0)) pm_int) (am_cons (pm_v (pv 4)) (am_cons (pm_v (pv 2)) am_nil))) (alen_cons (alen_cons (alen_cons alen_nil)))) (am_cons (pm_v (pv 1)) (am_cons (pm_ix (pm_v (pv 0)) pm_int) am_nil))) (alen_cons (alen_cons (alen_cons alen_nil)))))) (ss_one (sm_put hu (pm_v (pv 2)) (pm_v (pv 4)) (pm_call (C := cx) (ok_p_parted T) (hr.mono (by omega)) (by rfl) T.m_p_parted T.F_p_parted.kp T.b_p_parted pass0 (fun _ _ _ z => z.elim) (am_cons (pm_callG (C := cx) G_p_built hr (by rfl) T.m_p_built T.F_p_built.kp T.b_p_built pass0 (fun _ _ _ z => z.elim) (am_cons (pm_ix (pm_v (pv 0)) pm_int) (am_cons (pm_v (pv 1)) (am_cons (pm_v (pv 2)) am_nil))) (alen_cons (alen_cons (alen_cons alen_nil)))) (am_cons (pm_v (pv 1)) (am_cons (pm_ix (pm_v (pv 0)) pm_int) am_nil))) (alen_cons (alen_cons (alen_cons alen_nil)))))))
    (ss_one (sm_ret (pm_v (pv 4))))))))))
theorem all_p_picked (T : Tx K mg) (n : Nat) : FnOk P w K mg base CX0 (1 + n) T.a_p_picked T.d_p_picked ["parts", "then", "steps"] (spG K cx 3 (f_p_picked n)) ∧ FnOk P w K mg base CX0 (1 + n) T.a_p_built T.d_p_built ["tree", "then", "steps"] (spG K cx 3 (f_p_built n)) := by
  induction n with
  | zero => exact ⟨fn_noneG (C := cx) (φ := f_p_picked 0) (fun _ _ => by rw [f_p_picked]), fn_noneG (C := cx) (φ := f_p_built 0) (fun _ _ => by rw [f_p_built])⟩
  | succ n ih => exact ⟨by rw [f_p_picked]; exact st_p_picked T ih.2, by rw [f_p_built]; exact st_p_built T ih.1 ih.2⟩
theorem ok_p_picked (T : Tx K mg) (n : Nat) : FnOk P w K mg base CX0 (1 + n) T.a_p_picked T.d_p_picked ["parts", "then", "steps"] (spG K cx 3 (f_p_picked n)) := (all_p_picked T n).1
theorem ok_p_built (T : Tx K mg) (n : Nat) : FnOk P w K mg base CX0 (1 + n) T.a_p_built T.d_p_built ["tree", "then", "steps"] (spG K cx 3 (f_p_built n)) := (all_p_picked T n).2
theorem ok_p_net_of (T : Tx K mg) : FnOk P w K mg base CX0 202 T.a_p_net_of T.d_p_net_of ["tree"] (spP K cx 1 f_p_net_of) :=
  fn_P (C := cx) (N := ["tree", "steps", "start"]) (ps := ["tree"]) (k := 201) (m := b_p_net_of) T.F_p_net_of sc_p_net_of fun cdv A outer s H E hr => by
    have hu := hr.units
    exact (ss_cons (sm_ownL (i := 1) (sc_p_net_of).nd rfl (.inl rfl) (am_cons (pm_tup (am_cons pm_str am_nil)) am_nil))
    (ss_cons (sm_set (i := 2) (sc_p_net_of).nd rfl (.inl rfl) (pm_callG (C := cx) (ok_p_built T 200) (hr.mono (by decide)) (by rfl) T.m_p_built T.F_p_built.kp T.b_p_built pass0 (fun _ _ _ z => z.elim) (am_cons (pm_v (pv 0)) (am_cons pm_int (am_cons (pm_v (pv 1)) am_nil))) (alen_cons (alen_cons (alen_cons alen_nil)))))
    (ss_one (sm_ret (pm_tup (am_cons (pm_v (pv 2)) (am_cons (pm_v (pv 1)) am_nil)))))))
theorem ok_p_net_of__K (T : Tx K mg) : FnOk P w K mg base CX0 202 T.a_p_net_of T.d_p_net_of ["tree"] (spG K cx 1 f_p_net_of__K) :=
  fn_GK (C := cx) (N := ["tree", "steps", "start"]) (ps := ["tree"]) (k := 201) (m := b_p_net_of__K) T.F_p_net_of sc_p_net_of fun cdv A outer s H E hr => by
    have hu := hr.units
    exact (ss_cons (sm_ownL (i := 1) (sc_p_net_of).nd rfl (.inl rfl) (am_cons (pm_tup (am_cons pm_str am_nil)) am_nil))
    (ss_cons (sm_set (i := 2) (sc_p_net_of).nd rfl (.inl rfl) (pm_callG (C := cx) (ok_p_built T 200) (hr.mono (by decide)) (by rfl) T.m_p_built T.F_p_built.kp T.b_p_built pass0 (fun _ _ _ z => z.elim) (am_cons (pm_v (pv 0)) (am_cons pm_int (am_cons (pm_v (pv 1)) am_nil))) (alen_cons (alen_cons (alen_cons alen_nil)))))
    (ss_one (sm_ret (pm_tup (am_cons (pm_v (pv 2)) (am_cons (pm_v (pv 1)) am_nil)))))))
theorem ok_l_cell_at (T : Tx K mg) : FnOk P w K mg base CX0 1 T.a_l_cell_at T.d_l_cell_at ["_law_script", "_law_k"] (spP K cx 2 f_l_cell_at) :=
  fn_P (C := cx) (N := ["_law_script", "_law_k"]) (ps := ["_law_script", "_law_k"]) (k := 0) (m := b_l_cell_at) T.F_l_cell_at sc_l_cell_at fun cdv A outer s H E hr => by
    have hu := hr.units
    exact (ss_cons (sm_if (tm_cmp sem_lt (pm_v (pv 1)) (pm_b1 sem_len (by rfl) T.n_len (by decide +kernel) (pm_v (pv 0))) (nomark _)) (ss_one (sm_ret (pm_ix (pm_v (pv 0)) (pm_v (pv 1))))) ss_nil)
    (ss_one (sm_ret pm_int)))
theorem ok_l_sign_by (T : Tx K mg) : FnOk P w K mg base CX0 1 T.a_l_sign_by T.d_l_sign_by ["_law_cell"] (spP K cx 1 f_l_sign_by) :=
  fn_P (C := cx) (N := ["_law_cell", "_law_some"]) (ps := ["_law_cell"]) (k := 0) (m := b_l_sign_by) T.F_l_sign_by sc_l_sign_by fun cdv A outer s H E hr => by
    have hu := hr.units
    exact (ss_cons (sm_set (i := 1) (sc_l_sign_by).nd rfl (.inl rfl) pm_str)
    (ss_cons (sm_set (i := 1) (sc_l_sign_by).nd rfl (.inl rfl) (pm_op sem_add (pm_v (pv 1)) pm_str))
    (ss_one (sm_ret (pm_ix (pm_v (pv 1)) (pm_op sem_mod (pm_v (pv 0)) pm_int))))))
theorem ok_l_three_by (T : Tx K mg) : FnOk P w K mg base CX0 2 T.a_l_three_by T.d_l_three_by ["_law_cell"] (spP K cx 1 f_l_three_by) :=
  fn_P (C := cx) (N := ["_law_cell"]) (ps := ["_law_cell"]) (k := 1) (m := b_l_three_by) T.F_l_three_by sc_l_three_by fun cdv A outer s H E hr => by
    have hu := hr.units
    exact (ss_one (sm_ret (pm_op sem_add (pm_op sem_add (pm_call (C := cx) (ok_l_sign_by T) (hr.mono (by decide)) (by rfl) T.m_l_sign_by T.F_l_sign_by.kp T.b_l_sign_by pass0 (fun _ _ _ z => z.elim) (am_cons (pm_v (pv 0)) am_nil) (alen_cons alen_nil)) (pm_call (C := cx) (ok_l_sign_by T) (hr.mono (by decide)) (by rfl) T.m_l_sign_by T.F_l_sign_by.kp T.b_l_sign_by pass0 (fun _ _ _ z => z.elim) (am_cons (pm_op sem_add (pm_v (pv 0)) pm_int) am_nil) (alen_cons alen_nil))) (pm_call (C := cx) (ok_l_sign_by T) (hr.mono (by decide)) (by rfl) T.m_l_sign_by T.F_l_sign_by.kp T.b_l_sign_by pass0 (fun _ _ _ z => z.elim) (am_cons (pm_op sem_add (pm_v (pv 0)) pm_int) am_nil) (alen_cons alen_nil)))))
theorem ok_l_whole (T : Tx K mg) : FnOk P w K mg base CX0 1 T.a_l_whole T.d_l_whole ["_law_found"] (spP K cx 1 f_l_whole) :=
  fn_P (C := cx) (N := ["_law_found"]) (ps := ["_law_found"]) (k := 0) (m := b_l_whole) T.F_l_whole sc_l_whole fun cdv A outer s H E hr => by
    have hu := hr.units
    exact (ss_one (sm_ret (pm_and (pm_isi (by rfl) T.n_isinstance (by rfl) T.n_int (pm_v (pv 0))) (pm_one (pm_not (pm_isi (by rfl) T.n_isinstance (by rfl) T.n_bool (pm_v (pv 0))))))))
theorem ok_l_take_by (T : Tx K mg) : FnOk P w K mg base CX0 2 T.a_l_take_by T.d_l_take_by ["_law_cell", "_law_three"] (spP K cx 2 f_l_take_by) :=
  fn_P (C := cx) (N := ["_law_cell", "_law_three", "_law_way", "_law_some", "_law_many", "_law_k"]) (ps := ["_law_cell", "_law_three"]) (k := 1) (m := b_l_take_by) T.F_l_take_by sc_l_take_by fun cdv A outer s H E hr => by
    have hu := hr.units
    exact (ss_cons (sm_set (i := 2) (sc_l_take_by).nd rfl (.inl rfl) (pm_op sem_mod (pm_v (pv 0)) pm_int))
    (ss_cons (sm_set (i := 3) (sc_l_take_by).nd rfl (.inl rfl) (pm_op sem_add (pm_ix (pm_v (pv 1)) (pm_op sem_mod (pm_op sem_div (pm_v (pv 0)) pm_int) pm_int)) (pm_ix (pm_v (pv 1)) (pm_op sem_mod (pm_op sem_div (pm_v (pv 0)) pm_int) pm_int))))
    (ss_cons (sm_if (tm_cmp (sem_eq hu) (pm_v (pv 2)) pm_int (nomark _)) (ss_one (sm_ret (pm_tup (am_cons pm_str (am_cons pm_bl (am_cons pm_str am_nil)))))) ss_nil)
    (ss_cons (sm_if (tm_cmp sem_gt (pm_v (pv 2)) pm_int (nomark _)) (ss_one (sm_ret (pm_tup (am_cons pm_str (am_cons pm_bl (am_cons (pm_sl (pm_v (pv 3)) om_n (om_s pm_int)) am_nil)))))) ss_nil)
    (ss_cons (sm_set (i := 4) (sc_l_take_by).nd rfl (.inl rfl) (pm_op sem_mod (pm_op sem_div (pm_v (pv 0)) pm_int) pm_int))
    (ss_cons (sm_if (tm_cmp (sem_eq hu) (pm_v (pv 4)) pm_int (nomark _)) (ss_one (sm_set (i := 4) (sc_l_take_by).nd rfl (.inl rfl) (pm_op sem_add pm_int (pm_op sem_mod (pm_op sem_div (pm_v (pv 0)) pm_int) pm_int)))) ss_nil)
    (ss_cons (sm_for PassesOwn.never rfl (im_r1 (by rfl) T.n_range (pm_v (pv 4))) (pg_name (i := 5) (sc_l_take_by).nd rfl (.inl rfl)) (ss_one (sm_set (i := 3) (sc_l_take_by).nd rfl (.inl rfl) (pm_op sem_add (pm_v (pv 3)) (pm_call (C := cx) (ok_l_sign_by T) (hr.mono (by decide)) (by rfl) T.m_l_sign_by T.F_l_sign_by.kp T.b_l_sign_by pass0 (fun _ _ _ z => z.elim) (am_cons (pm_op sem_add (pm_op sem_div (pm_v (pv 0)) pm_int) (pm_op sem_mul pm_int (pm_v (pv 5)))) am_nil) (alen_cons alen_nil))))))
    (ss_one (sm_ret (pm_tup (am_cons pm_str (am_cons (pm_cmp (sem_eq hu) (pm_v (pv 2)) pm_int (nomark _)) (am_cons (pm_sl (pm_v (pv 3)) om_n (om_s (pm_v (pv 4)))) am_nil)))))))))))))
theorem ok_l_joined_by (T : Tx K mg) : FnOk P w K mg base CX0 1 T.a_l_joined_by T.d_l_joined_by ["_law_way", "_law_stack", "_law_many"] (spP K cx 3 f_l_joined_by) :=
  fn_P (C := cx) (N := ["_law_way", "_law_stack", "_law_many", "_law_parts", "_law_kept", "_law_tree", "_law_part", "_law_is_bare", "_law_count", "_law_deep"]) (ps := ["_law_way", "_law_stack", "_law_many"]) (k := 0) (m := b_l_joined_by) T.F_l_joined_by sc_l_joined_by fun cdv A outer s H E hr => by
    have hu := hr.units
    exact (ss_cons (sm_set (i := 3) (sc_l_joined_by).nd rfl (.inl rfl) (pm_sl (pm_v (pv 1)) (om_s (pm_op sem_sub (pm_b1 sem_len (by rfl) T.n_len (by decide +kernel) (pm_v (pv 1))) (pm_v (pv 2)))) om_n))
    (ss_cons (sm_set (i := 4) (sc_l_joined_by).nd rfl (.inl rfl) (pm_sl (pm_v (pv 1)) om_n (om_s (pm_op sem_sub (pm_b1 sem_len (by rfl) T.n_len (by decide +kernel) (pm_v (pv 1))) (pm_v (pv 2))))))
    (ss_cons (sm_set (i := 5) (sc_l_joined_by).nd rfl (.inl rfl) (pm_tup (am_cons pm_str (am_cons (pm_t1 sem_tup (by rfl) T.n_tuple (by decide +kernel) (pm_lc (x := "_law_part") rfl (sc_l_joined_by).nd (im_seq (pm_v (pv 3))) (blkOk_by (N := ["_law_way", "_law_stack", "_law_many", "_law_parts", "_law_kept", "_law_tree", "_law_part", "_law_is_bare", "_law_count", "_law_deep"]) (sc := defScope s_l_joined_by) (by decide +kernel)) (fun _ _ _ _ _ => pg_name (i := 6) (sc_l_joined_by).nd rfl (Or.inl rfl)) (fun _ _ _ _ _ => sts_nil) (fun _ _ _ _ _ => (pm_ix (pm_v (pv 6)) pm_int)))) am_nil))))
    (ss_cons (sm_set (i := 7) (sc_l_joined_by).nd rfl (.inl rfl) (pm_b1 (sem_all rfl) (by rfl) T.n_all (by decide +kernel) (pm_lc (x := "_law_part") rfl (sc_l_joined_by).nd (im_seq (pm_v (pv 3))) (blkOk_by (N := ["_law_way", "_law_stack", "_law_many", "_law_parts", "_law_kept", "_law_tree", "_law_part", "_law_is_bare", "_law_count", "_law_deep"]) (sc := defScope s_l_joined_by) (by decide +kernel)) (fun _ _ _ _ _ => pg_name (i := 6) (sc_l_joined_by).nd rfl (Or.inl rfl)) (fun _ _ _ _ _ => sts_nil) (fun _ _ _ _ _ => (pm_ix (pm_v (pv 6)) pm_int)))))
    (ss_cons (sm_set (i := 8) (sc_l_joined_by).nd rfl (.inl rfl) (pm_b1 (sem_sum rfl) (by rfl) T.n_sum (by decide +kernel) (pm_lc (x := "_law_part") rfl (sc_l_joined_by).nd (im_seq (pm_v (pv 3))) (blkOk_by (N := ["_law_way", "_law_stack", "_law_many", "_law_parts", "_law_kept", "_law_tree", "_law_part", "_law_is_bare", "_law_count", "_law_deep"]) (sc := defScope s_l_joined_by) (by decide +kernel)) (fun _ _ _ _ _ => pg_name (i := 6) (sc_l_joined_by).nd rfl (Or.inl rfl)) (fun _ _ _ _ _ => sts_nil) (fun _ _ _ _ _ => (pm_ix (pm_v (pv 6)) pm_int)))))
    (ss_cons (sm_if (tm_cmp (sem_eq hu) (pm_v (pv 0)) pm_int (nomark _)) (ss_cons (sm_set (i := 5) (sc_l_joined_by).nd rfl (.inl rfl) (pm_tup (am_cons pm_str (am_cons (pm_ix (pm_v (pv 5)) pm_int) am_nil))))
    (ss_cons (sm_set (i := 7) (sc_l_joined_by).nd rfl (.inl rfl) (pm_b1 (sem_any rfl) (by rfl) T.n_any (by decide +kernel) (pm_lc (x := "_law_part") rfl (sc_l_joined_by).nd (im_seq (pm_v (pv 3))) (blkOk_by (N := ["_law_way", "_law_stack", "_law_many", "_law_parts", "_law_kept", "_law_tree", "_law_part", "_law_is_bare", "_law_count", "_law_deep"]) (sc := defScope s_l_joined_by) (by decide +kernel)) (fun _ _ _ _ _ => pg_name (i := 6) (sc_l_joined_by).nd rfl (Or.inl rfl)) (fun _ _ _ _ _ => sts_nil) (fun _ _ _ _ _ => (pm_ix (pm_v (pv 6)) pm_int)))))
    (ss_one (sm_set (i := 8) (sc_l_joined_by).nd rfl (.inl rfl) (pm_op sem_sub (pm_op sem_add (pm_v (pv 8)) (pm_v (pv 2))) pm_int))))) ss_nil)
    (ss_cons (sm_set (i := 9) (sc_l_joined_by).nd rfl (.inl rfl) (pm_op sem_add pm_int (pm_b1 (sem_max rfl) (by rfl) T.n_max (by decide +kernel) (pm_lc (x := "_law_part") rfl (sc_l_joined_by).nd (im_seq (pm_v (pv 3))) (blkOk_by (N := ["_law_way", "_law_stack", "_law_many", "_law_parts", "_law_kept", "_law_tree", "_law_part", "_law_is_bare", "_law_count", "_law_deep"]) (sc := defScope s_l_joined_by) (by decide +kernel)) (fun _ _ _ _ _ => pg_name (i := 6) (sc_l_joined_by).nd rfl (Or.inl rfl)) (fun _ _ _ _ _ => sts_nil) (fun _ _ _ _ _ => (pm_ix (pm_v (pv 6)) pm_int))))))
    (ss_one (sm_ret (pm_op sem_add (pm_v (pv 4)) (pm_lst (am_cons (pm_tup (am_cons (pm_v (pv 5)) (am_cons (pm_v (pv 7)) (am_cons (pm_v (pv 8)) (am_cons (pm_v (pv 9)) am_nil))))) am_nil))))))))))))
theorem ok_l_put_by (T : Tx K mg) : FnOk P w K mg base CX0 3 T.a_l_put_by T.d_l_put_by ["_law_stack", "_law_cell", "_law_three"] (spP K cx 3 f_l_put_by) :=
  fn_P (C := cx) (N := ["_law_stack", "_law_cell", "_law_three", "_law_way", "_law_rest", "_law_high", "_law_last", "_law_many", "_law_part"]) (ps := ["_law_stack", "_law_cell", "_law_three"]) (k := 2) (m := b_l_put_by) T.F_l_put_by sc_l_put_by fun cdv A outer s H E hr => by
    have hu := hr.units
    exact (ss_cons (sm_set (i := 3) (sc_l_put_by).nd rfl (.inl rfl) (pm_op sem_mod (pm_v (pv 1)) pm_int))
    (ss_cons (sm_set (i := 4) (sc_l_put_by).nd rfl (.inl rfl) (pm_op sem_div (pm_v (pv 1)) pm_int))
    (ss_cons (sm_set (i := 5) (sc_l_put_by).nd rfl (.inl rfl) pm_int)
    (ss_cons (sm_if (tm_truth (pm_v (pv 0))) (ss_one (sm_set (i := 5) (sc_l_put_by).nd rfl (.inl rfl) (pm_ix (pm_ix (pm_v (pv 0)) (pm_neg pm_int)) pm_int))) ss_nil)
    (ss_cons (sm_if (PW.pt (wm_and (tm_cmp (sem_eq hu) (pm_v (pv 3)) pm_int (nomark _)) (wm_and1 (tm_chain sem_lt sem_lt pm_int (pm_v (pv 5)) pm_int)))) (ss_cons (sm_set (i := 6) (sc_l_put_by).nd rfl (.inl rfl) (pm_ix (pm_v (pv 0)) (pm_neg pm_int)))
    (ss_one (sm_ret (pm_op sem_add (pm_sl (pm_v (pv 0)) om_n (om_s (pm_neg pm_int))) (pm_lst (am_cons (pm_tup (am_cons (pm_tup (am_cons pm_str (am_cons (pm_ix (pm_v (pv 6)) pm_int) (am_cons (pm_cmp sem_gt (pm_op sem_mod (pm_v (pv 4)) pm_int) pm_int (nomark _)) am_nil)))) (am_cons pm_bl (am_cons (pm_op sem_add (pm_ix (pm_v (pv 6)) pm_int) pm_int) (am_cons (pm_op sem_add (pm_v (pv 5)) pm_int) am_nil))))) am_nil)))))) ss_nil)
    (ss_cons (sm_if (PW.pt (wm_and (tm_cmp (sem_eq hu) (pm_v (pv 3)) pm_int (nomark _)) (wm_and (tm_chain sem_lt sem_lt pm_int (pm_v (pv 5)) pm_int) (wm_and1 (tm_not (tm_truth (pm_ix (pm_ix (pm_v (pv 0)) (pm_neg pm_int)) pm_int))))))) (ss_cons (sm_set (i := 6) (sc_l_put_by).nd rfl (.inl rfl) (pm_ix (pm_v (pv 0)) (pm_neg pm_int)))
    (ss_one (sm_ret (pm_op sem_add (pm_sl (pm_v (pv 0)) om_n (om_s (pm_neg pm_int))) (pm_lst (am_cons (pm_tup (am_cons (pm_tup (am_cons pm_str (am_cons (pm_ix (pm_v (pv 6)) pm_int) (am_cons (pm_cmp sem_gt (pm_op sem_mod (pm_v (pv 4)) pm_int) pm_int (nomark _)) am_nil)))) (am_cons pm_bl (am_cons (pm_op sem_add (pm_ix (pm_v (pv 6)) pm_int) pm_int) (am_cons (pm_op sem_add (pm_v (pv 5)) pm_int) am_nil))))) am_nil)))))) ss_nil)
    (ss_cons (sm_if (PW.pt (wm_and (PW.pt (wm_or (tm_cmp (sem_eq hu) (pm_v (pv 3)) pm_int (nomark _)) (wm_or1 (tm_cmp (sem_eq hu) (pm_v (pv 3)) pm_int (nomark _))))) (wm_and1 (tm_cmp sem_gt (pm_b1 sem_len (by rfl) T.n_len (by decide +kernel) (pm_v (pv 0))) pm_int (nomark _))))) (ss_cons (sm_set (i := 7) (sc_l_put_by).nd rfl (.inl rfl) (pm_op sem_add pm_int (pm_op sem_mod (pm_v (pv 4)) (pm_b2 min_of (call_min2 rfl) (by rfl) T.n_min (by decide +kernel) pm_int (pm_op sem_sub (pm_b1 sem_len (by rfl) T.n_len (by decide +kernel) (pm_v (pv 0))) pm_int)))))
    (ss_one (sm_if (tm_cmp sem_lt (pm_b1 (sem_max rfl) (by rfl) T.n_max (by decide +kernel) (pm_lc (x := "_law_part") rfl (sc_l_put_by).nd (im_seq (pm_sl (pm_v (pv 0)) (om_s (pm_op sem_sub (pm_b1 sem_len (by rfl) T.n_len (by decide +kernel) (pm_v (pv 0))) (pm_v (pv 7)))) om_n)) (blkOk_by (N := ["_law_stack", "_law_cell", "_law_three", "_law_way", "_law_rest", "_law_high", "_law_last", "_law_many", "_law_part"]) (sc := defScope s_l_put_by) (by decide +kernel)) (fun _ _ _ _ _ => pg_name (i := 8) (sc_l_put_by).nd rfl (Or.inl rfl)) (fun _ _ _ _ _ => sts_nil) (fun _ _ _ _ _ => (pm_ix (pm_v (pv 8)) pm_int)))) pm_int (nomark _)) (ss_one (sm_ret (pm_call (C := cx) (ok_l_joined_by T) (hr.mono (by decide)) (by rfl) T.m_l_joined_by T.F_l_joined_by.kp T.b_l_joined_by pass0 (fun _ _ _ z => z.elim) (am_cons (pm_v (pv 3)) (am_cons (pm_v (pv 0)) (am_cons (pm_v (pv 7)) am_nil))) (alen_cons (alen_cons (alen_cons alen_nil)))))) ss_nil))) ss_nil)
    (ss_cons (sm_if (PW.pt (wm_and (tm_cmp (sem_eq hu) (pm_v (pv 3)) pm_int (nomark _)) (wm_and1 (tm_cmp (sem_eq hu) (pm_op sem_mod (pm_v (pv 4)) pm_int) pm_int (nomark _))))) (ss_one (sm_ret (pm_op sem_add (pm_v (pv 0)) (pm_lst (am_cons (pm_tup (am_cons (pm_tup (am_cons pm_str (am_cons (pm_tup am_nil) am_nil))) (am_cons pm_bl (am_cons pm_int (am_cons pm_int am_nil))))) am_nil))))) ss_nil)
    (ss_one (sm_ret (pm_op sem_add (pm_v (pv 0)) (pm_lst (am_cons (pm_tup (am_cons (pm_call (C := cx) (ok_l_take_by T) (hr.mono (by decide)) (by rfl) T.m_l_take_by T.F_l_take_by.kp T.b_l_take_by pass0 (fun _ _ _ z => z.elim) (am_cons (pm_v (pv 4)) (am_cons (pm_v (pv 2)) am_nil)) (alen_cons (alen_cons alen_nil))) (am_cons pm_bl (am_cons pm_int (am_cons pm_int am_nil))))) am_nil)))))))))))))
theorem ok_l_tree_by (T : Tx K mg) : FnOk P w K mg base CX0 4 T.a_l_tree_by T.d_l_tree_by ["_law_cells", "_law_three"] (spP K cx 2 f_l_tree_by) :=
  fn_P (C := cx) (N := ["_law_cells", "_law_three", "_law_stack", "_law_cell"]) (ps := ["_law_cells", "_law_three"]) (k := 3) (m := b_l_tree_by) T.F_l_tree_by sc_l_tree_by fun cdv A outer s H E hr => by
    have hu := hr.units
    exact (ss_cons (sm_set (i := 2) (sc_l_tree_by).nd rfl (.inl rfl) (pm_lst am_nil))
    (ss_cons (sm_for PassesOwn.never rfl (im_seq (pm_v (pv 0))) (pg_name (i := 3) (sc_l_tree_by).nd rfl (.inl rfl)) (ss_one (sm_set (i := 2) (sc_l_tree_by).nd rfl (.inl rfl) (pm_call (C := cx) (ok_l_put_by T) (hr.mono (by decide)) (by rfl) T.m_l_put_by T.F_l_put_by.kp T.b_l_put_by pass0 (fun _ _ _ z => z.elim) (am_cons (pm_v (pv 2)) (am_cons (pm_v (pv 3)) (am_cons (pm_v (pv 1)) am_nil))) (alen_cons (alen_cons (alen_cons alen_nil)))))))
    (ss_cons (sm_if (tm_cmp (sem_eq hu) (pm_b1 sem_len (by rfl) T.n_len (by decide +kernel) (pm_v (pv 2))) pm_int (nomark _)) (ss_one (sm_ret (pm_tup (am_cons (pm_tup (am_cons pm_str (am_cons (pm_tup am_nil) am_nil))) (am_cons pm_bl (am_cons pm_int (am_cons pm_int am_nil))))))) ss_nil)
    (ss_cons (sm_if (tm_cmp (sem_eq hu) (pm_b1 sem_len (by rfl) T.n_len (by decide +kernel) (pm_v (pv 2))) pm_int (nomark _)) (ss_one (sm_ret (pm_ix (pm_v (pv 2)) pm_int))) ss_nil)
    (ss_one (sm_ret (pm_ix (pm_call (C := cx) (ok_l_joined_by T) (hr.mono (by decide)) (by rfl) T.m_l_joined_by T.F_l_joined_by.kp T.b_l_joined_by pass0 (fun _ _ _ z => z.elim) (am_cons (pm_op sem_add pm_int (pm_t1 sem_int (by rfl) T.n_int (by decide +kernel) (pm_cmp (sem_eq hu) (pm_op sem_mod (pm_ix (pm_v (pv 0)) pm_int) pm_int) pm_int (nomark _)))) (am_cons (pm_v (pv 2)) (am_cons (pm_b1 sem_len (by rfl) T.n_len (by decide +kernel) (pm_v (pv 2))) am_nil))) (alen_cons (alen_cons (alen_cons alen_nil)))) pm_int)))))))
theorem ok_l_text_by (T : Tx K mg) : FnOk P w K mg base CX0 2 T.a_l_text_by T.d_l_text_by ["_law_cells", "_law_three"] (spP K cx 2 f_l_text_by) :=
  fn_P (C := cx) (N := ["_law_cells", "_law_three", "_law_some", "_law_cell", "_law_sign"]) (ps := ["_law_cells", "_law_three"]) (k := 1) (m := b_l_text_by) T.F_l_text_by sc_l_text_by fun cdv A outer s H E hr => by
    have hu := hr.units
    exact (ss_cons (sm_set (i := 2) (sc_l_text_by).nd rfl (.inl rfl) pm_str)
    (ss_cons (sm_for PassesOwn.never rfl (im_seq (pm_v (pv 0))) (pg_name (i := 3) (sc_l_text_by).nd rfl (.inl rfl)) (ss_cons (sm_set (i := 4) (sc_l_text_by).nd rfl (.inl rfl) (pm_ix (pm_v (pv 1)) (pm_op sem_mod (pm_v (pv 3)) pm_int)))
    (ss_cons (sm_if (tm_cmp (sem_eq hu) (pm_op sem_mod (pm_v (pv 3)) pm_int) pm_int (nomark _)) (ss_one (sm_set (i := 4) (sc_l_text_by).nd rfl (.inl rfl) (pm_call (C := cx) (ok_l_sign_by T) (hr.mono (by decide)) (by rfl) T.m_l_sign_by T.F_l_sign_by.kp T.b_l_sign_by pass0 (fun _ _ _ z => z.elim) (am_cons (pm_op sem_div (pm_v (pv 3)) pm_int) am_nil) (alen_cons alen_nil)))) ss_nil)
    (ss_one (sm_set (i := 2) (sc_l_text_by).nd rfl (.inl rfl) (pm_op sem_add (pm_v (pv 2)) (pm_v (pv 4))))))))
    (ss_one (sm_ret (pm_v (pv 2))))))
theorem ok_l_once (T : Tx K mg) : FnOk P w K mg base CX0 1 T.a_l_once T.d_l_once ["_law_ends_here"] (spP K cx 1 f_l_once) :=
  fn_P (C := cx) (N := ["_law_ends_here", "_law_kept", "_law_end"]) (ps := ["_law_ends_here"]) (k := 0) (m := b_l_once) T.F_l_once sc_l_once fun cdv A outer s H E hr => by
    have hu := hr.units
    exact (ss_cons (sm_ownL (i := 1) (sc_l_once).nd rfl (.inl rfl) am_nil)
    (ss_cons (sm_for PassesOwn.never rfl (im_seq (pm_v (pv 0))) (pg_name (i := 2) (sc_l_once).nd rfl (.inl rfl)) (ss_one (sm_if (tm_cmp (sem_nin hu) (pm_v (pv 2)) (pm_v (pv 1)) (by rfl)) (ss_one (sm_ex (pm_app (pm_v (pv 1)) (pm_v (pv 2))))) ss_nil)))
    (ss_one (sm_ret (pm_v (pv 1))))))
theorem ok_l_behind (T : Tx K mg) : FnOk P w K mg base CX0 2 T.a_l_behind T.d_l_behind ["_law_ends_here", "_law_more"] (spP K cx 2 f_l_behind) :=
  fn_P (C := cx) (N := ["_law_ends_here", "_law_more", "_law_far", "_law_end"]) (ps := ["_law_ends_here", "_law_more"]) (k := 1) (m := b_l_behind) T.F_l_behind sc_l_behind fun cdv A outer s H E hr => by
    have hu := hr.units
    exact (ss_cons (sm_set (i := 2) (sc_l_behind).nd rfl (.inl rfl) (pm_lst am_nil))
    (ss_cons (sm_for PassesOwn.never rfl (im_seq (pm_v (pv 0))) (pg_name (i := 3) (sc_l_behind).nd rfl (.inl rfl)) (ss_one (sm_set (i := 2) (sc_l_behind).nd rfl (.inl rfl) (pm_op sem_add (pm_v (pv 2)) (pm_ix (pm_v (pv 1)) (pm_v (pv 3)))))))
    (ss_one (sm_ret (pm_call (C := cx) (ok_l_once T) (hr.mono (by decide)) (by rfl) T.m_l_once T.F_l_once.kp T.b_l_once pass0 (fun _ _ _ z => z.elim) (am_cons (pm_v (pv 2)) am_nil) (alen_cons alen_nil))))))
theorem ok_l_taken (T : Tx K mg) : FnOk P w K mg base CX0 1 T.a_l_taken T.d_l_taken ["_law_tree", "_law_signs", "_law_at"] (spP K cx 3 f_l_taken) :=
  fn_P (C := cx) (N := ["_law_tree", "_law_signs", "_law_at"]) (ps := ["_law_tree", "_law_signs", "_law_at"]) (k := 0) (m := b_l_taken) T.F_l_taken sc_l_taken fun cdv A outer s H E hr => by
    have hu := hr.units
    exact (ss_cons (sm_if (PW.pt (wm_and (tm_cmp sem_lt (pm_v (pv 2)) (pm_b1 sem_len (by rfl) T.n_len (by decide +kernel) (pm_v (pv 1))) (nomark _)) (wm_and1 (tm_cmp (sem_eq hu) (pm_cmp (sem_in hu) (pm_ix (pm_v (pv 1)) (pm_v (pv 2))) (pm_ix (pm_v (pv 0)) pm_int) (by rfl)) (pm_ix (pm_v (pv 0)) pm_int) (nomark _))))) (ss_one (sm_ret (pm_lst (am_cons (pm_op sem_add (pm_v (pv 2)) pm_int) am_nil)))) ss_nil)
    (ss_one (sm_ret (pm_lst am_nil))))
theorem ok_l_repeated (T : Tx K mg) : FnOk P w K mg base CX0 3 T.a_l_repeated T.d_l_repeated ["_law_tree", "_law_more"] (spP K cx 2 f_l_repeated) :=
  fn_P (C := cx) (N := ["_law_tree", "_law_more", "_law_ends_here", "_law_k", "_law_at", "_law_far"]) (ps := ["_law_tree", "_law_more"]) (k := 2) (m := b_l_repeated) T.F_l_repeated sc_l_repeated fun cdv A outer s H E hr => by
    have hu := hr.units
    exact (ss_cons (sm_set (i := 2) (sc_l_repeated).nd rfl (.inl rfl) (pm_lst am_nil))
    (ss_cons (sm_for PassesOwn.never rfl (im_r1 (by rfl) T.n_range (pm_b1 sem_len (by rfl) T.n_len (by decide +kernel) (pm_v (pv 1)))) (pg_name (i := 3) (sc_l_repeated).nd rfl (.inl rfl)) (ss_cons (sm_set (i := 4) (sc_l_repeated).nd rfl (.inl rfl) (pm_op sem_sub (pm_op sem_sub (pm_b1 sem_len (by rfl) T.n_len (by decide +kernel) (pm_v (pv 1))) pm_int) (pm_v (pv 3))))
    (ss_cons (sm_set (i := 5) (sc_l_repeated).nd rfl (.inl rfl) (pm_ix (pm_v (pv 1)) (pm_v (pv 4))))
    (ss_cons (sm_if (tm_cmp (sem_eq hu) (pm_ix (pm_v (pv 0)) pm_int) pm_str (nomark _)) (ss_one (sm_set (i := 5) (sc_l_repeated).nd rfl (.inl rfl) (pm_call (C := cx) (ok_l_behind T) (hr.mono (by decide)) (by rfl) T.m_l_behind T.F_l_behind.kp T.b_l_behind pass0 (fun _ _ _ z => z.elim) (am_cons (pm_ix (pm_v (pv 1)) (pm_v (pv 4))) (am_cons (pm_op sem_add (pm_op sem_mul (pm_lst (am_cons (pm_lst am_nil) am_nil)) (pm_op sem_add (pm_v (pv 4)) pm_int)) (pm_v (pv 2))) am_nil)) (alen_cons (alen_cons alen_nil))))) ss_nil)
    (ss_cons (sm_if (tm_truth (pm_ix (pm_v (pv 0)) pm_int)) (ss_one (sm_set (i := 5) (sc_l_repeated).nd rfl (.inl rfl) (pm_op sem_add (pm_v (pv 5)) (pm_lst (am_cons (pm_v (pv 4)) am_nil))))) (ss_one (sm_set (i := 5) (sc_l_repeated).nd rfl (.inl rfl) (pm_op sem_add (pm_lst (am_cons (pm_v (pv 4)) am_nil)) (pm_v (pv 5))))))
    (ss_one (sm_set (i := 2) (sc_l_repeated).nd rfl (.inl rfl) (pm_op sem_add (pm_lst (am_cons (pm_call (C := cx) (ok_l_once T) (hr.mono (by decide)) (by rfl) T.m_l_once T.F_l_once.kp T.b_l_once pass0 (fun _ _ _ z => z.elim) (am_cons (pm_v (pv 5)) am_nil) (alen_cons alen_nil)) am_nil)) (pm_v (pv 2))))))))))
    (ss_one (sm_ret (pm_v (pv 2))))))
theorem st_l_ends (T : Tx K mg) {n : Nat} {r_l_ends : List D → R D} (G_l_ends : FnOk P w K mg base CX0 (3 + n) T.a_l_ends T.d_l_ends ["_law_tree", "_law_signs"] (spP K cx 2 r_l_ends)) : FnOk P w K mg base CX0 (3 + n + 1) T.a_l_ends T.d_l_ends ["_law_tree", "_law_signs"] (spP K cx 2 fun ds => (run 7 (b_l_ends r_l_ends) ds).nox) :=
  fn_P (C := cx) (N := ["_law_tree", "_law_signs", "_law_places", "_law_at", "_law_ends_here", "_law_part", "_law_more"]) (ps := ["_law_tree", "_law_signs"]) (k := 3 + n) (m := b_l_ends r_l_ends) T.F_l_ends sc_l_ends fun cdv A outer s H E hr => by
    have hu := hr.units
    exact (ss_cons (sm_set (i := 2) (sc_l_ends).nd rfl (.inl rfl) (pm_op sem_add (pm_b1 sem_len (by rfl) T.n_len (by decide +kernel) (pm_v (pv 1))) pm_int))
    (ss_cons (sm_if (tm_cmp (sem_eq hu) (pm_ix (pm_v (pv 0)) pm_int) pm_str (nomark _)) (ss_one (sm_ret (pm_lc (x := "_law_at") rfl (sc_l_ends).nd (im_r1 (by rfl) T.n_range (pm_v (pv 2))) (blkOk_by (N := ["_law_tree", "_law_signs", "_law_places", "_law_at", "_law_ends_here", "_law_part", "_law_more"]) (sc := defScope s_l_ends) (by decide +kernel)) (fun _ _ _ _ _ => pg_name (i := 3) (sc_l_ends).nd rfl (Or.inl rfl)) (fun _ _ _ _ _ => sts_nil) (fun _ _ _ _ _ => (pm_call (C := cx) (ok_l_taken T) (hr.mono (by omega)) (by rfl) T.m_l_taken T.F_l_taken.kp T.b_l_taken pass0 (fun _ _ _ z => z.elim) (am_cons (pm_v (pv 0)) (am_cons (pm_v (pv 1)) (am_cons (pm_v (pv 3)) am_nil))) (alen_cons (alen_cons (alen_cons alen_nil)))))))) ss_nil)
    (ss_cons (sm_if (tm_cmp (sem_eq hu) (pm_ix (pm_v (pv 0)) pm_int) pm_str (nomark _)) (ss_cons (sm_set (i := 4) (sc_l_ends).nd rfl (.inr rfl) (pm_lc (x := "_law_at") rfl (sc_l_ends).nd (im_r1 (by rfl) T.n_range (pm_v (pv 2))) (blkOk_by (N := ["_law_tree", "_law_signs", "_law_places", "_law_at", "_law_ends_here", "_law_part", "_law_more"]) (sc := defScope s_l_ends) (by decide +kernel)) (fun _ _ _ _ _ => pg_name (i := 3) (sc_l_ends).nd rfl (Or.inl rfl)) (fun _ _ _ _ _ => sts_nil) (fun _ _ _ _ _ => (pm_lst (am_cons (pm_v (pv 3)) am_nil)))))
    (ss_cons (sm_for PassesOwn.never rfl (im_seq (pm_ix (pm_v (pv 0)) pm_int)) (pg_name (i := 5) (sc_l_ends).nd rfl (.inl rfl)) (ss_cons (sm_set (i := 6) (sc_l_ends).nd rfl (.inr rfl) (pm_call (C := cx) G_l_ends hr (by rfl) T.m_l_ends T.F_l_ends.kp T.b_l_ends pass0 (fun _ _ _ z => z.elim) (am_cons (pm_v (pv 5)) (am_cons (pm_v (pv 1)) am_nil)) (alen_cons (alen_cons alen_nil))))
    (ss_one (sm_set (i := 4) (sc_l_ends).nd rfl (.inr rfl) (pm_lc (x := "_law_at") rfl (sc_l_ends).nd (im_r1 (by rfl) T.n_range (pm_v (pv 2))) (blkOk_by (N := ["_law_tree", "_law_signs", "_law_places", "_law_at", "_law_ends_here", "_law_part", "_law_more"]) (sc := defScope s_l_ends) (by decide +kernel)) (fun _ _ _ _ _ => pg_name (i := 3) (sc_l_ends).nd rfl (Or.inl rfl)) (fun _ _ _ _ _ => sts_nil) (fun _ _ _ _ _ => (pm_call (C := cx) (ok_l_behind T) (hr.mono (by omega)) (by rfl) T.m_l_behind T.F_l_behind.kp T.b_l_behind pass0 (fun _ _ _ z => z.elim) (am_cons (pm_ix (pm_v (pv 4)) (pm_v (pv 3))) (am_cons (pm_v (pv 6)) am_nil)) (alen_cons (alen_cons alen_nil)))))))))
    (ss_one (sm_ret (pm_v (pv 4)))))) ss_nil)
    (ss_cons (sm_if (tm_cmp (sem_eq hu) (pm_ix (pm_v (pv 0)) pm_int) pm_str (nomark _)) (ss_cons (sm_set (i := 4) (sc_l_ends).nd rfl (.inr rfl) (pm_lc (x := "_law_at") rfl (sc_l_ends).nd (im_r1 (by rfl) T.n_range (pm_v (pv 2))) (blkOk_by (N := ["_law_tree", "_law_signs", "_law_places", "_law_at", "_law_ends_here", "_law_part", "_law_more"]) (sc := defScope s_l_ends) (by decide +kernel)) (fun _ _ _ _ _ => pg_name (i := 3) (sc_l_ends).nd rfl (Or.inl rfl)) (fun _ _ _ _ _ => sts_nil) (fun _ _ _ _ _ => (pm_lst am_nil))))
    (ss_cons (sm_for PassesOwn.never rfl (im_seq (pm_ix (pm_v (pv 0)) pm_int)) (pg_name (i := 5) (sc_l_ends).nd rfl (.inl rfl)) (ss_cons (sm_set (i := 6) (sc_l_ends).nd rfl (.inr rfl) (pm_call (C := cx) G_l_ends hr (by rfl) T.m_l_ends T.F_l_ends.kp T.b_l_ends pass0 (fun _ _ _ z => z.elim) (am_cons (pm_v (pv 5)) (am_cons (pm_v (pv 1)) am_nil)) (alen_cons (alen_cons alen_nil))))
    (ss_one (sm_set (i := 4) (sc_l_ends).nd rfl (.inr rfl) (pm_lc (x := "_law_at") rfl (sc_l_ends).nd (im_r1 (by rfl) T.n_range (pm_v (pv 2))) (blkOk_by (N := ["_law_tree", "_law_signs", "_law_places", "_law_at", "_law_ends_here", "_law_part", "_law_more"]) (sc := defScope s_l_ends) (by decide +kernel)) (fun _ _ _ _ _ => pg_name (i := 3) (sc_l_ends).nd rfl (Or.inl rfl)) (fun _ _ _ _ _ => sts_nil) (fun _ _ _ _ _ => (pm_call (C := cx) (ok_l_once T) (hr.mono (by omega)) (by rfl) T.m_l_once T.F_l_once.kp T.b_l_once pass0 (fun _ _ _ z => z.elim) (am_cons (pm_op sem_add (pm_ix (pm_v (pv 4)) (pm_v (pv 3))) (pm_ix (pm_v (pv 6)) (pm_v (pv 3)))) am_nil) (alen_cons alen_nil))))))))
    (ss_one (sm_ret (pm_v (pv 4)))))) ss_nil)
    (ss_one (sm_ret (pm_call (C := cx) (ok_l_repeated T) (hr.mono (by omega)) (by rfl) T.m_l_repeated T.F_l_repeated.kp T.b_l_repeated pass0 (fun _ _ _ z => z.elim) (am_cons (pm_v (pv 0)) (am_cons (pm_call (C := cx) G_l_ends hr (by rfl) T.m_l_ends T.F_l_ends.kp T.b_l_ends pass0 (fun _ _ _ z => z.elim) (am_cons (pm_ix (pm_v (pv 0)) pm_int) (am_cons (pm_v (pv 1)) am_nil)) (alen_cons (alen_cons alen_nil))) am_nil)) (alen_cons (alen_cons alen_nil)))))))))
theorem all_l_ends (T : Tx K mg) (n : Nat) : FnOk P w K mg base CX0 (3 + n) T.a_l_ends T.d_l_ends ["_law_tree", "_law_signs"] (spP K cx 2 (f_l_ends n)) := by
  induction n with
  | zero => exact fn_none (C := cx) (φ := f_l_ends 0) (fun _ => by rw [f_l_ends])
  | succ n ih => exact (by rw [f_l_ends]; exact st_l_ends T ih)
theorem ok_l_ends (T : Tx K mg) (n : Nat) : FnOk P w K mg base CX0 (3 + n) T.a_l_ends T.d_l_ends ["_law_tree", "_law_signs"] (spP K cx 2 (f_l_ends n)) := (all_l_ends T n)
theorem ok_l_step_right (T : Tx K mg) : FnOk P w K mg base CX0 2 T.a_l_step_right T.d_l_step_right ["_law_step", "_law_many"] (spP K cx 2 f_l_step_right) :=
  fn_P (C := cx) (N := ["_law_step", "_law_many", "_law_numbers", "_law_number"]) (ps := ["_law_step", "_law_many"]) (k := 1) (m := b_l_step_right) T.F_l_step_right sc_l_step_right fun cdv A outer s H E hr => by
    have hu := hr.units
    exact (ss_cons (sm_if (PW.pt (wm_or (tm_not (tm_truth (pm_isi (by rfl) T.n_isinstance (by rfl) T.n_tuple (pm_v (pv 0))))) (wm_or (tm_cmp (sem_eq hu) (pm_b1 sem_len (by rfl) T.n_len (by decide +kernel) (pm_v (pv 0))) pm_int (nomark _)) (wm_or1 (tm_not (tm_truth (pm_isi (by rfl) T.n_isinstance (by rfl) T.n_str (pm_ix (pm_v (pv 0)) pm_int)))))))) (ss_one (sm_ret pm_bl)) ss_nil)
    (ss_cons (sm_if (tm_cmp (sem_eq hu) (pm_ix (pm_v (pv 0)) pm_int) pm_str (nomark _)) (ss_one (sm_ret (pm_cmp (sem_eq hu) (pm_b1 sem_len (by rfl) T.n_len (by decide +kernel) (pm_v (pv 0))) pm_int (nomark _)))) ss_nil)
    (ss_cons (sm_set (i := 2) (sc_l_step_right).nd rfl (.inl rfl) (pm_sl (pm_v (pv 0)) (om_s pm_int) om_n))
    (ss_cons (sm_if (tm_cmp (sem_eq hu) (pm_ix (pm_v (pv 0)) pm_int) pm_str (nomark _)) (ss_cons (sm_if (PW.pt (wm_or (tm_cmp (sem_ne hu) (pm_b1 sem_len (by rfl) T.n_len (by decide +kernel) (pm_v (pv 0))) pm_int (nomark _)) (wm_or (tm_not (tm_truth (pm_isi (by rfl) T.n_isinstance (by rfl) T.n_bool (pm_ix (pm_v (pv 0)) pm_int)))) (wm_or1 (tm_not (tm_truth (pm_isi (by rfl) T.n_isinstance (by rfl) T.n_str (pm_ix (pm_v (pv 0)) pm_int)))))))) (ss_one (sm_ret pm_bl)) ss_nil)
    (ss_one (sm_set (i := 2) (sc_l_step_right).nd rfl (.inl rfl) (pm_sl (pm_v (pv 0)) (om_s pm_int) om_n)))) (ss_one (sm_if (PW.pt (wm_or (tm_cmp (sem_ne hu) (pm_ix (pm_v (pv 0)) pm_int) pm_str (nomark _)) (wm_or1 (tm_cmp (sem_ne hu) (pm_b1 sem_len (by rfl) T.n_len (by decide +kernel) (pm_v (pv 0))) pm_int (nomark _))))) (ss_one (sm_ret pm_bl)) ss_nil)))
    (ss_one (sm_ret (pm_b1 (sem_all rfl) (by rfl) T.n_all (by decide +kernel) (pm_lc (x := "_law_number") rfl (sc_l_step_right).nd (im_seq (pm_v (pv 2))) (blkOk_by (N := ["_law_step", "_law_many", "_law_numbers", "_law_number"]) (sc := defScope s_l_step_right) (by decide +kernel)) (fun _ _ _ _ _ => pg_name (i := 3) (sc_l_step_right).nd rfl (Or.inl rfl)) (fun _ _ _ _ _ => sts_nil) (fun _ _ _ _ _ => (pm_and (pm_call (C := cx) (ok_l_whole T) (hr.mono (by decide)) (by rfl) T.m_l_whole T.F_l_whole.kp T.b_l_whole pass0 (fun _ _ _ z => z.elim) (am_cons (pm_v (pv 3)) am_nil) (alen_cons alen_nil)) (pm_one (pm_chain sem_le sem_lt pm_int (pm_v (pv 3)) (pm_v (pv 1))))))))))))))
theorem ok_l_net_right (T : Tx K mg) : FnOk P w K mg base CX0 3 T.a_l_net_right T.d_l_net_right ["_law_net", "_law_many"] (spP K cx 2 f_l_net_right) :=
  fn_P (C := cx) (N := ["_law_net", "_law_many", "_law_step"]) (ps := ["_law_net", "_law_many"]) (k := 2) (m := b_l_net_right) T.F_l_net_right sc_l_net_right fun cdv A outer s H E hr => by
    have hu := hr.units
    exact (ss_cons (sm_if (PW.pt (wm_or (tm_not (tm_truth (pm_isi (by rfl) T.n_isinstance (by rfl) T.n_tuple (pm_v (pv 0))))) (wm_or (tm_cmp (sem_ne hu) (pm_b1 sem_len (by rfl) T.n_len (by decide +kernel) (pm_v (pv 0))) pm_int (nomark _)) (wm_or1 (tm_not (tm_truth (pm_isi (by rfl) T.n_isinstance (by rfl) T.n_list (pm_ix (pm_v (pv 0)) pm_int)))))))) (ss_one (sm_ret pm_bl)) ss_nil)
    (ss_cons (sm_if (PW.pt (wm_or (tm_cmp (sem_ne hu) (pm_b1 sem_len (by rfl) T.n_len (by decide +kernel) (pm_ix (pm_v (pv 0)) pm_int)) (pm_v (pv 1)) (nomark _)) (wm_or (tm_not (tm_truth (pm_call (C := cx) (ok_l_whole T) (hr.mono (by decide)) (by rfl) T.m_l_whole T.F_l_whole.kp T.b_l_whole pass0 (fun _ _ _ z => z.elim) (am_cons (pm_ix (pm_v (pv 0)) pm_int) am_nil) (alen_cons alen_nil)))) (wm_or1 (tm_not (tm_chain sem_le sem_lt pm_int (pm_ix (pm_v (pv 0)) pm_int) (pm_v (pv 1)))))))) (ss_one (sm_ret pm_bl)) ss_nil)
    (ss_cons (sm_if (tm_not (tm_truth (pm_b1 (sem_all rfl) (by rfl) T.n_all (by decide +kernel) (pm_lc (x := "_law_step") rfl (sc_l_net_right).nd (im_seq (pm_ix (pm_v (pv 0)) pm_int)) (blkOk_by (N := ["_law_net", "_law_many", "_law_step"]) (sc := defScope s_l_net_right) (by decide +kernel)) (fun _ _ _ _ _ => pg_name (i := 2) (sc_l_net_right).nd rfl (Or.inl rfl)) (fun _ _ _ _ _ => sts_nil) (fun _ _ _ _ _ => (pm_call (C := cx) (ok_l_step_right T) (hr.mono (by decide)) (by rfl) T.m_l_step_right T.F_l_step_right.kp T.b_l_step_right pass0 (fun _ _ _ z => z.elim) (am_cons (pm_v (pv 2)) (am_cons (pm_v (pv 1)) am_nil)) (alen_cons (alen_cons alen_nil)))))))) (ss_one (sm_ret pm_bl)) ss_nil)
    (ss_one (sm_ret (pm_cmp (sem_eq hu) (pm_b1 sem_len (by rfl) T.n_len (by decide +kernel) (pm_lc (x := "_law_step") rfl (sc_l_net_right).nd (im_seq (pm_ix (pm_v (pv 0)) pm_int)) (blkOk_by (N := ["_law_net", "_law_many", "_law_step"]) (sc := defScope s_l_net_right) (by decide +kernel)) (fun _ _ _ _ _ => pg_name (i := 2) (sc_l_net_right).nd rfl (Or.inl rfl)) (fun _ _ _ _ _ => (sts_one (tm_cmp (sem_eq hu) (pm_ix (pm_v (pv 2)) pm_int) pm_str (nomark _)))) (fun _ _ _ _ _ => (pm_v (pv 2))))) pm_int (nomark _)))))))
theorem ok_l_led (T : Tx K mg) : FnOk P w K mg base CX0 2 T.a_l_led T.d_l_led ["_law_steps", "_law_signs", "_law_at", "_law_further"] (spP K cx 4 f_l_led) :=
  fn_P (C := cx) (N := ["_law_steps", "_law_signs", "_law_at", "_law_further", "_law_told", "_law_step", "_law_turn", "_law_more"]) (ps := ["_law_steps", "_law_signs", "_law_at", "_law_further"]) (k := 1) (m := b_l_led) T.F_l_led sc_l_led fun cdv A outer s H E hr => by
    have hu := hr.units
    exact (ss_cons (sm_setLc (x := "_law_step") (j := 4) rfl rfl (sw_true rfl rfl rfl (by decide +kernel)) rfl (sc_l_led).nd (im_seq (pm_v (pv 0))) (blkOk_by (N := ["_law_steps", "_law_signs", "_law_at", "_law_further", "_law_told", "_law_step", "_law_turn", "_law_more"]) (sc := defScope s_l_led) (by decide +kernel)) (fun _ _ _ _ _ => pg_name (i := 5) (sc_l_led).nd rfl (Or.inl rfl)) (fun _ _ _ _ _ => sts_nil) (fun _ _ _ _ _ => (pm_lst am_nil)))
    (ss_cons (sm_for PassesOwn.never rfl (im_r1 (by rfl) T.n_range (pm_op sem_add (pm_b1 sem_len (by rfl) T.n_len (by decide +kernel) (pm_v (pv 0))) pm_int)) (pg_name (i := 6) (sc_l_led).nd rfl (.inl rfl)) (ss_cons (sm_ownL (i := 7) (sc_l_led).nd rfl (.inl rfl) am_nil)
    (ss_cons (sm_for PassesOwn.never rfl (im_seq (pm_v (pv 0))) (pg_name (i := 5) (sc_l_led).nd rfl (.inl rfl)) (ss_one (sm_if (tm_cmp (sem_eq hu) (pm_ix (pm_v (pv 5)) pm_int) pm_str (nomark _)) (ss_one (sm_ex (pm_app (pm_v (pv 7)) (pm_lst (am_cons (pm_v (pv 2)) am_nil))))) (ss_one (sm_if (tm_cmp (sem_eq hu) (pm_ix (pm_v (pv 5)) pm_int) pm_str (nomark _)) (ss_one (sm_ex (pm_app (pm_v (pv 7)) (pm_call (C := cx) (ok_l_once T) (hr.mono (by decide)) (by rfl) T.m_l_once T.F_l_once.kp T.b_l_once pass0 (fun _ _ _ z => z.elim) (am_cons (pm_op sem_add (pm_ix (pm_v (pv 4)) (pm_ix (pm_v (pv 5)) pm_int)) (pm_ix (pm_v (pv 4)) (pm_ix (pm_v (pv 5)) pm_int))) am_nil) (alen_cons alen_nil))))) (ss_one (sm_if (PW.pt (wm_and (tm_cmp sem_lt (pm_v (pv 2)) (pm_b1 sem_len (by rfl) T.n_len (by decide +kernel) (pm_v (pv 1))) (nomark _)) (wm_and1 (tm_cmp (sem_eq hu) (pm_cmp (sem_in hu) (pm_ix (pm_v (pv 1)) (pm_v (pv 2))) (pm_ix (pm_v (pv 5)) pm_int) (by rfl)) (pm_ix (pm_v (pv 5)) pm_int) (nomark _))))) (ss_one (sm_ex (pm_app (pm_v (pv 7)) (pm_ix (pm_v (pv 3)) (pm_ix (pm_v (pv 5)) pm_int))))) (ss_one (sm_ex (pm_app (pm_v (pv 7)) (pm_lst am_nil)))))))))))
    (ss_cons (sm_if (tm_cmp (sem_eq hu) (pm_v (pv 7)) (pm_v (pv 4)) (nomark _)) (ss_one (sm_ret (pm_v (pv 4)))) ss_nil)
    (ss_one (sm_set (i := 4) (sc_l_led).nd rfl (.inl rfl) (pm_v (pv 7))))))))
    (ss_one (sm_ret (pm_v (pv 4))))))
theorem ok_l_pick_by (T : Tx K mg) : FnOk P w K mg base CX0 2 T.a_l_pick_by T.d_l_pick_by ["_law_cell", "_law_many"] (spP K cx 2 f_l_pick_by) :=
  fn_P (C := cx) (N := ["_law_cell", "_law_many", "_law_parts", "_law_k", "_law_one", "_law_some"]) (ps := ["_law_cell", "_law_many"]) (k := 1) (m := b_l_pick_by) T.F_l_pick_by sc_l_pick_by fun cdv A outer s H E hr => by
    have hu := hr.units
    exact (ss_cons (sm_ownL (i := 2) (sc_l_pick_by).nd rfl (.inl rfl) am_nil)
    (ss_cons (sm_for PassesOwn.never rfl (im_r1 (by rfl) T.n_range (pm_v (pv 1))) (pg_name (i := 3) (sc_l_pick_by).nd rfl (.inl rfl)) (ss_cons (sm_set (i := 4) (sc_l_pick_by).nd rfl (.inl rfl) (pm_tup (am_cons pm_str (am_cons pm_bl (am_cons (pm_call (C := cx) (ok_l_sign_by T) (hr.mono (by decide)) (by rfl) T.m_l_sign_by T.F_l_sign_by.kp T.b_l_sign_by pass0 (fun _ _ _ z => z.elim) (am_cons (pm_op sem_add (pm_v (pv 0)) (pm_op sem_mul pm_int (pm_v (pv 3)))) am_nil) (alen_cons alen_nil)) am_nil)))))
    (ss_cons (sm_if (tm_cmp (sem_eq hu) (pm_op sem_mod (pm_v (pv 3)) pm_int) pm_int (nomark _)) (ss_one (sm_set (i := 4) (sc_l_pick_by).nd rfl (.inl rfl) (pm_tup (am_cons pm_str (am_cons (pm_tup (am_cons (pm_v (pv 4)) (am_cons (pm_tup (am_cons pm_str (am_cons (pm_cmp (sem_eq hu) (pm_op sem_mod (pm_v (pv 3)) pm_int) pm_int (nomark _)) (am_cons (pm_call (C := cx) (ok_l_sign_by T) (hr.mono (by decide)) (by rfl) T.m_l_sign_by T.F_l_sign_by.kp T.b_l_sign_by pass0 (fun _ _ _ z => z.elim) (am_cons (pm_op sem_add (pm_v (pv 0)) (pm_op sem_mul pm_int (pm_v (pv 3)))) am_nil) (alen_cons alen_nil)) am_nil)))) am_nil))) am_nil))))) ss_nil)
    (ss_one (sm_ex (pm_app (pm_v (pv 2)) (pm_v (pv 4))))))))
    (ss_cons (sm_set (i := 5) (sc_l_pick_by).nd rfl (.inl rfl) (pm_join (pm_lc (x := "_law_k") rfl (sc_l_pick_by).nd (im_r1 (by rfl) T.n_range (pm_op sem_add pm_int (pm_op sem_mod (pm_op sem_div (pm_v (pv 0)) pm_int) pm_int))) (blkOk_by (N := ["_law_cell", "_law_many", "_law_parts", "_law_k", "_law_one", "_law_some"]) (sc := defScope s_l_pick_by) (by decide +kernel)) (fun _ _ _ _ _ => pg_name (i := 3) (sc_l_pick_by).nd rfl (Or.inl rfl)) (fun _ _ _ _ _ => sts_nil) (fun _ _ _ _ _ => (pm_call (C := cx) (ok_l_sign_by T) (hr.mono (by decide)) (by rfl) T.m_l_sign_by T.F_l_sign_by.kp T.b_l_sign_by pass0 (fun _ _ _ z => z.elim) (am_cons (pm_op sem_add (pm_v (pv 0)) (pm_op sem_mul pm_int (pm_v (pv 3)))) am_nil) (alen_cons alen_nil))))))
    (ss_one (sm_ret (pm_tup (am_cons pm_str (am_cons (pm_t1 sem_tup (by rfl) T.n_tuple (by decide +kernel) (pm_op sem_add (pm_v (pv 2)) (pm_lst (am_cons (pm_tup (am_cons pm_str (am_cons (pm_cmp (sem_eq hu) (pm_op sem_mod (pm_v (pv 0)) pm_int) pm_int (nomark _)) (am_cons (pm_v (pv 5)) am_nil)))) am_nil)))) am_nil))))))))
theorem ok_l_led_right (T : Tx K mg) : FnOk P w K mg base CX0 204 T.a_l_led_right T.d_l_led_right ["_law_tree", "_law_signs", "_law_many"] (spP K cx 3 f_l_led_right) :=
  fn_P (C := cx) (N := ["_law_tree", "_law_signs", "_law_many", "_law_net", "_law_other", "_law_due", "_law_further", "_law_k", "_law_at"]) (ps := ["_law_tree", "_law_signs", "_law_many"]) (k := 203) (m := b_l_led_right) T.F_l_led_right sc_l_led_right fun cdv A outer s H E hr => by
    have hu := hr.units
    exact (ss_cons (sm_set (i := 3) (sc_l_led_right).nd rfl (.inl rfl) (pm_call (C := cx) (ok_p_net_of T) (hr.mono (by decide)) (by rfl) T.m_p_net_of T.F_p_net_of.kp T.b_p_net_of pass0 (fun _ _ _ z => z.elim) (am_cons (pm_v (pv 0)) am_nil) (alen_cons alen_nil)))
    (ss_cons (sm_if (tm_not (tm_truth (pm_call (C := cx) (ok_l_net_right T) (hr.mono (by decide)) (by rfl) T.m_l_net_right T.F_l_net_right.kp T.b_l_net_right pass0 (fun _ _ _ z => z.elim) (am_cons (pm_v (pv 3)) (am_cons (pm_v (pv 2)) am_nil)) (alen_cons (alen_cons alen_nil))))) (ss_one (sm_ret pm_bl)) ss_nil)
    (ss_cons (sm_set (i := 4) (sc_l_led_right).nd rfl (.inl rfl) (pm_callG (C := cx) (ok_p_net_of__K T) (hr.mono (by decide)) (by rfl) T.m_p_net_of T.F_p_net_of.kp T.b_p_net_of pass0 (fun _ _ _ z => z.elim) (am_cons (pm_v (pv 0)) am_nil) (alen_cons alen_nil)))
    (ss_cons (sm_ex (pm_clear (pm_ix (pm_v (pv 4)) pm_int)))
    (ss_cons (sm_if (tm_cmp (sem_ne hu) (pm_call (C := cx) (ok_p_net_of T) (hr.mono (by decide)) (by rfl) T.m_p_net_of T.F_p_net_of.kp T.b_p_net_of pass0 (fun _ _ _ z => z.elim) (am_cons (pm_v (pv 0)) am_nil) (alen_cons alen_nil)) (pm_v (pv 3)) (nomark _)) (ss_one (sm_ret pm_bl)) ss_nil)
    (ss_cons (sm_set (i := 5) (sc_l_led_right).nd rfl (.inl rfl) (pm_call (C := cx) (ok_l_ends T 200) (hr.mono (by decide)) (by rfl) T.m_l_ends T.F_l_ends.kp T.b_l_ends pass0 (fun _ _ _ z => z.elim) (am_cons (pm_v (pv 0)) (am_cons (pm_v (pv 1)) am_nil)) (alen_cons (alen_cons alen_nil))))
    (ss_cons (sm_set (i := 6) (sc_l_led_right).nd rfl (.inl rfl) (pm_lst am_nil))
    (ss_cons (sm_for PassesOwn.never rfl (im_r1 (by rfl) T.n_range (pm_op sem_add (pm_b1 sem_len (by rfl) T.n_len (by decide +kernel) (pm_v (pv 1))) pm_int)) (pg_name (i := 7) (sc_l_led_right).nd rfl (.inl rfl)) (ss_cons (sm_set (i := 8) (sc_l_led_right).nd rfl (.inl rfl) (pm_op sem_sub (pm_b1 sem_len (by rfl) T.n_len (by decide +kernel) (pm_v (pv 1))) (pm_v (pv 7))))
    (ss_cons (sm_set (i := 6) (sc_l_led_right).nd rfl (.inl rfl) (pm_call (C := cx) (ok_l_led T) (hr.mono (by decide)) (by rfl) T.m_l_led T.F_l_led.kp T.b_l_led pass0 (fun _ _ _ z => z.elim) (am_cons (pm_ix (pm_v (pv 3)) pm_int) (am_cons (pm_v (pv 1)) (am_cons (pm_v (pv 8)) (am_cons (pm_v (pv 6)) am_nil)))) (alen_cons (alen_cons (alen_cons (alen_cons alen_nil))))))
    (ss_one (sm_if (tm_cmp (sem_ne hu) (pm_ix (pm_v (pv 6)) (pm_ix (pm_v (pv 3)) pm_int)) (pm_ix (pm_v (pv 5)) (pm_v (pv 8))) (nomark _)) (ss_one (sm_ret pm_bl)) ss_nil)))))
    (ss_one (sm_ret pm_bl))))))))))
theorem ok_l_law (T : Tx K mg) : FnOk P w K mg base CX0 205 T.a_l_law T.d_l_law ["_law_script"] (spP K cx 1 f_l_law) :=
  fn_P (C := cx) (N := ["_law_script", "_law_three", "_law_half", "_law_made", "_law_signs", "_law_cell", "_law_tree", "_law_many", "_law_k", "_law_some"]) (ps := ["_law_script"]) (k := 204) (m := b_l_law) T.F_l_law sc_l_law fun cdv A outer s H E hr => by
    have hu := hr.units
    exact (ss_cons (sm_set (i := 1) (sc_l_law).nd rfl (.inl rfl) (pm_call (C := cx) (ok_l_three_by T) (hr.mono (by decide)) (by rfl) T.m_l_three_by T.F_l_three_by.kp T.b_l_three_by pass0 (fun _ _ _ z => z.elim) (am_cons (pm_call (C := cx) (ok_l_cell_at T) (hr.mono (by decide)) (by rfl) T.m_l_cell_at T.F_l_cell_at.kp T.b_l_cell_at pass0 (fun _ _ _ z => z.elim) (am_cons (pm_v (pv 0)) (am_cons pm_int am_nil)) (alen_cons (alen_cons alen_nil))) am_nil) (alen_cons alen_nil)))
    (ss_cons (sm_set (i := 2) (sc_l_law).nd rfl (.inl rfl) (pm_op sem_add pm_int (pm_op sem_div (pm_b1 sem_len (by rfl) T.n_len (by decide +kernel) (pm_v (pv 0))) pm_int)))
    (ss_cons (sm_set (i := 3) (sc_l_law).nd rfl (.inl rfl) (pm_call (C := cx) (ok_l_tree_by T) (hr.mono (by decide)) (by rfl) T.m_l_tree_by T.F_l_tree_by.kp T.b_l_tree_by pass0 (fun _ _ _ z => z.elim) (am_cons (pm_sl (pm_sl (pm_v (pv 0)) (om_s pm_int) (om_s (pm_v (pv 2)))) om_n (om_s pm_int)) (am_cons (pm_v (pv 1)) am_nil)) (alen_cons (alen_cons alen_nil))))
    (ss_cons (sm_set (i := 4) (sc_l_law).nd rfl (.inl rfl) (pm_call (C := cx) (ok_l_text_by T) (hr.mono (by decide)) (by rfl) T.m_l_text_by T.F_l_text_by.kp T.b_l_text_by pass0 (fun _ _ _ z => z.elim) (am_cons (pm_sl (pm_sl (pm_v (pv 0)) (om_s (pm_v (pv 2))) om_n) om_n (om_s pm_int)) (am_cons (pm_v (pv 1)) am_nil)) (alen_cons (alen_cons alen_nil))))
    (ss_cons (sm_set (i := 5) (sc_l_law).nd rfl (.inl rfl) (pm_call (C := cx) (ok_l_cell_at T) (hr.mono (by decide)) (by rfl) T.m_l_cell_at T.F_l_cell_at.kp T.b_l_cell_at pass0 (fun _ _ _ z => z.elim) (am_cons (pm_v (pv 0)) (am_cons pm_int am_nil)) (alen_cons (alen_cons alen_nil))))
    (ss_cons (sm_set (i := 6) (sc_l_law).nd rfl (.inl rfl) (pm_ix (pm_v (pv 3)) pm_int))
    (ss_cons (sm_set (i := 7) (sc_l_law).nd rfl (.inl rfl) (pm_op sem_add (pm_ix (pm_v (pv 3)) pm_int) pm_int))
    (ss_cons (sm_if (tm_cmp (sem_eq hu) (pm_op sem_mod (pm_v (pv 5)) pm_int) pm_int (nomark _)) (ss_cons (sm_set (i := 3) (sc_l_law).nd rfl (.inl rfl) (pm_call (C := cx) (ok_l_tree_by T) (hr.mono (by decide)) (by rfl) T.m_l_tree_by T.F_l_tree_by.kp T.b_l_tree_by pass0 (fun _ _ _ z => z.elim) (am_cons (pm_sl (pm_sl (pm_v (pv 0)) (om_s pm_int) (om_s (pm_v (pv 2)))) om_n (om_s pm_int)) (am_cons (pm_v (pv 1)) am_nil)) (alen_cons (alen_cons alen_nil))))
    (ss_cons (sm_set (i := 6) (sc_l_law).nd rfl (.inl rfl) (pm_ix (pm_v (pv 3)) pm_int))
    (ss_cons (sm_set (i := 7) (sc_l_law).nd rfl (.inl rfl) (pm_op sem_add (pm_ix (pm_v (pv 3)) pm_int) pm_int))
    (ss_cons (sm_for PassesOwn.never rfl (im_r1 (by rfl) T.n_range (pm_op sem_add pm_int (pm_op sem_mod (pm_call (C := cx) (ok_l_cell_at T) (hr.mono (by decide)) (by rfl) T.m_l_cell_at T.F_l_cell_at.kp T.b_l_cell_at pass0 (fun _ _ _ z => z.elim) (am_cons (pm_v (pv 0)) (am_cons pm_int am_nil)) (alen_cons (alen_cons alen_nil))) pm_int))) (pg_name (i := 8) (sc_l_law).nd rfl (.inl rfl)) (ss_cons (sm_set (i := 6) (sc_l_law).nd rfl (.inl rfl) (pm_tup (am_cons pm_str (am_cons (pm_v (pv 6)) (am_cons (pm_or (pm_cmp sem_gt (pm_op sem_mod (pm_op sem_div (pm_v (pv 5)) pm_int) pm_int) pm_int (nomark _)) (pm_one (pm_cmp (sem_eq hu) (pm_op sem_mod (pm_v (pv 8)) pm_int) pm_int (nomark _)))) am_nil)))))
    (ss_one (sm_set (i := 7) (sc_l_law).nd rfl (.inl rfl) (pm_op sem_add (pm_v (pv 7)) pm_int)))))
    (ss_one (sm_set (i := 4) (sc_l_law).nd rfl (.inl rfl) (pm_sl (pm_v (pv 4)) om_n (om_s pm_int)))))))) ss_nil)
    (ss_cons (sm_if (tm_cmp (sem_eq hu) (pm_op sem_mod (pm_v (pv 5)) pm_int) pm_int (nomark _)) (ss_cons (sm_set (i := 9) (sc_l_law).nd rfl (.inl rfl) (pm_op sem_add pm_int (pm_op sem_mod (pm_call (C := cx) (ok_l_cell_at T) (hr.mono (by decide)) (by rfl) T.m_l_cell_at T.F_l_cell_at.kp T.b_l_cell_at pass0 (fun _ _ _ z => z.elim) (am_cons (pm_v (pv 0)) (am_cons pm_int am_nil)) (alen_cons (alen_cons alen_nil))) pm_int)))
    (ss_cons (sm_set (i := 6) (sc_l_law).nd rfl (.inl rfl) (pm_call (C := cx) (ok_l_pick_by T) (hr.mono (by decide)) (by rfl) T.m_l_pick_by T.F_l_pick_by.kp T.b_l_pick_by pass0 (fun _ _ _ z => z.elim) (am_cons (pm_op sem_div (pm_v (pv 5)) pm_int) (am_cons (pm_v (pv 9)) am_nil)) (alen_cons (alen_cons alen_nil))))
    (ss_cons (sm_set (i := 4) (sc_l_law).nd rfl (.inl rfl) (pm_op sem_add (pm_call (C := cx) (ok_l_sign_by T) (hr.mono (by decide)) (by rfl) T.m_l_sign_by T.F_l_sign_by.kp T.b_l_sign_by pass0 (fun _ _ _ z => z.elim) (am_cons (pm_op sem_add (pm_op sem_div (pm_v (pv 5)) pm_int) (pm_op sem_mul pm_int (pm_op sem_mod (pm_op sem_div (pm_call (C := cx) (ok_l_cell_at T) (hr.mono (by decide)) (by rfl) T.m_l_cell_at T.F_l_cell_at.kp T.b_l_cell_at pass0 (fun _ _ _ z => z.elim) (am_cons (pm_v (pv 0)) (am_cons pm_int am_nil)) (alen_cons (alen_cons alen_nil))) pm_int) (pm_v (pv 9))))) am_nil) (alen_cons alen_nil)) (pm_sl (pm_v (pv 4)) om_n (om_s pm_int))))
    (ss_one (sm_set (i := 7) (sc_l_law).nd rfl (.inl rfl) (pm_op sem_add (pm_op sem_add (pm_op sem_mul pm_int (pm_v (pv 9))) pm_int) (pm_op sem_div (pm_op sem_add (pm_v (pv 9)) pm_int) pm_int))))))) ss_nil)
    (ss_one (sm_ret (pm_call (C := cx) (ok_l_led_right T) (hr.mono (by decide)) (by rfl) T.m_l_led_right T.F_l_led_right.kp T.b_l_led_right pass0 (fun _ _ _ z => z.elim) (am_cons (pm_v (pv 6)) (am_cons (pm_v (pv 4)) (am_cons (pm_v (pv 7)) am_nil))) (alen_cons (alen_cons (alen_cons alen_nil)))))))))))))))
end
def spLaw (K : PySem.W.Frag) : Sp := fun vs H Q _ => ∃ (a : Addr) (ns : List Int), vs = [.ref a] ∧ SqL K H a (ns.map V.int) ∧ ns.length ≤ 63 ∧ ∀ H', Q (.bl true) H'
theorem law_sp {K : PySem.W.Frag} (h : ∀ ns : List Int, ns.length ≤ 63 → f_l_law [.scr ns] = .ok (.bl true)) : ∀ vs H Q E, spLaw K vs H Q E → spP K cx 1 f_l_law vs H Q E := fun vs H Q E ⟨a, ns, e, hs, hl, q⟩ => by
  subst e
  refine ⟨rfl, [], [.scr ns], fun _ z => (nomatch z), ?_, ?_⟩
  · have : imm H [] [] = H := by funext b; unfold imm; simp
    rw [this]
    simp only [DrL, Dr]
    exact ⟨⟨a, rfl, hs⟩, trivial⟩
  · rw [h ns hl]
    intro v H' _ hd
    rw [Dr] at hd
    subst hd
    exact q H'
end Wk
end
namespace Wk
open PySem L2 Snd Bd Mini
theorem all_mk {l : PySem.W.OpenLaw} {w : World} {K : PySem.W.Frag} {h : Heap} {mg : Str → Option Value} {fa : Addr} (X : K.In h) (G : h.Ns mainGlobals mg) (hfa : mg "law" = some (.ref fa)) (main : ∀ ns : List Int, ns.length ≤ 63 → f_l_law [.scr ns] = .ok (.bl true))
    {f0 : Addr} {od0 an0 : Option Addr} {sl0 : Array (Option Value)} {oc0 kV0 dc0 pm0 cd0 ct0 : Value}
    {f1 : Addr} {od1 an1 : Option Addr} {sl1 : Array (Option Value)} {oc1 kV1 dc1 pm1 cd1 ct1 : Value}
    {f2 : Addr} {od2 an2 : Option Addr} {sl2 : Array (Option Value)} {oc2 kV2 dc2 pm2 cd2 ct2 : Value}
    {f3 : Addr} {od3 an3 : Option Addr} {sl3 : Array (Option Value)} {oc3 kV3 dc3 pm3 cd3 ct3 : Value}
    {f4 : Addr} {od4 an4 : Option Addr} {sl4 : Array (Option Value)} {oc4 kV4 dc4 pm4 cd4 ct4 : Value}
    {f5 : Addr} {od5 an5 : Option Addr} {sl5 : Array (Option Value)} {oc5 kV5 dc5 pm5 cd5 ct5 : Value}
    {f6 : Addr} {od6 an6 : Option Addr} {sl6 : Array (Option Value)} {oc6 kV6 dc6 pm6 cd6 ct6 : Value}
    {f7 : Addr} {od7 an7 : Option Addr} {sl7 : Array (Option Value)} {oc7 kV7 dc7 pm7 cd7 ct7 : Value}
    {f8 : Addr} {od8 an8 : Option Addr} {sl8 : Array (Option Value)} {oc8 kV8 dc8 pm8 cd8 ct8 : Value}
    {f9 : Addr} {od9 an9 : Option Addr} {sl9 : Array (Option Value)} {oc9 kV9 dc9 pm9 cd9 ct9 : Value}
    {f10 : Addr} {od10 an10 : Option Addr} {sl10 : Array (Option Value)} {oc10 kV10 dc10 pm10 cd10 ct10 : Value}
    {f11 : Addr} {od11 an11 : Option Addr} {sl11 : Array (Option Value)} {oc11 kV11 dc11 pm11 cd11 ct11 : Value}
    {f12 : Addr} {od12 an12 : Option Addr} {sl12 : Array (Option Value)} {oc12 kV12 dc12 pm12 cd12 ct12 : Value}
    {f13 : Addr} {od13 an13 : Option Addr} {sl13 : Array (Option Value)} {oc13 kV13 dc13 pm13 cd13 ct13 : Value}
    {f14 : Addr} {od14 an14 : Option Addr} {sl14 : Array (Option Value)} {oc14 kV14 dc14 pm14 cd14 ct14 : Value}
    {f15 : Addr} {od15 an15 : Option Addr} {sl15 : Array (Option Value)} {oc15 kV15 dc15 pm15 cd15 ct15 : Value}
    {f16 : Addr} {od16 an16 : Option Addr} {sl16 : Array (Option Value)} {oc16 kV16 dc16 pm16 cd16 ct16 : Value}
    {f17 : Addr} {od17 an17 : Option Addr} {sl17 : Array (Option Value)} {oc17 kV17 dc17 pm17 cd17 ct17 : Value}
    {f18 : Addr} {od18 an18 : Option Addr} {sl18 : Array (Option Value)} {oc18 kV18 dc18 pm18 cd18 ct18 : Value}
    {f19 : Addr} {od19 an19 : Option Addr} {sl19 : Array (Option Value)} {oc19 kV19 dc19 pm19 cd19 ct19 : Value}
    {f20 : Addr} {od20 an20 : Option Addr} {sl20 : Array (Option Value)} {oc20 kV20 dc20 pm20 cd20 ct20 : Value}
    {f21 : Addr} {od21 an21 : Option Addr} {sl21 : Array (Option Value)} {oc21 kV21 dc21 pm21 cd21 ct21 : Value}
    {f22 : Addr} {od22 an22 : Option Addr} {sl22 : Array (Option Value)} {oc22 kV22 dc22 pm22 cd22 ct22 : Value}
    {f23 : Addr} {od23 an23 : Option Addr} {sl23 : Array (Option Value)} {oc23 kV23 dc23 pm23 cd23 ct23 : Value}
    (a0 : PySem.W.nsIn K mainGlobals "parted" = some (some (.ref f0))) (l0 : K.lookup f0 = some ⟨oc0, od0, .func (PySem.W.fnOf "parted" "parted" (defArgs s_p_parted) (defBody s_p_parted) (defScope s_p_parted) .none kV0 dc0 pm0 an0 cd0 ct0), sl0⟩) (c0 : PySem.W.codeIn K cd0 "parted" = true) (k0 : PySem.W.keepIn K (.ref f0) = true)
    (a1 : PySem.W.nsIn K mainGlobals "picked" = some (some (.ref f1))) (l1 : K.lookup f1 = some ⟨oc1, od1, .func (PySem.W.fnOf "picked" "picked" (defArgs s_p_picked) (defBody s_p_picked) (defScope s_p_picked) .none kV1 dc1 pm1 an1 cd1 ct1), sl1⟩) (c1 : PySem.W.codeIn K cd1 "picked" = true) (k1 : PySem.W.keepIn K (.ref f1) = true)
    (a2 : PySem.W.nsIn K mainGlobals "built" = some (some (.ref f2))) (l2 : K.lookup f2 = some ⟨oc2, od2, .func (PySem.W.fnOf "built" "built" (defArgs s_p_built) (defBody s_p_built) (defScope s_p_built) .none kV2 dc2 pm2 an2 cd2 ct2), sl2⟩) (c2 : PySem.W.codeIn K cd2 "built" = true) (k2 : PySem.W.keepIn K (.ref f2) = true)
    (a3 : PySem.W.nsIn K mainGlobals "net_of" = some (some (.ref f3))) (l3 : K.lookup f3 = some ⟨oc3, od3, .func (PySem.W.fnOf "net_of" "net_of" (defArgs s_p_net_of) (defBody s_p_net_of) (defScope s_p_net_of) .none kV3 dc3 pm3 an3 cd3 ct3), sl3⟩) (c3 : PySem.W.codeIn K cd3 "net_of" = true) (k3 : PySem.W.keepIn K (.ref f3) = true)
    (a4 : PySem.W.nsIn K mainGlobals "_law_cell_at" = some (some (.ref f4))) (l4 : K.lookup f4 = some ⟨oc4, od4, .func (PySem.W.fnOf "_law_cell_at" "_law_cell_at" (defArgs s_l_cell_at) (defBody s_l_cell_at) (defScope s_l_cell_at) .none kV4 dc4 pm4 an4 cd4 ct4), sl4⟩) (c4 : PySem.W.codeIn K cd4 "_law_cell_at" = true) (k4 : PySem.W.keepIn K (.ref f4) = true)
    (a5 : PySem.W.nsIn K mainGlobals "_law_sign_by" = some (some (.ref f5))) (l5 : K.lookup f5 = some ⟨oc5, od5, .func (PySem.W.fnOf "_law_sign_by" "_law_sign_by" (defArgs s_l_sign_by) (defBody s_l_sign_by) (defScope s_l_sign_by) .none kV5 dc5 pm5 an5 cd5 ct5), sl5⟩) (c5 : PySem.W.codeIn K cd5 "_law_sign_by" = true) (k5 : PySem.W.keepIn K (.ref f5) = true)
    (a6 : PySem.W.nsIn K mainGlobals "_law_three_by" = some (some (.ref f6))) (l6 : K.lookup f6 = some ⟨oc6, od6, .func (PySem.W.fnOf "_law_three_by" "_law_three_by" (defArgs s_l_three_by) (defBody s_l_three_by) (defScope s_l_three_by) .none kV6 dc6 pm6 an6 cd6 ct6), sl6⟩) (c6 : PySem.W.codeIn K cd6 "_law_three_by" = true) (k6 : PySem.W.keepIn K (.ref f6) = true)
    (a7 : PySem.W.nsIn K mainGlobals "_law_whole" = some (some (.ref f7))) (l7 : K.lookup f7 = some ⟨oc7, od7, .func (PySem.W.fnOf "_law_whole" "_law_whole" (defArgs s_l_whole) (defBody s_l_whole) (defScope s_l_whole) .none kV7 dc7 pm7 an7 cd7 ct7), sl7⟩) (c7 : PySem.W.codeIn K cd7 "_law_whole" = true) (k7 : PySem.W.keepIn K (.ref f7) = true)
    (a8 : PySem.W.nsIn K mainGlobals "_law_take_by" = some (some (.ref f8))) (l8 : K.lookup f8 = some ⟨oc8, od8, .func (PySem.W.fnOf "_law_take_by" "_law_take_by" (defArgs s_l_take_by) (defBody s_l_take_by) (defScope s_l_take_by) .none kV8 dc8 pm8 an8 cd8 ct8), sl8⟩) (c8 : PySem.W.codeIn K cd8 "_law_take_by" = true) (k8 : PySem.W.keepIn K (.ref f8) = true)
    (a9 : PySem.W.nsIn K mainGlobals "_law_joined_by" = some (some (.ref f9))) (l9 : K.lookup f9 = some ⟨oc9, od9, .func (PySem.W.fnOf "_law_joined_by" "_law_joined_by" (defArgs s_l_joined_by) (defBody s_l_joined_by) (defScope s_l_joined_by) .none kV9 dc9 pm9 an9 cd9 ct9), sl9⟩) (c9 : PySem.W.codeIn K cd9 "_law_joined_by" = true) (k9 : PySem.W.keepIn K (.ref f9) = true)
    (a10 : PySem.W.nsIn K mainGlobals "_law_put_by" = some (some (.ref f10))) (l10 : K.lookup f10 = some ⟨oc10, od10, .func (PySem.W.fnOf "_law_put_by" "_law_put_by" (defArgs s_l_put_by) (defBody s_l_put_by) (defScope s_l_put_by) .none kV10 dc10 pm10 an10 cd10 ct10), sl10⟩) (c10 : PySem.W.codeIn K cd10 "_law_put_by" = true) (k10 : PySem.W.keepIn K (.ref f10) = true)
    (a11 : PySem.W.nsIn K mainGlobals "_law_tree_by" = some (some (.ref f11))) (l11 : K.lookup f11 = some ⟨oc11, od11, .func (PySem.W.fnOf "_law_tree_by" "_law_tree_by" (defArgs s_l_tree_by) (defBody s_l_tree_by) (defScope s_l_tree_by) .none kV11 dc11 pm11 an11 cd11 ct11), sl11⟩) (c11 : PySem.W.codeIn K cd11 "_law_tree_by" = true) (k11 : PySem.W.keepIn K (.ref f11) = true)
    (a12 : PySem.W.nsIn K mainGlobals "_law_text_by" = some (some (.ref f12))) (l12 : K.lookup f12 = some ⟨oc12, od12, .func (PySem.W.fnOf "_law_text_by" "_law_text_by" (defArgs s_l_text_by) (defBody s_l_text_by) (defScope s_l_text_by) .none kV12 dc12 pm12 an12 cd12 ct12), sl12⟩) (c12 : PySem.W.codeIn K cd12 "_law_text_by" = true) (k12 : PySem.W.keepIn K (.ref f12) = true)
    (a13 : PySem.W.nsIn K mainGlobals "_law_once" = some (some (.ref f13))) (l13 : K.lookup f13 = some ⟨oc13, od13, .func (PySem.W.fnOf "_law_once" "_law_once" (defArgs s_l_once) (defBody s_l_once) (defScope s_l_once) .none kV13 dc13 pm13 an13 cd13 ct13), sl13⟩) (c13 : PySem.W.codeIn K cd13 "_law_once" = true) (k13 : PySem.W.keepIn K (.ref f13) = true)
    (a14 : PySem.W.nsIn K mainGlobals "_law_behind" = some (some (.ref f14))) (l14 : K.lookup f14 = some ⟨oc14, od14, .func (PySem.W.fnOf "_law_behind" "_law_behind" (defArgs s_l_behind) (defBody s_l_behind) (defScope s_l_behind) .none kV14 dc14 pm14 an14 cd14 ct14), sl14⟩) (c14 : PySem.W.codeIn K cd14 "_law_behind" = true) (k14 : PySem.W.keepIn K (.ref f14) = true)
    (a15 : PySem.W.nsIn K mainGlobals "_law_taken" = some (some (.ref f15))) (l15 : K.lookup f15 = some ⟨oc15, od15, .func (PySem.W.fnOf "_law_taken" "_law_taken" (defArgs s_l_taken) (defBody s_l_taken) (defScope s_l_taken) .none kV15 dc15 pm15 an15 cd15 ct15), sl15⟩) (c15 : PySem.W.codeIn K cd15 "_law_taken" = true) (k15 : PySem.W.keepIn K (.ref f15) = true)
    (a16 : PySem.W.nsIn K mainGlobals "_law_repeated" = some (some (.ref f16))) (l16 : K.lookup f16 = some ⟨oc16, od16, .func (PySem.W.fnOf "_law_repeated" "_law_repeated" (defArgs s_l_repeated) (defBody s_l_repeated) (defScope s_l_repeated) .none kV16 dc16 pm16 an16 cd16 ct16), sl16⟩) (c16 : PySem.W.codeIn K cd16 "_law_repeated" = true) (k16 : PySem.W.keepIn K (.ref f16) = true)
    (a17 : PySem.W.nsIn K mainGlobals "_law_ends" = some (some (.ref f17))) (l17 : K.lookup f17 = some ⟨oc17, od17, .func (PySem.W.fnOf "_law_ends" "_law_ends" (defArgs s_l_ends) (defBody s_l_ends) (defScope s_l_ends) .none kV17 dc17 pm17 an17 cd17 ct17), sl17⟩) (c17 : PySem.W.codeIn K cd17 "_law_ends" = true) (k17 : PySem.W.keepIn K (.ref f17) = true)
    (a18 : PySem.W.nsIn K mainGlobals "_law_step_right" = some (some (.ref f18))) (l18 : K.lookup f18 = some ⟨oc18, od18, .func (PySem.W.fnOf "_law_step_right" "_law_step_right" (defArgs s_l_step_right) (defBody s_l_step_right) (defScope s_l_step_right) .none kV18 dc18 pm18 an18 cd18 ct18), sl18⟩) (c18 : PySem.W.codeIn K cd18 "_law_step_right" = true) (k18 : PySem.W.keepIn K (.ref f18) = true)
    (a19 : PySem.W.nsIn K mainGlobals "_law_net_right" = some (some (.ref f19))) (l19 : K.lookup f19 = some ⟨oc19, od19, .func (PySem.W.fnOf "_law_net_right" "_law_net_right" (defArgs s_l_net_right) (defBody s_l_net_right) (defScope s_l_net_right) .none kV19 dc19 pm19 an19 cd19 ct19), sl19⟩) (c19 : PySem.W.codeIn K cd19 "_law_net_right" = true) (k19 : PySem.W.keepIn K (.ref f19) = true)
    (a20 : PySem.W.nsIn K mainGlobals "_law_led" = some (some (.ref f20))) (l20 : K.lookup f20 = some ⟨oc20, od20, .func (PySem.W.fnOf "_law_led" "_law_led" (defArgs s_l_led) (defBody s_l_led) (defScope s_l_led) .none kV20 dc20 pm20 an20 cd20 ct20), sl20⟩) (c20 : PySem.W.codeIn K cd20 "_law_led" = true) (k20 : PySem.W.keepIn K (.ref f20) = true)
    (a21 : PySem.W.nsIn K mainGlobals "_law_pick_by" = some (some (.ref f21))) (l21 : K.lookup f21 = some ⟨oc21, od21, .func (PySem.W.fnOf "_law_pick_by" "_law_pick_by" (defArgs s_l_pick_by) (defBody s_l_pick_by) (defScope s_l_pick_by) .none kV21 dc21 pm21 an21 cd21 ct21), sl21⟩) (c21 : PySem.W.codeIn K cd21 "_law_pick_by" = true) (k21 : PySem.W.keepIn K (.ref f21) = true)
    (a22 : PySem.W.nsIn K mainGlobals "_law_led_right" = some (some (.ref f22))) (l22 : K.lookup f22 = some ⟨oc22, od22, .func (PySem.W.fnOf "_law_led_right" "_law_led_right" (defArgs s_l_led_right) (defBody s_l_led_right) (defScope s_l_led_right) .none kV22 dc22 pm22 an22 cd22 ct22), sl22⟩) (c22 : PySem.W.codeIn K cd22 "_law_led_right" = true) (k22 : PySem.W.keepIn K (.ref f22) = true)
    (a23 : PySem.W.nsIn K mainGlobals "law" = some (some (.ref f23))) (l23 : K.lookup f23 = some ⟨oc23, od23, .func (PySem.W.fnOf "law" "law" (defArgs s_l_law) (defBody s_l_law) (defScope s_l_law) .none kV23 dc23 pm23 an23 cd23 ct23), sl23⟩) (c23 : PySem.W.codeIn K cd23 "law" = true) (k23 : PySem.W.keepIn K (.ref f23) = true)
    (z_all : PySem.W.nsIn K mainGlobals "all" = some none)
    (z_any : PySem.W.nsIn K mainGlobals "any" = some none)
    (z_bool : PySem.W.nsIn K mainGlobals "bool" = some none)
    (z_int : PySem.W.nsIn K mainGlobals "int" = some none)
    (z_isinstance : PySem.W.nsIn K mainGlobals "isinstance" = some none)
    (z_len : PySem.W.nsIn K mainGlobals "len" = some none)
    (z_list : PySem.W.nsIn K mainGlobals "list" = some none)
    (z_max : PySem.W.nsIn K mainGlobals "max" = some none)
    (z_min : PySem.W.nsIn K mainGlobals "min" = some none)
    (z_range : PySem.W.nsIn K mainGlobals "range" = some none)
    (z_reversed : PySem.W.nsIn K mainGlobals "reversed" = some none)
    (z_str : PySem.W.nsIn K mainGlobals "str" = some none)
    (z_sum : PySem.W.nsIn K mainGlobals "sum" = some none)
    (z_tuple : PySem.W.nsIn K mainGlobals "tuple" = some none) :
    ∃ fd : FuncData, (∀ (s : Shared) (v : Value), BindsTo s fd ⟨[v], []⟩ [("_law_script", v)]) ∧ ∀ base : Heap, K.In base → base.Ns mainGlobals mg → FnOk l.prog w K mg base CX0 205 fa fd ["_law_script"] (spLaw K) := by
  have e := hfa.symm.trans (PySem.W.mg_of X G a23)
  cases e
  have F0 := fun_mk (st := s_p_parted) l0 c0 k0
  have b0 := F0.binds (ps := ["entry", "then", "eager"]) fun _ _ _ _ _ _ us hl => match us, hl with | [_, _, _], _ => rfl
  have F1 := fun_mk (st := s_p_picked) l1 c1 k1
  have b1 := F1.binds (ps := ["parts", "then", "steps"]) fun _ _ _ _ _ _ us hl => match us, hl with | [_, _, _], _ => rfl
  have F2 := fun_mk (st := s_p_built) l2 c2 k2
  have b2 := F2.binds (ps := ["tree", "then", "steps"]) fun _ _ _ _ _ _ us hl => match us, hl with | [_, _, _], _ => rfl
  have F3 := fun_mk (st := s_p_net_of) l3 c3 k3
  have b3 := F3.binds (ps := ["tree"]) fun _ _ _ _ _ _ us hl => match us, hl with | [_], _ => rfl
  have F4 := fun_mk (st := s_l_cell_at) l4 c4 k4
  have b4 := F4.binds (ps := ["_law_script", "_law_k"]) fun _ _ _ _ _ _ us hl => match us, hl with | [_, _], _ => rfl
  have F5 := fun_mk (st := s_l_sign_by) l5 c5 k5
  have b5 := F5.binds (ps := ["_law_cell"]) fun _ _ _ _ _ _ us hl => match us, hl with | [_], _ => rfl
  have F6 := fun_mk (st := s_l_three_by) l6 c6 k6
  have b6 := F6.binds (ps := ["_law_cell"]) fun _ _ _ _ _ _ us hl => match us, hl with | [_], _ => rfl
  have F7 := fun_mk (st := s_l_whole) l7 c7 k7
  have b7 := F7.binds (ps := ["_law_found"]) fun _ _ _ _ _ _ us hl => match us, hl with | [_], _ => rfl
  have F8 := fun_mk (st := s_l_take_by) l8 c8 k8
  have b8 := F8.binds (ps := ["_law_cell", "_law_three"]) fun _ _ _ _ _ _ us hl => match us, hl with | [_, _], _ => rfl
  have F9 := fun_mk (st := s_l_joined_by) l9 c9 k9
  have b9 := F9.binds (ps := ["_law_way", "_law_stack", "_law_many"]) fun _ _ _ _ _ _ us hl => match us, hl with | [_, _, _], _ => rfl
  have F10 := fun_mk (st := s_l_put_by) l10 c10 k10
  have b10 := F10.binds (ps := ["_law_stack", "_law_cell", "_law_three"]) fun _ _ _ _ _ _ us hl => match us, hl with | [_, _, _], _ => rfl
  have F11 := fun_mk (st := s_l_tree_by) l11 c11 k11
  have b11 := F11.binds (ps := ["_law_cells", "_law_three"]) fun _ _ _ _ _ _ us hl => match us, hl with | [_, _], _ => rfl
  have F12 := fun_mk (st := s_l_text_by) l12 c12 k12
  have b12 := F12.binds (ps := ["_law_cells", "_law_three"]) fun _ _ _ _ _ _ us hl => match us, hl with | [_, _], _ => rfl
  have F13 := fun_mk (st := s_l_once) l13 c13 k13
  have b13 := F13.binds (ps := ["_law_ends_here"]) fun _ _ _ _ _ _ us hl => match us, hl with | [_], _ => rfl
  have F14 := fun_mk (st := s_l_behind) l14 c14 k14
  have b14 := F14.binds (ps := ["_law_ends_here", "_law_more"]) fun _ _ _ _ _ _ us hl => match us, hl with | [_, _], _ => rfl
  have F15 := fun_mk (st := s_l_taken) l15 c15 k15
  have b15 := F15.binds (ps := ["_law_tree", "_law_signs", "_law_at"]) fun _ _ _ _ _ _ us hl => match us, hl with | [_, _, _], _ => rfl
  have F16 := fun_mk (st := s_l_repeated) l16 c16 k16
  have b16 := F16.binds (ps := ["_law_tree", "_law_more"]) fun _ _ _ _ _ _ us hl => match us, hl with | [_, _], _ => rfl
  have F17 := fun_mk (st := s_l_ends) l17 c17 k17
  have b17 := F17.binds (ps := ["_law_tree", "_law_signs"]) fun _ _ _ _ _ _ us hl => match us, hl with | [_, _], _ => rfl
  have F18 := fun_mk (st := s_l_step_right) l18 c18 k18
  have b18 := F18.binds (ps := ["_law_step", "_law_many"]) fun _ _ _ _ _ _ us hl => match us, hl with | [_, _], _ => rfl
  have F19 := fun_mk (st := s_l_net_right) l19 c19 k19
  have b19 := F19.binds (ps := ["_law_net", "_law_many"]) fun _ _ _ _ _ _ us hl => match us, hl with | [_, _], _ => rfl
  have F20 := fun_mk (st := s_l_led) l20 c20 k20
  have b20 := F20.binds (ps := ["_law_steps", "_law_signs", "_law_at", "_law_further"]) fun _ _ _ _ _ _ us hl => match us, hl with | [_, _, _, _], _ => rfl
  have F21 := fun_mk (st := s_l_pick_by) l21 c21 k21
  have b21 := F21.binds (ps := ["_law_cell", "_law_many"]) fun _ _ _ _ _ _ us hl => match us, hl with | [_, _], _ => rfl
  have F22 := fun_mk (st := s_l_led_right) l22 c22 k22
  have b22 := F22.binds (ps := ["_law_tree", "_law_signs", "_law_many"]) fun _ _ _ _ _ _ us hl => match us, hl with | [_, _, _], _ => rfl
  have F23 := fun_mk (st := s_l_law) l23 c23 k23
  have b23 := F23.binds (ps := ["_law_script"]) fun _ _ _ _ _ _ us hl => match us, hl with | [_], _ => rfl
  let T : Tx K mg := { a_p_parted := _, d_p_parted := _, F_p_parted := F0, m_p_parted := PySem.W.mg_of X G a0, b_p_parted := b0, a_p_picked := _, d_p_picked := _, F_p_picked := F1, m_p_picked := PySem.W.mg_of X G a1, b_p_picked := b1, a_p_built := _, d_p_built := _, F_p_built := F2, m_p_built := PySem.W.mg_of X G a2, b_p_built := b2, a_p_net_of := _, d_p_net_of := _, F_p_net_of := F3, m_p_net_of := PySem.W.mg_of X G a3, b_p_net_of := b3, a_l_cell_at := _, d_l_cell_at := _, F_l_cell_at := F4, m_l_cell_at := PySem.W.mg_of X G a4, b_l_cell_at := b4, a_l_sign_by := _, d_l_sign_by := _, F_l_sign_by := F5, m_l_sign_by := PySem.W.mg_of X G a5, b_l_sign_by := b5, a_l_three_by := _, d_l_three_by := _, F_l_three_by := F6, m_l_three_by := PySem.W.mg_of X G a6, b_l_three_by := b6, a_l_whole := _, d_l_whole := _, F_l_whole := F7, m_l_whole := PySem.W.mg_of X G a7, b_l_whole := b7, a_l_take_by := _, d_l_take_by := _, F_l_take_by := F8, m_l_take_by := PySem.W.mg_of X G a8, b_l_take_by := b8, a_l_joined_by := _, d_l_joined_by := _, F_l_joined_by := F9, m_l_joined_by := PySem.W.mg_of X G a9, b_l_joined_by := b9, a_l_put_by := _, d_l_put_by := _, F_l_put_by := F10, m_l_put_by := PySem.W.mg_of X G a10, b_l_put_by := b10, a_l_tree_by := _, d_l_tree_by := _, F_l_tree_by := F11, m_l_tree_by := PySem.W.mg_of X G a11, b_l_tree_by := b11, a_l_text_by := _, d_l_text_by := _, F_l_text_by := F12, m_l_text_by := PySem.W.mg_of X G a12, b_l_text_by := b12, a_l_once := _, d_l_once := _, F_l_once := F13, m_l_once := PySem.W.mg_of X G a13, b_l_once := b13, a_l_behind := _, d_l_behind := _, F_l_behind := F14, m_l_behind := PySem.W.mg_of X G a14, b_l_behind := b14, a_l_taken := _, d_l_taken := _, F_l_taken := F15, m_l_taken := PySem.W.mg_of X G a15, b_l_taken := b15, a_l_repeated := _, d_l_repeated := _, F_l_repeated := F16, m_l_repeated := PySem.W.mg_of X G a16, b_l_repeated := b16, a_l_ends := _, d_l_ends := _, F_l_ends := F17, m_l_ends := PySem.W.mg_of X G a17, b_l_ends := b17, a_l_step_right := _, d_l_step_right := _, F_l_step_right := F18, m_l_step_right := PySem.W.mg_of X G a18, b_l_step_right := b18, a_l_net_right := _, d_l_net_right := _, F_l_net_right := F19, m_l_net_right := PySem.W.mg_of X G a19, b_l_net_right := b19, a_l_led := _, d_l_led := _, F_l_led := F20, m_l_led := PySem.W.mg_of X G a20, b_l_led := b20, a_l_pick_by := _, d_l_pick_by := _, F_l_pick_by := F21, m_l_pick_by := PySem.W.mg_of X G a21, b_l_pick_by := b21, a_l_led_right := _, d_l_led_right := _, F_l_led_right := F22, m_l_led_right := PySem.W.mg_of X G a22, b_l_led_right := b22, a_l_law := _, d_l_law := _, F_l_law := F23, m_l_law := PySem.W.mg_of X G a23, b_l_law := b23, n_all := PySem.W.mg_none_of X G z_all, n_any := PySem.W.mg_none_of X G z_any, n_bool := PySem.W.mg_none_of X G z_bool, n_int := PySem.W.mg_none_of X G z_int, n_isinstance := PySem.W.mg_none_of X G z_isinstance, n_len := PySem.W.mg_none_of X G z_len, n_list := PySem.W.mg_none_of X G z_list, n_max := PySem.W.mg_none_of X G z_max, n_min := PySem.W.mg_none_of X G z_min, n_range := PySem.W.mg_none_of X G z_range, n_reversed := PySem.W.mg_none_of X G z_reversed, n_str := PySem.W.mg_none_of X G z_str, n_sum := PySem.W.mg_none_of X G z_sum, n_tuple := PySem.W.mg_none_of X G z_tuple }
  refine ⟨PySem.W.fnOf "law" "law" (defArgs s_l_law) (defBody s_l_law) (defScope s_l_law) .none kV23 dc23 pm23 an23 cd23 ct23, fun s v => .of_eq rfl, fun base _ _ => ?_⟩
  exact (ok_l_law (P := l.prog) (w := w) (base := base) T).imp (law_sp main)
end Wk
open PySem PySem.W PyProof.Rows
set_option maxRecDepth 100000 in
set_option maxHeartbeats 0 in
theorem PySem.Challenge.cw_patternback_k07_nets_holds : PySem.Challenge.rw_patternback_k07_nets.Holds := by
  w_on; o_law; k_head; (case hw => w_witness2)
  k_fill
  refine L2.walk_of (l := PySem.Challenge.rw_patternback_k07_nets) (n := 63) (k := 205) (x := "_law_script") (CX := fun _ => L2.CX0) (sp := fun w => Wk.spLaw _) rfl (by decide) rfl ⟨rfl, by decide, by decide⟩ (fun w h Y => PySem.W.kIn_of Y) ?F (fun _ _ a ns hl _ hS => ⟨a, ns, rfl, hS, hl, fun _ => rfl⟩) (fun _ _ _ _ _ h => h)
  case F =>
    intro w mg fa h KX G hmg
    refine' Wk.all_mk KX G hmg Mt.main ?a0 ?l0 ?c0 ?k0 ?a1 ?l1 ?c1 ?k1 ?a2 ?l2 ?c2 ?k2 ?a3 ?l3 ?c3 ?k3 ?a4 ?l4 ?c4 ?k4 ?a5 ?l5 ?c5 ?k5 ?a6 ?l6 ?c6 ?k6 ?a7 ?l7 ?c7 ?k7 ?a8 ?l8 ?c8 ?k8 ?a9 ?l9 ?c9 ?k9 ?a10 ?l10 ?c10 ?k10 ?a11 ?l11 ?c11 ?k11 ?a12 ?l12 ?c12 ?k12 ?a13 ?l13 ?c13 ?k13 ?a14 ?l14 ?c14 ?k14 ?a15 ?l15 ?c15 ?k15 ?a16 ?l16 ?c16 ?k16 ?a17 ?l17 ?c17 ?k17 ?a18 ?l18 ?c18 ?k18 ?a19 ?l19 ?c19 ?k19 ?a20 ?l20 ?c20 ?k20 ?a21 ?l21 ?c21 ?k21 ?a22 ?l22 ?c22 ?k22 ?a23 ?l23 ?c23 ?k23 ?z_all ?z_any ?z_bool ?z_int ?z_isinstance ?z_len ?z_list ?z_max ?z_min ?z_range ?z_reversed ?z_str ?z_sum ?z_tuple
    (case a0 => k_is)
    (case l0 => k_is)
    (case c0 => k_is)
    (case k0 => k_is)
    (case a1 => k_is)
    (case l1 => k_is)
    (case c1 => k_is)
    (case k1 => k_is)
    (case a2 => k_is)
    (case l2 => k_is)
    (case c2 => k_is)
    (case k2 => k_is)
    (case a3 => k_is)
    (case l3 => k_is)
    (case c3 => k_is)
    (case k3 => k_is)
    (case a4 => k_is)
    (case l4 => k_is)
    (case c4 => k_is)
    (case k4 => k_is)
    (case a5 => k_is)
    (case l5 => k_is)
    (case c5 => k_is)
    (case k5 => k_is)
    (case a6 => k_is)
    (case l6 => k_is)
    (case c6 => k_is)
    (case k6 => k_is)
    (case a7 => k_is)
    (case l7 => k_is)
    (case c7 => k_is)
    (case k7 => k_is)
    (case a8 => k_is)
    (case l8 => k_is)
    (case c8 => k_is)
    (case k8 => k_is)
    (case a9 => k_is)
    (case l9 => k_is)
    (case c9 => k_is)
    (case k9 => k_is)
    (case a10 => k_is)
    (case l10 => k_is)
    (case c10 => k_is)
    (case k10 => k_is)
    (case a11 => k_is)
    (case l11 => k_is)
    (case c11 => k_is)
    (case k11 => k_is)
    (case a12 => k_is)
    (case l12 => k_is)
    (case c12 => k_is)
    (case k12 => k_is)
    (case a13 => k_is)
    (case l13 => k_is)
    (case c13 => k_is)
    (case k13 => k_is)
    (case a14 => k_is)
    (case l14 => k_is)
    (case c14 => k_is)
    (case k14 => k_is)
    (case a15 => k_is)
    (case l15 => k_is)
    (case c15 => k_is)
    (case k15 => k_is)
    (case a16 => k_is)
    (case l16 => k_is)
    (case c16 => k_is)
    (case k16 => k_is)
    (case a17 => k_is)
    (case l17 => k_is)
    (case c17 => k_is)
    (case k17 => k_is)
    (case a18 => k_is)
    (case l18 => k_is)
    (case c18 => k_is)
    (case k18 => k_is)
    (case a19 => k_is)
    (case l19 => k_is)
    (case c19 => k_is)
    (case k19 => k_is)
    (case a20 => k_is)
    (case l20 => k_is)
    (case c20 => k_is)
    (case k20 => k_is)
    (case a21 => k_is)
    (case l21 => k_is)
    (case c21 => k_is)
    (case k21 => k_is)
    (case a22 => k_is)
    (case l22 => k_is)
    (case c22 => k_is)
    (case k22 => k_is)
    (case a23 => k_is)
    (case l23 => k_is)
    (case c23 => k_is)
    (case k23 => k_is)
    (case z_all => k_is)
    (case z_any => k_is)
    (case z_bool => k_is)
    (case z_int => k_is)
    (case z_isinstance => k_is)
    (case z_len => k_is)
    (case z_list => k_is)
    (case z_max => k_is)
    (case z_min => k_is)
    (case z_range => k_is)
    (case z_reversed => k_is)
    (case z_str => k_is)
    (case z_sum => k_is)
    (case z_tuple => k_is)
#print axioms PySem.Challenge.cw_patternback_k07_nets_holds
